/- The document's disk: what an act does. -/
import Derived.Test.YtncmmhfgcgnojaaR4
set_option maxRecDepth 100000
namespace Go.Proofs.Ytncmmhfgcgnojaa
open Go Go.Eng

theorem rfCs_snoc (l : List RFi) (x : RFi) : rfCs (l ++ [x]) = rfCs l ++ rfC x := rows_snoc l x
theorem rfCs_one (l : List RFi) : ∀ v ∈ rfCs l, v.oneCell' = true := by
  intro v hv
  obtain ⟨f, _, hf⟩ := List.mem_flatMap.1 hv
  simp only [rfC, List.mem_cons, List.not_mem_nil, or_false] at hf
  rcases hf with rfl | rfl <;> rfl
theorem rc_snoc {s : Ds} {y : RLay} (hy : RLayOk s y) (c c' : Ch) (h : norm c = c') : (y.rc ++ [c]).map norm = s.chg ++ [c'] := by rw [List.map_append, hy.rc, List.map_cons, h]; rfl
theorem norm_to {c : Ch} (h : c.to ≠ []) : norm c = c := by unfold norm; rw [if_neg h]
theorem legal_ne {n : Nm} (h : legalM n = true) : n ≠ [] := by rintro rfl; exact absurd h (by decide)
set_option maxHeartbeats 2000000 in
theorem does_fn (b : Nat) (s : Ds) (hS : Inv s) (hn : s.acts ≤ 10000) (k : Nat) (hk5 : k ≤ 5) (name to : Nm) (pa : Option Addr) (n pc : Nat) (p : List UInt8) (hpn : n = p.length) (hp : p.length ≤ 2097152) (hpc : p.length ≤ pc) :
    FnS Try.prog 69 [.pointer (some ⟨b, 0, none⟩), .int .i64 (k : Int), strv name, strv to, .slice pa n pc] (fun h => Rdl h pa (bcells p)) [Rk b s] (fun v H => v = .int .i64 ((doM s k name to p).2 : Int) ∧ H = [Rk b (doM s k name to p).1]) := by
  subst hpn
  have hnm := hS.names
  have hfb := hS.fb
  have hnf := hS.nf
  have hnn := hS.nn
  refine open_rk fun y hy => ?_
  have hrl := rrc_len hy
  have hfl := rlay_len hy
  have hcl : (rfCs y.fl).length = s.files.length * 2 := by rw [rfCs_len, hfl]
  unfold rkL rkC
  simp only [nap, cap]


  refine fn_body Try.func69 rfl Try.ntmps69 rfl ?_
  intro F hR
  refine g_sr ?_
  refine Li As ?_
  refine g_ne ?_
  refine g_seq ?_
  refine g_sr ?_
  refine Li Mv ?_
  refine Li Cm ?_
  refine g_ne ?_
  refine g_cond rfl ?_ ?_
  · intro h5
    replace h5 := nrm h5
    obtain rfl : k = 5 := by omega
    rw [show doM s 5 name to p = (syncN s, 0) from rfl]
    refine g_sr ?_
    refine Li Mv ?_
    refine Li Mv ?_
    refine Lp (oC T.fn_61 rfl rfl (names_fn b s y hS hn hy) .nil (fun _ _ hin => ⟨hin.nth 0 rfl, hin.nth 1 rfl, hin.nth 2 rfl, hin.nth 3 rfl, hin.nth 4 rfl, hin.nth 5 rfl, trivial⟩) ?_)
    rintro v H' ⟨a, c, rfl, rfl⟩
    try simp only [nap, cap]
    refine Li Nc ?_
    refine Li (Fa T.fld_70_2) ?_
    refine Lp (oS T.sc_67 ?_)
    refine g_ne ?_
    refine g_sr ?_
    refine Li Mv ?_
    refine Li Nc ?_
    refine Li (Fa T.fld_70_3) ?_
    refine Lp (oS T.sc_68 ?_)
    refine g_ne ?_
    refine g_sr ?_
    refine Li As ?_
    refine g_ne ?_
    refine g_ret ?_
    refine e_then_ret ?_
    refine g_nilrow 116 3 ?_
    refine Hh (H' := [pts b 70 (rkC (syncN s) { y with sa := a, sc := c, ca := none, cc := 0, rc := [] }), own y.fa y.fc 93 2 (rfCs y.fl), stars (y.fl.map rfH), own a c 113 2 (nmCs (namesL s)), own none 0 116 3 (chCs []), own y.pa y.pc 119 3 (ftCs s.plan)]) ?_
    refine g_heap (H' := [Rk b (syncN s)]) (fun _ x => close_rk (H := []) (y := { y with sa := a, sc := c, ca := none, cc := 0, rc := [] }) ⟨hy.fl, rfl⟩ x) ?_
    refine Rt [Rk b (syncN s)] Try.results69 ?_
    exact ⟨rfl, rfl⟩
  · intro h5
    replace h5 := nrm h5
    have hk : k ≠ 5 := by omega
    refine g_skip ?_
    refine e_then ?_
    refine g_seq ?_
    refine g_seq ?_
    refine g_mid (ι := Unit) [23, 24, 25, 26, 27, 28, 29, 30, 31, 32, 33, 34] (fun u => True) (fun u => [(34, .bool (!legalM name || (decide ((k : Int) = 3) && !legalM to)))]) (fun u => [pts b 70 (rkC s y), own y.fa y.fc 93 2 (rfCs y.fl), stars (y.fl.map rfH), own y.sa y.sc 113 2 (nmCs s.safe), own y.ca y.cc 116 3 (chCs y.rc), own y.pa y.pc 119 3 (ftCs s.plan)]) ?_ ?_
    · refine g_region ?_
      refine Li Mv ?_
      refine Lp (oC T.fn_59 rfl rfl (legal_fn _) .nil (fun _ _ _ => trivial) ?_)
      rintro v H' ⟨rfl, rfl⟩
      try simp only [nap, cap]
      refine Li Nt ?_
      refine Li Mv ?_
      refine g_split (t := 26) rfl ?_ ?_
      · intro hb0
        replace hb0 := nrm hb0
        refine Lx ?_
        refine Lx ?_
        refine Lx ?_
        refine Lx ?_
        refine Lx ?_
        refine Lx ?_
        refine Lx ?_
        refine Li Pt ?_
        refine g_nil ?_
        refine g_slot (t := 34) (v' := .bool (!legalM name || (decide ((k : Int) = 3) && !legalM to))) rfl (by refine congrArg Value.bool ?_; simp [*]) ?_
        refine Me (()) (trivial)
      · intro hb0
        replace hb0 := nrm hb0
        refine Li Mv ?_
        refine Li Cm ?_
        refine Li Mv ?_
        refine g_split (t := 29) rfl ?_ ?_
        · intro hb1
          replace hb1 := nrm hb1
          refine Li Mv ?_
          refine Lp (oC T.fn_59 rfl rfl (legal_fn _) .nil (fun _ _ _ => trivial) ?_)
          rintro v H' ⟨rfl, rfl⟩
          try simp only [nap, cap]
          refine Li Nt ?_
          refine Li Pt ?_
          refine Li Pf ?_
          refine g_nil ?_
          refine g_slot (t := 34) (v' := .bool (!legalM name || (decide ((k : Int) = 3) && !legalM to))) rfl (by refine congrArg Value.bool ?_; simp [*]) ?_
          refine Me (()) (trivial)
        · intro hb1
          replace hb1 := nrm hb1
          refine Lx ?_
          refine Lx ?_
          refine Lx ?_
          refine Li Pf ?_
          refine Li Pf ?_
          refine g_nil ?_
          refine g_slot (t := 34) (v' := .bool (!legalM name || (decide ((k : Int) = 3) && !legalM to))) rfl (by refine congrArg Value.bool ?_; simp [*]) ?_
          refine Me (()) (trivial)
    rintro u hI
    unfold rkC
    refine g_cond rfl ?_ ?_
    · intro hb
      replace hb := nrm hb
      have hd : doM s k name to p = (s, 186) := by
        unfold doM
        rw [if_neg hk, if_pos]
        rcases hb with h | ⟨h, h2⟩
        · exact .inl h
        · exact .inr ⟨by omega, h2⟩
      rw [hd]
      refine g_sr ?_
      refine Li As ?_
      refine g_ne ?_
      refine g_ret ?_
      refine e_then_ret ?_
      refine Hh (H' := [pts b 70 (rkC s y), own y.fa y.fc 93 2 (rfCs y.fl), stars (y.fl.map rfH), own y.sa y.sc 113 2 (nmCs s.safe), own y.ca y.cc 116 3 (chCs y.rc), own y.pa y.pc 119 3 (ftCs s.plan)]) ?_
      refine g_heap (H' := [Rk b s]) (fun _ x => close_rk (H := []) hy x) ?_
      refine Rt [Rk b s] Try.results69 ?_
      exact ⟨rfl, rfl⟩
    · intro hb
      replace hb := nrm hb
      have hl : legalM name = true ∧ (k = 3 → legalM to = true) := by
        cases h1 : legalM name <;> cases h2 : legalM to <;> simp [h1, h2] at hb ⊢
        · omega
      rw [do_ok hk hl.1 hl.2]
      refine g_skip ?_
      refine e_then ?_
      refine g_sr ?_
      refine Li Mv ?_
      refine Li Mv ?_
      refine Lp (oC T.fn_60 rfl rfl (at_fn b s y hS hn hy name) .nil (fun _ _ hin => ⟨hin.nth 0 rfl, hin.nth 1 rfl, hin.nth 2 rfl, hin.nth 3 rfl, hin.nth 4 rfl, hin.nth 5 rfl, trivial⟩) ?_)
      rintro v H' ⟨rfl, rfl⟩
      try simp only [nap, cap]
      rcases hat : atM (namesL s) name with _ | i
      · rw [show atI (namesL s) name = -1 from by unfold atI; rw [hat]]
        dsimp only
        refine Li As ?_
        refine g_ne ?_
        refine g_seq ?_
        refine g_sr ?_
        refine Li Mv ?_
        refine Li Cm ?_
        refine g_ne ?_
        refine g_cond rfl ?_ ?_
        · intro h0
          replace h0 := nrm h0
          obtain rfl : k = 0 := by omega
          rw [if_pos rfl]
          refine g_seq ?_
          refine g_sr ?_
          refine Li Mv ?_
          refine Li Cm ?_
          refine g_ne ?_
          refine g_cond_f rfl (by rfl) ?_
          refine g_skip ?_
          refine e_then ?_
          refine g_sr ?_
          refine Li Mv ?_
          refine Li Mv ?_
          refine Li Nc ?_
          refine Li (Fa T.fld_70_1) ?_
          refine Lp (oL T.sc_66 ?_)
          refine Li (Bd T.zc_93 T.st_93) ?_
          refine Lp (oT1 T.ap_66 fun b1 => ?_)
          refine Lp (op_append_lit T.ap_66 T.ni_66 rfl rfl rfl rfl (.there .here) ((by rw [rfCs_len, hfl])) (rfl) (by simp [setL, Value.cells, Value.oneCell', strv]) (by first | omega | (simp; omega)) (by first | omega | (simp; omega)) rfl fun a5 c5 hc5 => ?_)
          refine Li Nc ?_
          refine Li (Fa T.fld_70_1) ?_
          refine Lp (oS T.sc_66 ?_)
          refine g_ne ?_
          refine g_seq ?_
          refine gTB 17 T.mix (.cons .here .nil) fun F1 le1 hin1 back1 => ?_
          obtain ⟨hb1, _⟩ := hin1
          refine Ti Mv ?_
          refine Ti Mv ?_
          refine Ti Nc ?_
          refine Ti (Fa T.fld_70_3) ?_
          refine Ti (Lf T.sc_68) ?_
          refine Ti Mv ?_
          refine Ti Mv ?_
          refine Ti Nc ?_
          refine Ti (Fa T.fld_70_1) ?_
          refine Ti (Lf T.sc_66) ?_
          refine Ti (Ln T.sl_66) ?_
          refine Ti Im ?_
          refine Ti (Bd T.zc_116 T.st_116) ?_
          refine Tp (oT1 T.ap_68 fun b2 => ?_)
          rw [show ((s.files.length + 1 : Nat) : Int) - 1 = (s.files.length : Int) from by omega]
          refine Tp (op_append_lit T.ap_68 T.ni_68 rfl rfl rfl rfl (.there (.there (.there .here))) ((by rw [chCs_len, hrl])) (rfl) (by simp [setL, Value.cells, Value.oneCell', strv]) (by first | omega | (simp; omega)) (by first | omega | (simp; omega)) rfl fun a6 c6 hc6 => ?_)
          refine Ti Nc ?_
          refine Ti (Fa T.fld_70_3) ?_
          refine TnB back1 ?_
          refine Tp (oS T.sc_68 ?_)
          refine Tne ?_
          refine g_sr ?_
          refine Li As ?_
          refine g_ne ?_
          refine g_ret ?_
          refine e_then_ret ?_
          have hl1 : s.files.length + 1 = (s.files ++ [(⟨[], 0⟩ : Fi)]).length := by simp
          have hl2 : s.chg.length + 1 = (s.chg ++ [(⟨[], name, s.files.length⟩ : Ch)]).length := by simp
          rw [hl1, hl2]
          refine g_nilrow 5 1 ?_
          refine Hh (H' := [own none 0 5 1 (bcells []), stars (y.fl.map rfH), pts b 70 (rkC (addF s name) { y with fa := a5, fc := c5, ca := a6, cc := c6 }), own a5 c5 93 2 (rfCs y.fl ++ rfC ⟨none, 0, ⟨[], 0⟩⟩), own y.sa y.sc 113 2 (nmCs s.safe), own a6 c6 116 3 (chCs y.rc ++ chC ⟨[], name, s.files.length⟩), own y.pa y.pc 119 3 (ftCs s.plan)]) ?_
          rw [← rfCs_snoc, show chCs y.rc ++ chC ⟨[], name, s.files.length⟩ = chCs (y.rc ++ [⟨[], name, s.files.length⟩]) from (rows_snoc _ _).symm]
          refine g_heap (fun _ x => stars_push x) ?_
          rw [show y.fl.map rfH ++ [own none 0 5 1 (bcells [])] = (y.fl ++ [(⟨none, 0, ⟨[], 0⟩⟩ : RFi)]).map rfH from by rw [List.map_append]; rfl]
          refine Hh (H' := [pts b 70 (rkC (addF s name) { y with fa := a5, fc := c5, ca := a6, cc := c6 }), own a5 c5 93 2 (rfCs (y.fl ++ [⟨none, 0, ⟨[], 0⟩⟩])), stars ((y.fl ++ [(⟨none, 0, ⟨[], 0⟩⟩ : RFi)]).map rfH), own y.sa y.sc 113 2 (nmCs s.safe), own a6 c6 116 3 (chCs (y.rc ++ [⟨[], name, s.files.length⟩])), own y.pa y.pc 119 3 (ftCs s.plan)]) ?_
          refine g_heap (H' := [Rk b (addF s name)]) (fun _ x => close_rk (H := []) (y := { y with fa := a5, fc := c5, ca := a6, cc := c6, fl := y.fl ++ [⟨none, 0, ⟨[], 0⟩⟩], rc := y.rc ++ [⟨[], name, s.files.length⟩] }) ⟨by rw [List.map_append, hy.fl]; rfl, rc_snoc hy _ _ (norm_to (legal_ne hl.1))⟩ x) ?_
          refine Rt [Rk b (addF s name)] Try.results69 ?_
          exact ⟨rfl, rfl⟩
        · intro h0
          replace h0 := nrm h0
          rw [if_neg (by omega)]
          refine g_skip ?_
          refine e_then ?_
          refine g_seq ?_
          refine g_sr ?_
          refine Li Mv ?_
          refine Li Cm ?_
          refine g_ne ?_
          refine g_cond_t rfl (by rfl) ?_
          refine g_sr ?_
          refine Li As ?_
          refine g_ne ?_
          refine g_ret ?_
          refine e_then_ret ?_
          refine Hh (H' := [pts b 70 (rkC s y), own y.fa y.fc 93 2 (rfCs y.fl), stars (y.fl.map rfH), own y.sa y.sc 113 2 (nmCs s.safe), own y.ca y.cc 116 3 (chCs y.rc), own y.pa y.pc 119 3 (ftCs s.plan)]) ?_
          refine g_heap (H' := [Rk b s]) (fun _ x => close_rk (H := []) hy x) ?_
          refine Rt [Rk b s] Try.results69 ?_
          exact ⟨rfl, rfl⟩
      · have hi : i < s.files.length := (hnm.sk _ (atM_mem hat)).2
        obtain ⟨x, hx, hxf⟩ := rlay_at hy hi
        have hxb := (hfb _ (fileM_mem hi)).1
        rw [← hxf] at hxb
        rw [show atI (namesL s) name = (i : Int) from by unfold atI; rw [hat]]
        dsimp only
        refine Li As ?_
        refine g_ne ?_
        refine g_seq ?_
        refine g_sr ?_
        refine Li Mv ?_
        refine Li Cm ?_
        refine g_ne ?_
        refine g_cond rfl ?_ ?_
        · intro h0
          replace h0 := nrm h0
          rw [if_pos (by omega)]
          refine g_seq ?_
          refine g_sr ?_
          refine Li Mv ?_
          refine Li Cm ?_
          refine g_ne ?_
          refine g_cond_t rfl (by simp) ?_
          refine g_sr ?_
          refine Li As ?_
          refine g_ne ?_
          refine g_ret ?_
          refine e_then_ret ?_
          refine e_then_ret ?_
          refine Hh (H' := [pts b 70 (rkC s y), own y.fa y.fc 93 2 (rfCs y.fl), stars (y.fl.map rfH), own y.sa y.sc 113 2 (nmCs s.safe), own y.ca y.cc 116 3 (chCs y.rc), own y.pa y.pc 119 3 (ftCs s.plan)]) ?_
          refine g_heap (H' := [Rk b s]) (fun _ x => close_rk (H := []) hy x) ?_
          refine Rt [Rk b s] Try.results69 ?_
          exact ⟨rfl, rfl⟩
        · intro h0
          replace h0 := nrm h0
          rw [if_neg (by omega)]
          refine g_skip ?_
          refine e_then ?_
          refine g_seq ?_
          refine g_sr ?_
          refine Li Mv ?_
          refine Li Cm ?_
          refine g_ne ?_
          refine g_cond_f rfl (by simp) ?_
          refine g_skip ?_
          refine e_then ?_
          refine g_seq ?_
          refine g_sr ?_
          refine Li Mv ?_
          refine g_ne ?_
          refine g_block ?_
          refine g_sr ?_
          refine Li Cm ?_
          refine Li As ?_
          refine g_ne ?_
          refine g_fact (sel_fact (.there .here) fun k o => own_none o (by rw [rfCs_len]; omega)) fun sf => ?_
          have k2 : (rfCs y.fl)[i * 2 + 0]? = some (.slice x.a x.f.bs.length x.c) := rows_cell rfC_len hx rfl
          have k3 : (rfCs y.fl)[i * 2 + 1]? = some (.int .i64 (x.f.sf : Int)) := rows_cell rfC_len hx rfl
          refine g_cond rfl ?_ ?_
          · intro h1
            replace h1 := nrm h1
            obtain rfl : k = 1 := by omega
            rw [if_pos rfl]
            refine g_sr ?_
            refine Li Mv ?_
            refine Lp (oC T.fn_74 rfl rfl (room_fn b s y hS hn hy) .nil (fun _ _ hin => ⟨hin.nth 0 rfl, hin.nth 1 rfl, hin.nth 2 rfl, hin.nth 3 rfl, hin.nth 4 rfl, hin.nth 5 rfl, trivial⟩) ?_)
            rintro v H' ⟨rfl, rfl⟩
            try simp only [nap, cap]
            refine Li As ?_
            refine g_ne ?_
            refine g_seq ?_
            refine Hh (H' := [stars (y.fl.map rfH), pts b 70 (rkC s y), own y.fa y.fc 93 2 (rfCs y.fl), own y.sa y.sc 113 2 (nmCs s.safe), own y.ca y.cc 116 3 (chCs y.rc), own y.pa y.pc 119 3 (ftCs s.plan)]) ?_
            refine g_rfile hx ?_
            unfold rkC
            refine gTB 22 T.mix (.cons (.there (.there .here)) (.cons (.there (.there .here)) .nil)) fun F2 le2 hin2 back2 => ?_
            obtain ⟨hb1, hb2, _⟩ := hin2
            have r1 := own_in hb2
            refine Ti Mv ?_
            refine Ti Nc ?_
            refine Ti (Fa T.fld_70_1) ?_
            refine Ti (Lf T.sc_66) ?_
            refine Ti Mv ?_
            refine Ti Mv ?_
            refine Ti Nc ?_
            refine Ti (Fa T.fld_70_1) ?_
            refine Ti (Lf T.sc_66) ?_
            refine Ti Mv ?_
            refine Ti (Ix T.sl_66) ?_
            refine Ti (Fam T.fld_93_0) ?_
            refine Ti (Lf T.sc_38) ?_
            refine Ti Mv ?_
            refine Ti Mv ?_
            refine Ti Mv ?_
            refine Ti (Ln T.sl_38) ?_
            refine Tp (oC T.fn_44 rfl rfl (between_fn (roomM s : Int) p.length) .nil (fun _ _ _ => trivial) ?_)
            rintro v H' ⟨rfl, rfl⟩
            try simp only [nap, cap]
            rw [Int.toNat_natCast]
            generalize hm : min (roomM s) p.length = mm
            refine Ti (Sl 0 _ _ T.sl_38) ?_
            rw [Nat.sub_zero, Nat.sub_zero]
            have hRc := cut2 (hR.mono le2) 0 pc mm (by omega)
            have htk : p.take mm = p.take (roomM s) := by rw [List.take_eq_take_iff]; omega
            rw [List.drop_zero, htk] at hRc
            have htl : (p.take (roomM s)).length = mm := by rw [List.length_take]; omega
            refine Tp (op_append T.ap_38 T.ni_38 rfl rfl rfl rfl .here (by simp) (src_slice (m := mm) (by rw [Nat.mul_one]; simpa using htl) fun h le _ => hRc.mono le) (by first | exact bcells_one | (simp [Value.oneCell', strv])) (by first | omega | (simp; omega)) (by first | omega | (simp; omega)) rfl fun a5 c5 hc5 => ?_)
            have hwl : x.f.bs.length + mm = (x.f.bs ++ p.take (roomM s)).length := by rw [List.length_append, htl]
            rw [hwl, ← bcells_append]
            have hset : (rfCs y.fl).set (i * 2 + 0) (.slice a5 (x.f.bs ++ p.take (roomM s)).length c5) = rfCs (y.fl.set i ⟨a5, c5, ⟨x.f.bs ++ p.take (roomM s), x.f.sf⟩⟩) := rows_setc rfC_len hx rfl (by omega)
            have hlen : (s.files.set i ⟨(fileM s i).bs ++ p.take (roomM s), (fileM s i).sf⟩).length = s.files.length := by simp
            have hsf : (y.fl.set i ⟨a5, c5, ⟨x.f.bs ++ p.take (roomM s), x.f.sf⟩⟩).map (·.f) = s.files.set i ⟨(fileM s i).bs ++ p.take (roomM s), (fileM s i).sf⟩ := by rw [List.map_set, hy.fl, ← hxf]
            refine Ti (Ix T.sl_66) ?_
            refine Ti (Fam T.fld_93_0) ?_
            refine TnB back2 ?_
            refine Tp (oSO T.sc_38 ?_)
            refine Tne ?_
            refine g_sr ?_
            refine Li Mv ?_
            refine Li (Ln T.sl_38) ?_
            refine Li Mv ?_
            refine Li Cm ?_
            refine g_ne ?_
            rw [hset]
            refine g_cond rfl ?_ ?_
            · intro hlt
              replace hlt := nrm hlt
              rw [if_pos (by omega)]
              refine g_sr ?_
              refine Li As ?_
              refine g_ne ?_
              refine g_ret ?_
              refine e_block_ret ?_
              refine e_then_ret ?_
              refine Hh (H' := [own a5 c5 5 1 (bcells (x.f.bs ++ p.take (roomM s))), stars ((y.fl.eraseIdx i).map rfH), pts b 70 (rkC s y), own y.fa y.fc 93 2 (rfCs (y.fl.set i ⟨a5, c5, ⟨x.f.bs ++ p.take (roomM s), x.f.sf⟩⟩)), own y.sa y.sc 113 2 (nmCs s.safe), own y.ca y.cc 116 3 (chCs y.rc), own y.pa y.pc 119 3 (ftCs s.plan)]) ?_
              refine g_heap (fun _ k => rfile_back hx ⟨a5, c5, ⟨x.f.bs ++ p.take (roomM s), x.f.sf⟩⟩ k) ?_
              unfold rkC
              rw [← hlen]
              refine Hh (H' := [pts b 70 (rkC (setF s i ⟨(fileM s i).bs ++ p.take (roomM s), (fileM s i).sf⟩) y), own y.fa y.fc 93 2 (rfCs (y.fl.set i ⟨a5, c5, ⟨x.f.bs ++ p.take (roomM s), x.f.sf⟩⟩)), stars ((y.fl.set i ⟨a5, c5, ⟨x.f.bs ++ p.take (roomM s), x.f.sf⟩⟩).map rfH), own y.sa y.sc 113 2 (nmCs s.safe), own y.ca y.cc 116 3 (chCs y.rc), own y.pa y.pc 119 3 (ftCs s.plan)]) ?_
              refine g_heap (H' := [Rk b (setF s i ⟨(fileM s i).bs ++ p.take (roomM s), (fileM s i).sf⟩)]) (fun _ k => close_rk (H := []) (y := { y with fl := y.fl.set i ⟨a5, c5, ⟨x.f.bs ++ p.take (roomM s), x.f.sf⟩⟩ }) ⟨hsf, hy.rc⟩ k) ?_
              refine Rt [Rk b (setF s i ⟨(fileM s i).bs ++ p.take (roomM s), (fileM s i).sf⟩)] Try.results69 ?_
              exact ⟨rfl, rfl⟩
            · intro hlt
              replace hlt := nrm hlt
              rw [if_neg (by omega)]
              refine g_skip ?_
              refine e_block ?_
              refine e_then ?_
              refine g_sr ?_
              refine Li As ?_
              refine g_ne ?_
              refine g_ret ?_
              refine Hh (H' := [own a5 c5 5 1 (bcells (x.f.bs ++ p.take (roomM s))), stars ((y.fl.eraseIdx i).map rfH), pts b 70 (rkC s y), own y.fa y.fc 93 2 (rfCs (y.fl.set i ⟨a5, c5, ⟨x.f.bs ++ p.take (roomM s), x.f.sf⟩⟩)), own y.sa y.sc 113 2 (nmCs s.safe), own y.ca y.cc 116 3 (chCs y.rc), own y.pa y.pc 119 3 (ftCs s.plan)]) ?_
              refine g_heap (fun _ k => rfile_back hx ⟨a5, c5, ⟨x.f.bs ++ p.take (roomM s), x.f.sf⟩⟩ k) ?_
              unfold rkC
              rw [← hlen]
              refine Hh (H' := [pts b 70 (rkC (setF s i ⟨(fileM s i).bs ++ p.take (roomM s), (fileM s i).sf⟩) y), own y.fa y.fc 93 2 (rfCs (y.fl.set i ⟨a5, c5, ⟨x.f.bs ++ p.take (roomM s), x.f.sf⟩⟩)), stars ((y.fl.set i ⟨a5, c5, ⟨x.f.bs ++ p.take (roomM s), x.f.sf⟩⟩).map rfH), own y.sa y.sc 113 2 (nmCs s.safe), own y.ca y.cc 116 3 (chCs y.rc), own y.pa y.pc 119 3 (ftCs s.plan)]) ?_
              refine g_heap (H' := [Rk b (setF s i ⟨(fileM s i).bs ++ p.take (roomM s), (fileM s i).sf⟩)]) (fun _ k => close_rk (H := []) (y := { y with fl := y.fl.set i ⟨a5, c5, ⟨x.f.bs ++ p.take (roomM s), x.f.sf⟩⟩ }) ⟨hsf, hy.rc⟩ k) ?_
              refine Rt [Rk b (setF s i ⟨(fileM s i).bs ++ p.take (roomM s), (fileM s i).sf⟩)] Try.results69 ?_
              exact ⟨rfl, rfl⟩
          · intro h1
            replace h1 := nrm h1
            rw [if_neg (by omega)]
            refine g_sr ?_
            refine Li Cm ?_
            refine Li As ?_
            refine g_ne ?_
            refine g_cond rfl ?_ ?_
            · intro h2
              replace h2 := nrm h2
              obtain rfl : k = 2 := by omega
              rw [if_pos rfl]
              refine gT false T.mix ?_
              refine Ti Mv ?_
              refine Ti Nc ?_
              refine Ti (Fa T.fld_70_1) ?_
              refine Tp (oL T.sc_66 ?_)
              refine Ti Mv ?_
              refine Ti Mv ?_
              refine Ti Nc ?_
              refine Ti (Fa T.fld_70_1) ?_
              refine Tp (oL T.sc_66 ?_)
              refine Ti Mv ?_
              refine Ti (Ix T.sl_66) ?_
              refine Ti (Fam T.fld_93_0) ?_
              refine Tp (oL T.sc_38 ?_)
              refine Ti (Ln T.sl_38) ?_
              refine Ti (Ix T.sl_66) ?_
              refine Ti (Fam T.fld_93_1) ?_
              refine Tp (oSO T.sc_3 ?_)
              refine Tn ?_
              refine e_block ?_
              refine e_then ?_
              refine g_sr ?_
              refine Li As ?_
              refine g_ne ?_
              refine g_ret ?_
              have hset : (rfCs y.fl).set (i * 2 + 1) (.int .i64 (x.f.bs.length : Int)) = rfCs (y.fl.set i ⟨x.a, x.c, ⟨x.f.bs, x.f.bs.length⟩⟩) := rows_setc rfC_len hx rfl (by omega)
              have hlen : (s.files.set i ⟨(fileM s i).bs, (fileM s i).bs.length⟩).length = s.files.length := by simp
              have hsf : (y.fl.set i ⟨x.a, x.c, ⟨x.f.bs, x.f.bs.length⟩⟩).map (·.f) = s.files.set i ⟨(fileM s i).bs, (fileM s i).bs.length⟩ := by rw [List.map_set, hy.fl, ← hxf]
              rw [hset]
              refine Hh (H' := [stars (y.fl.map rfH), pts b 70 (rkC s y), own y.fa y.fc 93 2 (rfCs (y.fl.set i ⟨x.a, x.c, ⟨x.f.bs, x.f.bs.length⟩⟩)), own y.sa y.sc 113 2 (nmCs s.safe), own y.ca y.cc 116 3 (chCs y.rc), own y.pa y.pc 119 3 (ftCs s.plan)]) ?_
              refine g_rfile hx ?_
              refine Hh (H' := [own x.a x.c 5 1 (bcells (x.f.bs)), stars ((y.fl.eraseIdx i).map rfH), pts b 70 (rkC s y), own y.fa y.fc 93 2 (rfCs (y.fl.set i ⟨x.a, x.c, ⟨x.f.bs, x.f.bs.length⟩⟩)), own y.sa y.sc 113 2 (nmCs s.safe), own y.ca y.cc 116 3 (chCs y.rc), own y.pa y.pc 119 3 (ftCs s.plan)]) ?_
              refine g_heap (fun _ k => rfile_back hx ⟨x.a, x.c, ⟨x.f.bs, x.f.bs.length⟩⟩ k) ?_
              unfold rkC
              rw [← hlen]
              refine Hh (H' := [pts b 70 (rkC (setF s i ⟨(fileM s i).bs, (fileM s i).bs.length⟩) y), own y.fa y.fc 93 2 (rfCs (y.fl.set i ⟨x.a, x.c, ⟨x.f.bs, x.f.bs.length⟩⟩)), stars ((y.fl.set i ⟨x.a, x.c, ⟨x.f.bs, x.f.bs.length⟩⟩).map rfH), own y.sa y.sc 113 2 (nmCs s.safe), own y.ca y.cc 116 3 (chCs y.rc), own y.pa y.pc 119 3 (ftCs s.plan)]) ?_
              refine g_heap (H' := [Rk b (setF s i ⟨(fileM s i).bs, (fileM s i).bs.length⟩)]) (fun _ k => close_rk (H := []) (y := { y with fl := y.fl.set i ⟨x.a, x.c, ⟨x.f.bs, x.f.bs.length⟩⟩ }) ⟨hsf, hy.rc⟩ k) ?_
              refine Rt [Rk b (setF s i ⟨(fileM s i).bs, (fileM s i).bs.length⟩)] Try.results69 ?_
              exact ⟨rfl, rfl⟩
            · intro h2
              replace h2 := nrm h2
              rw [if_neg (by omega)]
              refine g_sr ?_
              refine Li Cm ?_
              refine Li As ?_
              refine g_ne ?_
              refine g_cond rfl ?_ ?_
              · intro h3
                replace h3 := nrm h3
                obtain rfl : k = 3 := by omega
                rw [if_pos rfl]
                refine g_sr ?_
                refine Li Mv ?_
                refine Li Mv ?_
                refine Li Sq ?_
                refine g_ne ?_
                refine g_cond rfl ?_ ?_
                · intro hne
                  replace hne := nrm hne
                  rw [if_neg hne]
                  refine g_region ?_
                  refine Li Mv ?_
                  refine Li Mv ?_
                  refine Li Nc ?_
                  refine Li (Fa T.fld_70_3) ?_
                  refine Lp (oL T.sc_68 ?_)
                  refine Li Mv ?_
                  refine Li Mv ?_
                  refine Li Mv ?_
                  refine Li (Bd T.zc_116 T.st_116) ?_
                  refine Lp (oT1 T.ap_68 fun b3 => ?_)
                  refine Lp (op_append_lit T.ap_68 T.ni_68 rfl rfl rfl rfl (.there (.there (.there (.there .here)))) ((by rw [chCs_len, hrl])) (rfl) (by simp [setL, Value.cells, Value.oneCell', strv]) (by first | omega | (simp; omega)) (by first | omega | (simp; omega)) rfl fun a6 c6 hc6 => ?_)
                  refine Li Nc ?_
                  refine Li (Fa T.fld_70_3) ?_
                  refine Lp (oS T.sc_68 ?_)
                  refine g_nil ?_
                  refine e_block ?_
                  refine e_then ?_
                  refine g_sr ?_
                  refine Li As ?_
                  refine g_ne ?_
                  refine g_ret ?_
                  rw [show s.chg.length + 1 = (s.chg ++ [(⟨name, to, i⟩ : Ch)]).length from by simp]
                  refine Hh (H' := [pts b 70 (rkC (addC s ⟨name, to, i⟩) { y with ca := a6, cc := c6 }), own y.fa y.fc 93 2 (rfCs y.fl), stars (y.fl.map rfH), own y.sa y.sc 113 2 (nmCs s.safe), own a6 c6 116 3 (chCs y.rc ++ chC ⟨name, to, i⟩), own y.pa y.pc 119 3 (ftCs s.plan)]) ?_
                  rw [show chCs y.rc ++ chC ⟨name, to, i⟩ = chCs (y.rc ++ [⟨name, to, i⟩]) from (rows_snoc _ _).symm]
                  refine g_heap (H' := [Rk b (addC s ⟨name, to, i⟩)]) (fun _ x => close_rk (H := []) (y := { y with ca := a6, cc := c6, rc := y.rc ++ [⟨name, to, i⟩] }) ⟨hy.fl, rc_snoc hy _ _ (norm_to (legal_ne (hl.2 rfl)))⟩ x) ?_
                  refine Rt [Rk b (addC s ⟨name, to, i⟩)] Try.results69 ?_
                  exact ⟨rfl, rfl⟩
                · intro hne
                  replace hne := nrm hne
                  rw [if_pos hne]
                  refine g_skip ?_
                  refine e_block ?_
                  refine e_then ?_
                  refine g_sr ?_
                  refine Li As ?_
                  refine g_ne ?_
                  refine g_ret ?_
                  refine Hh (H' := [pts b 70 (rkC s y), own y.fa y.fc 93 2 (rfCs y.fl), stars (y.fl.map rfH), own y.sa y.sc 113 2 (nmCs s.safe), own y.ca y.cc 116 3 (chCs y.rc), own y.pa y.pc 119 3 (ftCs s.plan)]) ?_
                  refine g_heap (H' := [Rk b s]) (fun _ x => close_rk (H := []) hy x) ?_
                  refine Rt [Rk b s] Try.results69 ?_
                  exact ⟨rfl, rfl⟩
              · intro h3
                replace h3 := nrm h3
                rw [if_neg (by omega)]
                refine g_sr ?_
                refine Li Cm ?_
                refine Li As ?_
                refine g_ne ?_
                refine g_cond_t rfl (by (simp; omega)) ?_
                refine g_region ?_
                refine Li Mv ?_
                refine Li Mv ?_
                refine Li Nc ?_
                refine Li (Fa T.fld_70_3) ?_
                refine Lp (oL T.sc_68 ?_)
                refine Li Mv ?_
                refine Li Mv ?_
                refine Li (Bd T.zc_116 T.st_116) ?_
                refine Lp (oT1 T.ap_68 fun b4 => ?_)
                refine Lp (op_append_lit T.ap_68 T.ni_68 rfl rfl rfl rfl (.there (.there (.there (.there .here)))) ((by rw [chCs_len, hrl])) (rfl) (by simp [setL, Value.cells, Value.oneCell', strv]) (by first | omega | (simp; omega)) (by first | omega | (simp; omega)) rfl fun a6 c6 hc6 => ?_)
                refine Li Nc ?_
                refine Li (Fa T.fld_70_3) ?_
                refine Lp (oS T.sc_68 ?_)
                refine g_nil ?_
                refine e_block ?_
                refine e_then ?_
                refine g_sr ?_
                refine Li As ?_
                refine g_ne ?_
                refine g_ret ?_
                rw [show s.chg.length + 1 = (s.chg ++ [(⟨name, [], 0⟩ : Ch)]).length from by simp]
                refine Hh (H' := [pts b 70 (rkC (addC s ⟨name, [], 0⟩) { y with ca := a6, cc := c6 }), own y.fa y.fc 93 2 (rfCs y.fl), stars (y.fl.map rfH), own y.sa y.sc 113 2 (nmCs s.safe), own a6 c6 116 3 (chCs y.rc ++ chC ⟨name, [], i⟩), own y.pa y.pc 119 3 (ftCs s.plan)]) ?_
                rw [show chCs y.rc ++ chC ⟨name, [], i⟩ = chCs (y.rc ++ [⟨name, [], i⟩]) from (rows_snoc _ _).symm]
                refine g_heap (H' := [Rk b (addC s ⟨name, [], 0⟩)]) (fun _ x => close_rk (H := []) (y := { y with ca := a6, cc := c6, rc := y.rc ++ [⟨name, [], i⟩] }) ⟨hy.fl, rc_snoc hy _ _ (by unfold norm; rw [if_pos rfl])⟩ x) ?_
                refine Rt [Rk b (addC s ⟨name, [], 0⟩)] Try.results69 ?_
                exact ⟨rfl, rfl⟩
end Go.Proofs.Ytncmmhfgcgnojaa

