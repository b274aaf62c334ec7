/- The document's disk: an act, as the plan bears on it. -/
import Derived.Test.YtncmmhfgcgnojaaR5
set_option maxRecDepth 100000
namespace Go.Proofs.Ytncmmhfgcgnojaa
open Go Go.Eng

theorem planM_drop {l : List Flt} {n i : Nat} {f : Flt} (h : l[i]? = some f) : planM (l.drop i) n = if f.st = (n : Int) then f else planM (l.drop (i + 1)) n := by
  obtain ⟨hi, e⟩ := List.getElem?_eq_some_iff.1 h
  rw [List.drop_eq_getElem_cons hi, e]
  unfold planM
  by_cases hf : f.st = (n : Int)
  · rw [if_pos hf, List.find?_cons_of_pos (by simpa using hf)]; rfl
  · rw [if_neg hf, List.find?_cons_of_neg (by simpa using hf)]
theorem inv_room {s : Ds} (h : Inv s) : (begun s).files.length ≤ s.acts := h.nf
set_option maxHeartbeats 2000000 in
theorem ract_fn (b : Nat) (s : Ds) (hS : Inv s) (hn : s.acts ≤ 9999) (k : Nat) (hk5 : k ≤ 5) (name to : Nm) (pa : Option Addr) (n pc : Nat) (p : List UInt8) (hpn : n = p.length) (hp : p.length ≤ 2097152) (hpc : p.length ≤ pc) :
    FnS Try.prog 54 [.pointer (some ⟨b, 0, none⟩), .int .i64 (k : Int), strv name, strv to, .slice pa n pc] (fun h => Rdl h pa (bcells p)) [Rk b s] (fun v H => v = faultV (kindT k) name (actM s k name to p).2 ∧ H = [Rk b (actM s k name to p).1]) := by
  subst hpn
  have hpl := hS.np
  have hSb := inv_begun hS
  have hnb : (begun s).acts ≤ 10000 := Nat.succ_le_succ hn
  obtain ⟨⟨s', e⟩, hr⟩ : ∃ r, actM s k name to p = r := ⟨_, rfl⟩
  rw [hr]
  dsimp only
  unfold actM actG at hr
  dsimp only at hr
  have hdd : doD k name to p (begun s) (-1) = doM (begun s) k name to p := rfl
  rw [hdd] at hr
  refine open_rk fun y hy => ?_
  unfold rkL rkC
  simp only [nap, cap]
  refine fn_body Try.func54 rfl Try.ntmps54 rfl ?_
  intro F hR
  refine g_sr ?_
  refine Lp (oA T.zc_34 fun b1 => ?_)
  refine g_ne ?_
  refine g_sr ?_
  refine Li Mv ?_
  refine Li Nc ?_
  refine Li (Fa T.fld_70_4) ?_
  refine Lp (oL T.sc_3 ?_)
  refine Li Im ?_
  refine Li Nc ?_
  refine Li (Fa T.fld_70_4) ?_
  refine Lp (oS T.sc_3 ?_)
  refine g_ne ?_
  refine g_sr ?_
  refine Li (Bd T.zc_119 T.st_119) ?_
  refine Lp (oA T.zc_119 fun b2 => ?_)
  refine Lp (oSW T.ag_119 ?_)
  refine g_ne ?_
  refine g_seq ?_
  refine g_sr ?_
  refine Li Mv ?_
  refine Li Nc ?_
  refine Li (Fa T.fld_70_5) ?_
  refine Lp (oL T.sc_39 ?_)
  refine Li (Ln T.sl_39) ?_
  refine Li Im ?_
  refine Li As ?_
  refine g_ne ?_
  refine g_block ?_
  rw [show (s.acts : Int) + 1 = ((s.acts + 1 : Nat) : Int) from by omega]
  have hL : RLayOk (begun s) y := ⟨hy.fl, hy.rc⟩

  have hz : [.int .i64 0, .int .i64 0, .int .i64 0] = ftC (planM (s.plan.drop s.plan.length) (s.acts + 1)) := by rw [List.drop_length]; rfl
  refine Hh (H' := [pts b2 119 [.int .i64 0, .int .i64 0, .int .i64 0], pts b1 34 [strv [], strv [], .int .i64 0], pts b 70 (rkC (begun s) y), own y.fa y.fc 93 2 (rfCs y.fl), stars (y.fl.map rfH), own y.sa y.sc 113 2 (nmCs s.safe), own y.ca y.cc 116 3 (chCs y.rc), own y.pa y.pc 119 3 (ftCs s.plan)]) ?_
  rw [hz]
  refine Lo (ι := Nat) [28, 29, 32, 33, 34, 35, 36, 37, 38, 39, 40, 41, 42, 43, 44, 45, 46, 47, 48, 49, 50, 51, 30, 31, 12] (fun i => i ≤ s.plan.length) (fun i => [(12, .int .i64 ((i : Int) - 1))]) (fun i => [pts b2 119 (ftC (planM (s.plan.drop i) (s.acts + 1))), pts b1 34 [strv [], strv [], .int .i64 0], pts b 70 (rkC (begun s) y), own y.fa y.fc 93 2 (rfCs y.fl), stars (y.fl.map rfH), own y.sa y.sc 113 2 (nmCs s.safe), own y.ca y.cc 116 3 (chCs y.rc), own y.pa y.pc 119 3 (ftCs s.plan)]) (fun i => i) (s.plan.length) (Nat.le_refl _) ?_
  rintro i hi
  generalize hf : planM (s.plan.drop i) (s.acts + 1) = f
  unfold ftC rkC
  dsimp only [begun]
  refine g_seq ?_
  refine g_sr ?_
  refine Li Mv ?_
  refine Li Cm ?_
  refine g_ne ?_
  refine g_cond rfl ?_ ?_
  · intro hlt
    replace hlt := nrm hlt
    obtain ⟨j, rfl⟩ : ∃ j, i = j + 1 := ⟨i - 1, by omega⟩
    have hj : j < s.plan.length := by omega
    have e1 : s.plan[j]? = some s.plan[j] := List.getElem?_eq_getElem hj
    generalize s.plan[j] = g at e1
    have hpd := planM_drop (n := s.acts + 1) e1
    rw [hf] at hpd
    have k0 : (ftCs s.plan)[j * 3 + 0]? = some (.int .i64 g.st) := rows_cell ftC_len e1 rfl
    have k1 := rows_at ftC_len e1
    change List.take 3 (List.drop (j * 3) (ftCs s.plan)) = _ at k1
    unfold ftC at k1
    refine g_fact (sel_fact (.there (.there (.there (.there (.there (.there (.there .here))))))) fun k o => own_none o (by rw [ftCs_len]; omega)) fun sp => ?_
    rw [show ((j + 1 : Nat) : Int) - 1 = (j : Int) from by omega]
    refine g_skip ?_
    refine e_then ?_
    refine g_seq ?_
    refine g_block ?_
    refine g_seq ?_
    refine gT false T.mix ?_
    refine Ti Mv ?_
    refine Ti Nc ?_
    refine Ti (Fa T.fld_70_5) ?_
    refine Tp (oL T.sc_39 ?_)
    refine Ti Mv ?_
    refine Ti (Ix T.sl_39) ?_
    refine Ti (Fam T.fld_119_0) ?_
    refine Tp (oL T.sc_3 ?_)
    refine Ti Mv ?_
    refine Ti Nc ?_
    refine Ti (Fa T.fld_70_4) ?_
    refine Tp (oL T.sc_3 ?_)
    refine Ti Cm ?_
    refine Tne ?_
    refine g_cond rfl ?_ ?_
    · intro hq
      replace hq := nrm hq
      rw [if_pos (by omega)] at hpd
      refine g_region ?_
      refine Li Mv ?_
      refine Li Nc ?_
      refine Li (Fa T.fld_70_5) ?_
      refine Lp (oL T.sc_39 ?_)
      refine Li Mv ?_
      refine Li (Ix T.sl_39) ?_
      refine Lp (oLN T.ag_119 ?_)
      refine Lp (oSW T.ag_119 ?_)
      refine g_nil ?_
      refine e_block ?_
      refine e_then ?_
      refine g_region ?_
      refine Li Mv ?_
      refine Li Im ?_
      refine Li As ?_
      refine g_nil ?_
      refine Hh (H' := [pts b2 119 (ftC g), pts b1 34 [strv [], strv [], .int .i64 0], pts b 70 (rkC (begun s) y), own y.fa y.fc 93 2 (rfCs y.fl), stars (y.fl.map rfH), own y.sa y.sc 113 2 (nmCs s.safe), own y.ca y.cc 116 3 (chCs y.rc), own y.pa y.pc 119 3 (ftCs s.plan)]) ?_
      rw [← hpd]
      refine Ro (j) ((by omega)) ((by omega))
    · intro hq
      replace hq := nrm hq
      rw [if_neg (by omega)] at hpd
      refine g_skip ?_
      refine e_block ?_
      refine e_then ?_
      refine g_region ?_
      refine Li Mv ?_
      refine Li Im ?_
      refine Li As ?_
      refine g_nil ?_
      refine Hh (H' := [pts b2 119 (ftC f), pts b1 34 [strv [], strv [], .int .i64 0], pts b 70 (rkC (begun s) y), own y.fa y.fc 93 2 (rfCs y.fl), stars (y.fl.map rfH), own y.sa y.sc 113 2 (nmCs s.safe), own y.ca y.cc 116 3 (chCs y.rc), own y.pa y.pc 119 3 (ftCs s.plan)]) ?_
      rw [← hpd]
      refine Ro (j) ((by omega)) ((by omega))
  · intro hlt
    replace hlt := nrm hlt
    obtain rfl : i = 0 := by omega
    rw [List.drop_zero] at hf
    rw [hf] at hr
    refine g_exit ?_
    refine e_then_exit ?_
    refine e_then_exit ?_
    refine e_block_hit ?_
    refine e_then ?_
    refine g_sr ?_
    refine Li As ?_
    refine g_ne ?_
    refine g_seq ?_
    refine Hh (H' := [pts b 70 (rkC (begun s) y), own y.fa y.fc 93 2 (rfCs y.fl), stars (y.fl.map rfH), own y.sa y.sc 113 2 (nmCs s.safe), own y.ca y.cc 116 3 (chCs y.rc), own y.pa y.pc 119 3 (ftCs s.plan), pts b2 119 [.int .i64 f.st, .int .i64 f.kd, .int .i64 f.pt], pts b1 34 [strv [], strv [], .int .i64 0]]) ?_
    refine g_heap (H' := [Rk b (begun s), pts b2 119 [.int .i64 f.st, .int .i64 f.kd, .int .i64 f.pt], pts b1 34 [strv [], strv [], .int .i64 0]]) (fun _ x => close_rk (H := [_, _]) hL x) ?_
    refine g_mid (ι := Unit) [59, 60, 61, 62, 58, 13, 64, 65, 66, 63, 67, 68, 69, 70, 71, 72, 73, 75, 76, 77, 74, 79, 80, 81, 78, 82, 83, 84, 86, 87, 88, 85, 89, 90, 91, 92, 93, 94, 95, 96, 97, 99, 100, 101, 98, 102, 103, 104, 105, 106, 107, 108, 109, 110, 111, 112, 113, 114, 4, 115, 116, 117, 118, 119, 120, 121, 122, 52, 53, 54, 55, 56, 57] (fun u => True) (fun u => [(13, .int .i64 (e : Int))]) (fun u => [Rk b s', pts b1 34 [strv [], strv [], .int .i64 0]]) ?_ ?_
    · refine g_openrk fun y5 hy5 => ?_
      unfold rkL rkC
      simp only [nap, cap]


      refine g_block ?_
      refine g_sr ?_
      refine Li Mv ?_
      refine Li Nc ?_
      refine Li (Fa T.fld_70_6) ?_
      refine Lp (oL T.sc_4 ?_)
      refine Li As ?_
      refine g_ne ?_
      refine g_cond rfl ?_ ?_
      · intro hd
        replace hd := nrm hd
        have hd' : s.dark = true := hd
        rw [if_pos hd'] at hr
        cases hr
        refine Hh (H' := [pts b 70 (rkC (begun s) y5), own y5.fa y5.fc 93 2 (rfCs y5.fl), stars (y5.fl.map rfH), own y5.sa y5.sc 113 2 (nmCs s.safe), own y5.ca y5.cc 116 3 (chCs y5.rc), own y5.pa y5.pc 119 3 (ftCs s.plan), pts b2 119 [.int .i64 f.st, .int .i64 f.kd, .int .i64 f.pt], pts b1 34 [strv [], strv [], .int .i64 0]]) ?_
        refine g_heap (H' := [Rk b (begun s), pts b2 119 [.int .i64 f.st, .int .i64 f.kd, .int .i64 f.pt], pts b1 34 [strv [], strv [], .int .i64 0]]) (fun _ x => close_rk (H := [_, _]) hy5 x) ?_
        refine g_region ?_
        refine Li As ?_
        refine g_nil ?_
        refine e_block ?_
        refine Me (()) (trivial)
      · intro hd
        replace hd := nrm hd
        have hd' : s.dark = false := hd
        rw [if_neg (by rw [hd']; simp)] at hr
        refine Hh (H' := [pts b 70 (rkC (begun s) y5), own y5.fa y5.fc 93 2 (rfCs y5.fl), stars (y5.fl.map rfH), own y5.sa y5.sc 113 2 (nmCs s.safe), own y5.ca y5.cc 116 3 (chCs y5.rc), own y5.pa y5.pc 119 3 (ftCs s.plan), pts b2 119 [.int .i64 f.st, .int .i64 f.kd, .int .i64 f.pt], pts b1 34 [strv [], strv [], .int .i64 0]]) ?_
        refine g_heap (H' := [Rk b (begun s), pts b2 119 [.int .i64 f.st, .int .i64 f.kd, .int .i64 f.pt], pts b1 34 [strv [], strv [], .int .i64 0]]) (fun _ x => close_rk (H := [_, _]) hy5 x) ?_
        refine g_seq ?_
        refine g_sr ?_
        refine Li (Fa T.fld_119_1) ?_
        refine Lp (oL T.sc_3 ?_)
        refine Li Cm ?_
        refine Li As ?_
        refine g_ne ?_
        refine g_cond rfl ?_ ?_
        · intro k1
          replace k1 := nrm k1
          rw [if_pos k1] at hr
          cases hr
          refine g_skip ?_
          refine e_then ?_
          refine g_cond_t rfl (by (exact decide_eq_true k1)) ?_
          refine g_region ?_
          refine Li As ?_
          refine g_nil ?_
          refine e_block ?_
          refine Me (()) (trivial)
        · intro k1
          replace k1 := nrm k1
          rw [if_neg k1] at hr
          refine g_region ?_
          refine Li (Fa T.fld_119_1) ?_
          refine Lp (oL T.sc_3 ?_)
          refine Li Cm ?_
          refine Li Mv ?_
          refine g_split (t := 70) rfl ?_ ?_
          · intro k3
            replace k3 := nrm k3
            rw [if_neg (by omega), if_neg (by omega), if_neg (by omega), if_neg (by omega), if_pos k3] at hr
            refine Li Mv ?_
            refine Li Cm ?_
            refine Li Pt ?_
            refine Li As ?_
            refine g_ne ?_
            refine g_cond rfl ?_ ?_
            · intro kt
              replace kt := nrm kt
              rw [if_neg (by simp; omega)] at hr
              cases hr
              refine g_region ?_
              refine Li As ?_
              refine g_nil ?_
              refine e_block ?_
              refine Me (()) (trivial)
            · intro kt
              replace kt := nrm kt
              obtain rfl : k = 1 := by omega
              rw [if_pos (by simp)] at hr
              refine g_sr ?_
              refine Li (Fa T.fld_119_1) ?_
              refine Lp (oL T.sc_3 ?_)
              refine Li Cm ?_
              refine Li As ?_
              refine g_ne ?_
              refine g_cond_f rfl (by (simp; omega)) ?_
              refine g_sr ?_
              refine Li (Fa T.fld_119_1) ?_
              refine Lp (oL T.sc_3 ?_)
              refine Li Cm ?_
              refine Li As ?_
              refine g_ne ?_
              refine g_cond_f rfl (by (simp; omega)) ?_
              refine g_sr ?_
              refine Li (Fa T.fld_119_1) ?_
              refine Lp (oL T.sc_3 ?_)
              refine Li Cm ?_
              refine Li As ?_
              refine g_ne ?_
              refine g_cond_f rfl (by (simp; omega)) ?_
              refine g_seq ?_
              refine g_sr ?_
              refine Li (Fa T.fld_119_1) ?_
              refine Lp (oL T.sc_3 ?_)
              refine Li Cm ?_
              refine Li As ?_
              refine g_ne ?_
              refine g_cond_f rfl (by (simp; omega)) ?_
              refine g_region ?_
              refine Li (Fa T.fld_119_1) ?_
              refine Lp (oL T.sc_3 ?_)
              refine Li Cm ?_
              refine Li As ?_
              refine g_ne ?_
              refine g_cond_t rfl (by (simp; omega)) ?_
              refine g_seq ?_
              refine g_sr ?_
              refine Li (Fa T.fld_119_1) ?_
              refine Lp (oL T.sc_3 ?_)
              refine Li Cm ?_
              refine g_ne ?_
              refine g_cond_t rfl (by (simp; omega)) ?_
              refine g_region ?_
              refine Li Mv ?_
              refine Li (Fa T.fld_119_2) ?_
              refine Lp (oL T.sc_3 ?_)
              refine Li Mv ?_
              refine Li (Ln T.sl_38) ?_
              refine Lp (oC T.fn_44 rfl rfl (between_fn f.pt p.length) .nil (fun _ _ _ => trivial) ?_)
              rintro v H' ⟨rfl, rfl⟩
              try simp only [nap, cap]
              generalize hm : min f.pt.toNat p.length = mm
              refine Li (Sl 0 _ _ T.sl_38) ?_
              refine Li As ?_
              refine g_ne ?_
              refine g_sr ?_
              refine Li Mv ?_
              refine Li Mv ?_
              refine Li Mv ?_
              refine Li Mv ?_
              refine Li Mv ?_
              rw [Nat.sub_zero, Nat.sub_zero]
              have hcut : cutP p (max 0 f.pt) = p.take mm := by
                unfold cutP
                rw [if_neg (by omega), List.take_eq_take_iff]
                omega
              have hRc := cut2 hR 0 pc mm (by omega)
              rw [List.drop_zero] at hRc
              have htl : (p.take mm).length = mm := by rw [List.length_take]; omega
              have hdo : doD 1 name to p (begun s) (max 0 f.pt) = doM (begun s) 1 name to (p.take mm) := by unfold doD; rw [hcut]
              rw [hdo] at hr
              refine Lp (oC T.fn_69 rfl rfl (does_fn b (begun s) hSb hnb 1 hk5 name to (cutA pa 0 pc (0 * 1)) mm pc (p.take mm) htl.symm (by omega) (by omega)) (.cons .here .nil) (fun _ le _ => hRc.mono le) ?_)
              rintro v H' ⟨rfl, rfl⟩
              try simp only [nap, cap]
              generalize doM (begun s) 1 name to (p.take mm) = r at *
              obtain ⟨r1, r2⟩ := r
              cases hr
              dsimp only
              refine Li As ?_
              refine g_ne ?_
              refine g_sr ?_
              refine Li Mv ?_
              refine Li Cm ?_
              refine g_ne ?_
              refine g_cond rfl ?_ ?_
              · intro hz2
                replace hz2 := nrm hz2
                refine g_region ?_
                refine Li As ?_
                refine g_nil ?_
                refine e_block ?_
                refine g_slot (t := 13) (v' := .int .i64 (beh r2 : Int)) rfl (by refine congrArg (Value.int .i64) ?_; unfold beh; rw [if_pos (by omega)]; rfl) ?_
                refine Me (()) (trivial)
              · intro hz2
                replace hz2 := nrm hz2
                refine g_skip ?_
                refine e_block ?_
                refine g_slot (t := 13) (v' := .int .i64 (beh r2 : Int)) rfl (by refine congrArg (Value.int .i64) ?_; unfold beh; rw [if_neg (by omega)]) ?_
                refine Me (()) (trivial)
          · intro k3
            replace k3 := nrm k3
            refine Lx ?_
            refine Lx ?_
            refine Li Pf ?_
            refine Li As ?_
            refine g_ne ?_
            refine g_cond_f rfl rfl ?_
            refine g_sr ?_
            refine Li (Fa T.fld_119_1) ?_
            refine Lp (oL T.sc_3 ?_)
            refine Li Cm ?_
            refine Li As ?_
            refine g_ne ?_
            refine g_cond rfl ?_ ?_
            · intro k4
              replace k4 := nrm k4
              rw [if_pos k4] at hr
              cases hr
              refine g_region ?_
              refine Li As ?_
              refine g_nil ?_
              refine e_block ?_
              refine Me (()) (trivial)
            · intro k4
              replace k4 := nrm k4
              rw [if_neg k4] at hr
              refine g_sr ?_
              refine Li (Fa T.fld_119_1) ?_
              refine Lp (oL T.sc_3 ?_)
              refine Li Cm ?_
              refine Li As ?_
              refine g_ne ?_
              refine g_cond rfl ?_ ?_
              · intro k5
                replace k5 := nrm k5
                rw [if_pos k5] at hr
                cases hr
                refine g_openrk fun y6 hy6 => ?_
                unfold rkL rkC
                simp only [nap, cap]
                refine g_sr ?_
                refine Li Mv ?_
                refine Li Nc ?_
                refine Li (Fa T.fld_70_6) ?_
                refine Lp (oS T.sc_4 ?_)
                refine g_ne ?_
                refine g_region ?_
                refine Li As ?_
                refine g_nil ?_
                refine e_block ?_
                refine Hh (H' := [pts b 70 (rkC (shut (begun s)) y6), own y6.fa y6.fc 93 2 (rfCs y6.fl), stars (y6.fl.map rfH), own y6.sa y6.sc 113 2 (nmCs (begun s).safe), own y6.ca y6.cc 116 3 (chCs y6.rc), own y6.pa y6.pc 119 3 (ftCs (begun s).plan), pts b2 119 [.int .i64 f.st, .int .i64 f.kd, .int .i64 f.pt], pts b1 34 [strv [], strv [], .int .i64 0]]) ?_
                refine g_heap (H' := [Rk b (shut (begun s)), pts b2 119 [.int .i64 f.st, .int .i64 f.kd, .int .i64 f.pt], pts b1 34 [strv [], strv [], .int .i64 0]]) (fun _ x => close_rk (H := [_, _]) (y := y6) ⟨hy6.fl, hy6.rc⟩ x) ?_
                refine Me (()) (trivial)
              · intro k5
                replace k5 := nrm k5
                rw [if_neg k5] at hr
                refine g_sr ?_
                refine Li (Fa T.fld_119_1) ?_
                refine Lp (oL T.sc_3 ?_)
                refine Li Cm ?_
                refine Li As ?_
                refine g_ne ?_
                refine g_cond rfl ?_ ?_
                · intro k6
                  replace k6 := nrm k6
                  rw [if_pos k6] at hr
                  cases hr
                  refine g_sr ?_
                  refine Li Mv ?_
                  refine Li Mv ?_
                  refine Li Mv ?_
                  refine Li Mv ?_
                  refine Li Mv ?_
                  refine Lp (oC T.fn_69 rfl rfl (does_fn b (begun s) hSb hnb k hk5 name to pa p.length pc p rfl hp hpc) (.cons .here .nil) (fun _ le _ => hR.mono le) ?_)
                  rintro v H' ⟨rfl, rfl⟩
                  try simp only [nap, cap]
                  refine g_openrk fun y6 hy6 => ?_
                  unfold rkL rkC
                  simp only [nap, cap]
                  refine g_ne ?_
                  refine g_sr ?_
                  refine Li Mv ?_
                  refine Li Nc ?_
                  refine Li (Fa T.fld_70_6) ?_
                  refine Lp (oS T.sc_4 ?_)
                  refine g_ne ?_
                  refine g_region ?_
                  refine Li As ?_
                  refine g_nil ?_
                  refine e_block ?_
                  refine Hh (H' := [pts b 70 (rkC (shut (doM (begun s) k name to p).1) y6), own y6.fa y6.fc 93 2 (rfCs y6.fl), stars (y6.fl.map rfH), own y6.sa y6.sc 113 2 (nmCs (doM (begun s) k name to p).1.safe), own y6.ca y6.cc 116 3 (chCs y6.rc), own y6.pa y6.pc 119 3 (ftCs (doM (begun s) k name to p).1.plan), pts b2 119 [.int .i64 f.st, .int .i64 f.kd, .int .i64 f.pt], pts b1 34 [strv [], strv [], .int .i64 0]]) ?_
                  refine g_heap (H' := [Rk b (shut (doM (begun s) k name to p).1), pts b2 119 [.int .i64 f.st, .int .i64 f.kd, .int .i64 f.pt], pts b1 34 [strv [], strv [], .int .i64 0]]) (fun _ x => close_rk (H := [_, _]) (y := y6) ⟨hy6.fl, hy6.rc⟩ x) ?_
                  refine Me (()) (trivial)
                · intro k6
                  replace k6 := nrm k6
                  rw [if_neg k6] at hr
                  refine g_seq ?_
                  refine g_sr ?_
                  refine Li (Fa T.fld_119_1) ?_
                  refine Lp (oL T.sc_3 ?_)
                  refine Li Cm ?_
                  refine Li As ?_
                  refine g_ne ?_
                  refine g_cond rfl ?_ ?_
                  · intro k2
                    replace k2 := nrm k2
                    rw [if_pos k2] at hr
                    refine g_skip ?_
                    refine e_then ?_
                    refine g_cond_t rfl (by (exact decide_eq_true k2)) ?_
                    refine g_seq ?_
                    refine g_sr ?_
                    refine Li (Fa T.fld_119_1) ?_
                    refine Lp (oL T.sc_3 ?_)
                    refine Li Cm ?_
                    refine g_ne ?_
                    refine g_cond_f rfl (by (exact decide_eq_false k3)) ?_
                    refine g_skip ?_
                    refine e_then ?_
                    refine g_sr ?_
                    refine Li Mv ?_
                    refine Li Mv ?_
                    refine Li Mv ?_
                    refine Li Mv ?_
                    refine Li Mv ?_
                    refine Lp (oC T.fn_69 rfl rfl (does_fn b (begun s) hSb hnb k hk5 name to pa p.length pc p rfl hp hpc) (.cons .here .nil) (fun _ le _ => hR.mono le) ?_)
                    rintro v H' ⟨rfl, rfl⟩
                    try simp only [nap, cap]
                    generalize doM (begun s) k name to p = r at *
                    obtain ⟨r1, r2⟩ := r
                    cases hr
                    dsimp only
                    refine Li As ?_
                    refine g_ne ?_
                    refine g_sr ?_
                    refine Li Mv ?_
                    refine Li Cm ?_
                    refine g_ne ?_
                    refine g_cond rfl ?_ ?_
                    · intro hz2
                      replace hz2 := nrm hz2
                      refine g_region ?_
                      refine Li As ?_
                      refine g_nil ?_
                      refine e_block ?_
                      refine g_slot (t := 13) (v' := .int .i64 (beh r2 : Int)) rfl (by refine congrArg (Value.int .i64) ?_; unfold beh; rw [if_pos (by omega)]; rfl) ?_
                      refine Me (()) (trivial)
                    · intro hz2
                      replace hz2 := nrm hz2
                      refine g_skip ?_
                      refine e_block ?_
                      refine g_slot (t := 13) (v' := .int .i64 (beh r2 : Int)) rfl (by refine congrArg (Value.int .i64) ?_; unfold beh; rw [if_neg (by omega)]) ?_
                      refine Me (()) (trivial)
                  · intro k2
                    replace k2 := nrm k2
                    rw [if_neg k2, if_neg k3] at hr
                    refine g_region ?_
                    refine Li (Fa T.fld_119_1) ?_
                    refine Lp (oL T.sc_3 ?_)
                    refine Li Cm ?_
                    refine Li As ?_
                    refine g_ne ?_
                    refine g_cond_f rfl (by (exact decide_eq_false k3)) ?_
                    refine g_region ?_
                    refine Li Mv ?_
                    refine Li Mv ?_
                    refine Li Mv ?_
                    refine Li Mv ?_
                    refine Li Mv ?_
                    refine Lp (oC T.fn_69 rfl rfl (does_fn b (begun s) hSb hnb k hk5 name to pa p.length pc p rfl hp hpc) (.cons .here .nil) (fun _ le _ => hR.mono le) ?_)
                    rintro v H' ⟨rfl, rfl⟩
                    try simp only [nap, cap]
                    rw [hr]
                    refine Li As ?_
                    refine g_nil ?_
                    refine e_block ?_
                    refine Me (()) (trivial)
    rintro u hI
    refine g_seq ?_
    refine g_sr ?_
    refine Li Mv ?_
    refine Li Cm ?_
    refine g_ne ?_
    refine g_cond rfl ?_ ?_
    · intro h00
      replace h00 := nrm h00
      obtain rfl : e = 0 := by omega
      refine g_sr ?_
      refine Li (Bd T.zc_34 T.st_34) ?_
      refine Lp (oSW T.ag_34 ?_)
      refine g_ne ?_
      refine g_ret ?_
      refine e_then_ret ?_
      refine RtC [Rk b s'] T.ag_34 Try.results54 ?_
      exact ⟨rfl, rfl⟩
    · intro h00
      replace h00 := nrm h00
      refine g_skip ?_
      refine e_then ?_
      refine g_sr ?_
      refine Li Mv ?_
      refine Lp (oC T.fn_70 rfl rfl (call_fn k hk5) .nil (fun _ _ _ => trivial) ?_)
      rintro v H' ⟨rfl, rfl⟩
      try simp only [nap, cap]
      refine Li Mv ?_
      refine Li Mv ?_
      refine Li (Bd T.zc_34 T.st_34) ?_
      refine Lp (oSW T.ag_34 ?_)
      refine g_ne ?_
      refine g_ret ?_
      refine RtC [Rk b s'] T.ag_34 Try.results54 ?_
      refine ⟨?_, rfl⟩
      unfold faultV nz
      rw [if_neg (by omega), if_neg (by omega)]
      rfl
end Go.Proofs.Ytncmmhfgcgnojaa

