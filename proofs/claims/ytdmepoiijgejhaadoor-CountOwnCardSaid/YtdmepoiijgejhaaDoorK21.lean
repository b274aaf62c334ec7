/- Counts, the reference: a meta command. -/
import Derived.Test.YtdmepoiijgejhaaDoorK20
set_option maxRecDepth 100000
namespace Go.Proofs.YtdmepoiijgejhaaDoor
open Go Go.Eng

theorem wordM_no (l : List UInt8) (h : ∀ i (h : i < l.length), l[i] ≠ 32) : wordM l = l := takeWhile_no l 32 h
theorem Code_fn (a : Ans) (ht : a.text.length ≤ 9223372036854775807) : FnS Tryd.prog 66 [.agg (ansC a).toArray] (fun _ => True) [] (fun v H => v = strv (codeM a.kind a.text) ∧ H = []) := by
  obtain ⟨kind, ea, em, ec, number, text, sa, sm, sc⟩ := a
  simp only at ht ⊢
  refine fn_body Tryd.func66 rfl Tryd.ntmps66 rfl ?_
  intro F hF

  refine g_sr ?_
  refine Lp (oB fun b1 => ?_)
  refine Li As ?_
  refine g_ne ?_
  refine g_sr ?_
  refine Li As ?_
  refine g_ne ?_
  refine g_seq ?_
  refine g_sr ?_
  refine Li As ?_
  refine g_ne ?_
  refine g_block ?_
  refine Lo (ι := Nat) [5, 6, 7, 8, 9, 10, 11, 12, 13, 14, 17, 18, 19, 20, 21, 22, 2, 23, 24, 25, 26, 27, 28, 29, 30, 3, 15, 16, 4] (fun i => i ≤ text.length ∧ (kind = 15 ∨ i = 0) ∧ ∀ j (hj : j < text.length), j < i → text[j] ≠ 32) (fun i => [(4, .int .i64 (i : Int)), (3, strv (text.take i))]) (fun i => [pts b1 38 [.int .i64 kind, .slice ea em ec, .int .u64 number, strv text, .slice sa sm sc]]) (fun i => text.length - i) (0) ⟨Nat.zero_le _, .inr rfl, fun j _ h => absurd h (Nat.not_lt_zero j)⟩ ?_
  rintro i ⟨hi, hk, hno⟩
  refine g_seq ?_
  refine g_seq ?_
  refine g_mid (ι := Unit) [5, 6, 7, 8, 9, 10, 11, 12, 13, 14] (fun u => True) (fun u => [(14, .bool (decide ((i : Int) < text.length) && decide (kind = 15)))]) (fun u => [pts b1 38 [.int .i64 kind, .slice ea em ec, .int .u64 number, strv text, .slice sa sm sc]]) ?_ ?_
  · refine g_region ?_
    refine Li Mv ?_
    refine Li (Fa T.fld_38_3) ?_
    refine Lp (oL T.sc_9 ?_)
    refine Li (Ls T.u_9) ?_
    refine Li Cm ?_
    refine Li Mv ?_
    refine g_split (t := 10) rfl ?_ ?_
    · intro hb0
      replace hb0 := nrm hb0
      refine Li (Fa T.fld_38_0) ?_
      refine Lp (oL T.sc_3 ?_)
      refine Li Cm ?_
      refine Li Pt ?_
      refine g_nil ?_
      refine Me (()) (trivial)
    · intro hb0
      replace hb0 := nrm hb0
      refine Lx ?_
      refine Lx ?_
      refine Lx ?_
      refine Li Pf ?_
      refine g_nil ?_
      refine Me (()) (trivial)
  rintro u hI
  refine g_cond rfl ?_ ?_
  · intro h1
    replace h1 := nrm h1
    have hlt : i < text.length := by omega
    have e1 : text[i]? = some text[i] := List.getElem?_eq_getElem hlt
    generalize hc : text[i] = ch at e1
    refine g_skip ?_
    refine e_then ?_
    refine g_seq ?_
    refine g_block ?_
    refine g_seq ?_
    refine g_sr ?_
    refine Li (Fa T.fld_38_3) ?_
    refine Lp (oL T.sc_9 ?_)
    refine Li Mv ?_
    refine Li (Is T.u_9) ?_
    refine Li Cm ?_
    refine g_ne ?_
    refine g_cond rfl ?_ ?_
    · intro h2
      replace h2 := nrm h2
      have h2 : ch = 32 := by
        apply UInt8.toNat_inj.1
        have : (32 : UInt8).toNat = 32 := rfl
        omega
      have hw : wordM text = text.take i := takeWhile_at text 32 i hlt (by rw [hc, h2]) fun j hj => hno j (by omega) hj
      refine g_sr ?_
      refine Li Mv ?_
      refine Li As ?_
      refine g_ne ?_
      refine g_ret ?_
      refine e_then_ret ?_
      refine e_block_ret ?_
      refine e_then_ret ?_
      refine e_then_ret ?_
      refine e_block_ret ?_
      refine e_then_ret ?_
      refine Rt [] Tryd.results66 ?_
      exact ⟨by unfold codeM; rw [if_pos h1.2, hw], rfl⟩
    · intro h2
      replace h2 := nrm h2
      have h2 : ch ≠ 32 := by
        rintro rfl
        have : (32 : UInt8).toNat = 32 := rfl
        omega
      have e2 : text.take i ++ (text.drop i).take (i + 1 - i) = text.take (i + 1) := by
        rw [show i + 1 - i = 1 from by omega, List.take_add]
      refine g_skip ?_
      refine e_then ?_
      refine g_region ?_
      refine Li Mv ?_
      refine Li (Fa T.fld_38_3) ?_
      refine Lp (oL T.sc_9 ?_)
      refine Li Mv ?_
      refine Li Mv ?_
      refine Li Im ?_
      refine Li (Ss i (i+1) T.u_9) ?_
      refine Li (Sc (l := text.take (i + 1)) (by simp; omega) (he := e2)) ?_
      refine Li As ?_
      refine g_nil ?_
      refine e_block ?_
      refine e_then ?_
      refine g_region ?_
      refine Li Mv ?_
      refine Li Im ?_
      refine Li As ?_
      refine g_nil ?_
      refine Ro (i + 1) (⟨by omega, .inl h1.2, fun j hj hji => ?_⟩) (by omega)
      by_cases hj2 : j = i
      · subst hj2; rw [hc]; exact h2
      · exact hno j hj (by omega)
  · intro h1
    replace h1 := nrm h1
    refine g_exit ?_
    refine e_then_exit ?_
    refine e_then_exit ?_
    refine e_block_hit ?_
    refine e_then ?_
    refine g_sr ?_
    refine Li Mv ?_
    refine Li As ?_
    refine g_ne ?_
    refine g_ret ?_
    refine Rt [] Tryd.results66 ?_
    refine ⟨?_, rfl⟩
    unfold codeM
    by_cases hk15 : kind = 15
    · rw [if_pos hk15, List.take_of_length_le (by omega), wordM_no text fun j hj => hno j hj (by omega)]
    · rw [if_neg hk15]
      obtain rfl : i = 0 := by omega
      rfl
theorem metaL_eq (verb kind : Int) (text : List UInt8) (fl : List Flg) (why : List Int) (h : verb ≤ 24) : metaL verb kind text fl why = [5] ++
  (if verb = 20 then keyL (whyM why)
   else if verb = 21 then [2] ++ (if codeM kind text = HD then [24] else []) ++ (if (argM fl 67).2 = true then [lkS [(HD, 16), (EX, 17), (NF, 18)] (codeM kind text)] else [])
   else if verb = 22 then chL (whyM why) (decide (codeM kind text = EX)) 10 11
   else if verb = 23 then chL (whyM why) (decide (codeM kind text = EX) || decide (kind = 11)) (if decM (argM fl 77).1 = true then 14 else 12) (if decM (argM fl 77).1 = true then 15 else 13)
   else []) := by
  unfold metaL
  rw [if_neg (by omega)]
  rfl
theorem decM_nil : decM [] = false := rfl
theorem decM_cons (c : UInt8) (r : List UInt8) : decM (c :: r) = (decide (c = 68) || decide (c = 100)) := by
  unfold decM
  simp
set_option maxHeartbeats 2000000 in
theorem rmeta_fn (c : Cmd) (a : Ans) (fl : List Flg) (hf : c.fm = fl.length) (hfb : fl.length ≤ 9223372036854775807) (why : List Int) (aw : Option Addr) (m cw : Nat) (hm : m = why.length) (ht : a.text.length ≤ 9223372036854775807) (hv : c.verb ≤ 24) :
    FnS Tryd.prog 42 [.agg (cmdC c).toArray, .agg (ansC a).toArray, .slice aw m cw] (fun h => Rdl h c.fa (flsC fl) ∧ Rdl h aw (icells why)) [] (RL 50000 (metaL c.verb a.kind a.text fl why)) := by
  rw [metaL_eq _ _ _ _ _ hv]
  have hcode := Code_fn a ht
  obtain ⟨verb, ka, km, kc, flags, expt, token, delta, da, dm, dc, nr, lg, fa, fm, fc, what⟩ := c
  obtain ⟨kind, ea, em, ec, number, text, sa, sm, sc⟩ := a
  subst hm
  simp only at hf ht hv hcode ⊢
  subst hf
  refine fn_body Tryd.func42 rfl Tryd.ntmps42 rfl ?_
  intro F hF


  have hF1 := hF.1
  have hF2 := hF.2
  refine g_sr ?_
  refine Lp (oB fun b1 => ?_)
  refine Lp (oB fun b2 => ?_)
  refine Li As ?_
  refine g_ne ?_
  refine g_sr ?_
  refine Lp (oT T.ap_39 fun b3 => ?_)
  refine Li As ?_
  refine g_ne ?_
  refine g_sr ?_
  refine Lp (oLN T.ag_38 ?_)
  refine g_heap (own_lit [5] (by simp)) ?_
  refine Lp (oC T.fn_66 rfl rfl (hcode) .nil (fun _ _ _ => trivial) ?_)
  rintro v H' ⟨rfl, rfl⟩
  try simp only [nap, cap]
  generalize codeM kind text = code

  refine Hh (H' := [own (some ⟨b3, 0, none⟩) 1 3 1 (icells [5]), pts b1 34 [.int .i64 verb, .slice ka km kc, .int .u64 flags, .int .i64 expt, .int .u64 token, .int .u64 delta, .slice da dm dc, .bool nr, .bool lg, .slice fa fl.length fc, strv what], pts b2 38 [.int .i64 kind, .slice ea em ec, .int .u64 number, strv text, .slice sa sm sc]]) ?_
  refine Li As ?_
  refine g_ne ?_
  refine g_seq ?_
  refine g_sr ?_
  refine Li (Fa T.fld_34_0) ?_
  refine Lp (oL T.sc_3 ?_)
  refine g_ne ?_
  refine g_block ?_
  refine g_sr ?_
  refine Li Cm ?_
  refine Li As ?_
  refine g_ne ?_
  refine g_cond rfl ?_ ?_
  · intro h20
    replace h20 := nrm h20
    rw [if_pos h20]
    refine g_sr ?_
    refine Li Mv ?_
    refine Li (Ln T.sl_39) ?_
    refine Li Cm ?_
    refine g_ne ?_
    refine g_cond rfl ?_ ?_
    · intro h1
      replace h1 := nrm h1
      obtain ⟨w, r, rfl⟩ : ∃ w r, why = w :: r := List.exists_cons_of_length_pos (by omega)
      have k1 : (icells (w :: r))[0]? = some (.int .i64 w) := rfl
      have a0 : aw.isSome = true := hF2.some (by simp [icells])
      refine g_region ?_
      refine Li Mv ?_
      refine Li Mv ?_
      refine Li (Ix (j := 0) T.sl_39) ?_
      refine Lp (oL T.sc_3 ?_)
      refine Lp (oC T.fn_67 rfl rfl (asKey_fn w) .nil (fun _ _ _ => trivial) ?_)
      rintro v H' ⟨a2, c2, L2, rfl, hl2, hc2, he2, rfl⟩
      try simp only [nap, cap]
      refine Lp (op_append T.ap_39 T.ni_39 rfl rfl rfl rfl (.there .here) (by simp [icells]) (src_slice (m := L2.length) (by simp [icells]) fun h le hin => own_in (hin.nth 0 rfl)) (icells_one L2) (by first | omega | (simp; omega)) (by first | omega | (simp; omega)) rfl fun a4 c4 hc4 => ?_)
      have e1 : 1 + L2.length = ([5] ++ L2 : List Int).length := by simp; omega
      have h4c : ([5] ++ L2 : List Int).length ≤ c4 := by rw [← e1]; exact hc4
      rw [← icells_app, e1]
      refine Li As ?_
      refine g_nil ?_
      refine e_block ?_
      refine e_then ?_
      refine g_sr ?_
      refine Li Mv ?_
      refine Li As ?_
      refine g_ne ?_
      refine g_ret ?_
      refine Rt [own a4 c4 3 1 (icells ([5] ++ L2))] Tryd.results42 ?_
      exact ⟨a4, c4, [5] ++ L2, rfl, by rw [← e1]; omega, h4c, (EqN.refl [5]).app he2, rfl⟩
    · intro h1
      replace h1 := nrm h1
      obtain rfl : why = [] := List.eq_nil_of_length_eq_zero (by omega)
      refine g_skip ?_
      refine e_block ?_
      refine e_then ?_
      refine g_sr ?_
      refine Li Mv ?_
      refine Li As ?_
      refine g_ne ?_
      refine g_ret ?_
      refine Rt [own (some ⟨b3, 0, none⟩) 1 3 1 (icells [5])] Tryd.results42 ?_
      refine ⟨_, _, [5], rfl, by simp, by simp, ?_, rfl⟩
      rw [show keyL (whyM []) = [] from by decide]
      exact .refl _
  · intro h20
    replace h20 := nrm h20
    rw [if_neg h20]
    refine g_sr ?_
    refine Li Cm ?_
    refine Li As ?_
    refine g_ne ?_
    refine g_cond rfl ?_ ?_
    · intro h21
      replace h21 := nrm h21
      rw [if_pos h21]
      refine g_sr ?_
      refine Li Mv ?_
      refine Lp (oT T.ap_39 fun b4 => ?_)
      refine Lp (op_append_lit T.ap_39 T.ni_39 rfl rfl rfl rfl .here (by simp [icells]) (rfl) (by simp [Value.oneCell']) (by first | omega | (simp; omega)) (by first | omega | (simp; omega)) rfl fun a4 c4 hc4 => ?_)
      refine Hh (H' := [own a4 c4 3 1 (icells [5, 2]), pts b1 34 [.int .i64 verb, .slice ka km kc, .int .u64 flags, .int .i64 expt, .int .u64 token, .int .u64 delta, .slice da dm dc, .bool nr, .bool lg, .slice fa fl.length fc, strv what], pts b2 38 [.int .i64 kind, .slice ea em ec, .int .u64 number, strv text, .slice sa sm sc]]) ?_
      refine Li As ?_
      refine g_ne ?_
      refine g_sr ?_
      refine Li (Fa T.fld_34_9) ?_
      refine Lp (oL T.sc_32 ?_)
      refine Lp (oC T.fn_68 rfl rfl (has_fn fl fa fl.length fc rfl hfb 67) .nil (fun _ le _ => hF1.mono le) ?_)
      rintro v H' ⟨rfl, rfl⟩
      try simp only [nap, cap]
      generalize (argM fl 67).2 = cas
      generalize (argM fl 67).1 = cav
      refine Li Mv ?_
      refine Li Ex ?_
      refine Li Ex ?_
      refine Li As ?_
      refine Li As ?_
      refine g_ne ?_
      refine g_sr ?_
      refine Li Mv ?_
      refine g_ne ?_
      refine g_block ?_
      refine g_sr ?_
      refine Li Sq ?_
      refine Li As ?_
      refine g_ne ?_
      refine g_cond rfl ?_ ?_
      · intro kh
        replace kh := nrm kh
        rw [if_pos kh]
        have e5 : lkS [(HD, 16), (EX, 17), (NF, 18)] code = 16 := by rw [kh]; rfl
        rw [e5]
        refine g_sr ?_
        refine Li Mv ?_
        refine Lp (oT T.ap_39 fun b5 => ?_)
        refine Lp (op_append_lit T.ap_39 T.ni_39 rfl rfl rfl rfl .here (by simp [icells]) (rfl) (by simp [Value.oneCell']) (by first | omega | (simp; omega)) (by first | omega | (simp; omega)) rfl fun a5 c5 hc5 => ?_)
        refine Hh (H' := [own a5 c5 3 1 (icells [5, 2, 24]), pts b1 34 [.int .i64 verb, .slice ka km kc, .int .u64 flags, .int .i64 expt, .int .u64 token, .int .u64 delta, .slice da dm dc, .bool nr, .bool lg, .slice fa fl.length fc, strv what], pts b2 38 [.int .i64 kind, .slice ea em ec, .int .u64 number, strv text, .slice sa sm sc]]) ?_
        refine Li As ?_
        refine g_ne ?_
        refine g_sr ?_
        refine Li Mv ?_
        refine g_ne ?_
        refine g_cond rfl ?_ ?_
        · intro kc
          replace kc := nrm kc
          rw [if_pos kc]
          refine g_region ?_
          refine Li Mv ?_
          refine Lp (oT T.ap_39 fun b6 => ?_)
          refine Lp (op_append_lit T.ap_39 T.ni_39 rfl rfl rfl rfl .here (by simp [icells]) (rfl) (by simp [Value.oneCell']) (by first | omega | (simp; omega)) (by first | omega | (simp; omega)) rfl fun a6 c6 hc6 => ?_)
          refine Li As ?_
          refine g_nil ?_
          refine e_block ?_
          refine e_block ?_
          refine e_then ?_
          refine g_sr ?_
          refine Li Mv ?_
          refine Li As ?_
          refine g_ne ?_
          refine g_ret ?_
          refine Rt [own a6 c6 3 1 (icells [5, 2, 24, 16])] Tryd.results42 ?_
          exact ⟨a6, c6, [5, 2, 24, 16], rfl, by simp, hc6, .refl _, rfl⟩
        · intro kc
          replace kc := nrm kc
          rw [if_neg (by rw [kc]; decide)]
          refine g_skip ?_
          refine e_block ?_
          refine e_block ?_
          refine e_then ?_
          refine g_sr ?_
          refine Li Mv ?_
          refine Li As ?_
          refine g_ne ?_
          refine g_ret ?_
          refine Rt [own a5 c5 3 1 (icells [5, 2, 24])] Tryd.results42 ?_
          exact ⟨a5, c5, [5, 2, 24], rfl, by simp, hc5, .refl _, rfl⟩
      · intro kh
        replace kh := nrm kh
        rw [if_neg kh]
        refine g_sr ?_
        refine Li Sq ?_
        refine Li As ?_
        refine g_ne ?_
        refine g_cond rfl ?_ ?_
        · intro ke
          replace ke := nrm ke
          have e5 : lkS [(HD, 16), (EX, 17), (NF, 18)] code = 17 := by rw [ke]; rfl
          rw [e5]
          refine g_sr ?_
          refine Li Mv ?_
          refine g_ne ?_
          refine g_cond rfl ?_ ?_
          · intro kc
            replace kc := nrm kc
            rw [if_pos kc]
            refine g_region ?_
            refine Li Mv ?_
            refine Lp (oT T.ap_39 fun b7 => ?_)
            refine Lp (op_append_lit T.ap_39 T.ni_39 rfl rfl rfl rfl .here (by simp [icells]) (rfl) (by simp [Value.oneCell']) (by first | omega | (simp; omega)) (by first | omega | (simp; omega)) rfl fun a6 c6 hc6 => ?_)
            refine Li As ?_
            refine g_nil ?_
            refine e_block ?_
            refine e_block ?_
            refine e_then ?_
            refine g_sr ?_
            refine Li Mv ?_
            refine Li As ?_
            refine g_ne ?_
            refine g_ret ?_
            refine Rt [own a6 c6 3 1 (icells [5, 2, 17])] Tryd.results42 ?_
            exact ⟨a6, c6, [5, 2, 17], rfl, by simp, hc6, .refl _, rfl⟩
          · intro kc
            replace kc := nrm kc
            rw [if_neg (by rw [kc]; decide)]
            refine g_skip ?_
            refine e_block ?_
            refine e_block ?_
            refine e_then ?_
            refine g_sr ?_
            refine Li Mv ?_
            refine Li As ?_
            refine g_ne ?_
            refine g_ret ?_
            refine Rt [own a4 c4 3 1 (icells [5, 2])] Tryd.results42 ?_
            exact ⟨a4, c4, [5, 2], rfl, by simp, hc4, .refl _, rfl⟩
        · intro ke
          replace ke := nrm ke
          refine g_sr ?_
          refine Li Sq ?_
          refine Li As ?_
          refine g_ne ?_
          refine g_cond rfl ?_ ?_
          · intro kn
            replace kn := nrm kn
            have e5 : lkS [(HD, 16), (EX, 17), (NF, 18)] code = 18 := by rw [kn]; rfl
            rw [e5]
            refine g_sr ?_
            refine Li Mv ?_
            refine g_ne ?_
            refine g_cond rfl ?_ ?_
            · intro kc
              replace kc := nrm kc
              rw [if_pos kc]
              refine g_region ?_
              refine Li Mv ?_
              refine Lp (oT T.ap_39 fun b8 => ?_)
              refine Lp (op_append_lit T.ap_39 T.ni_39 rfl rfl rfl rfl .here (by simp [icells]) (rfl) (by simp [Value.oneCell']) (by first | omega | (simp; omega)) (by first | omega | (simp; omega)) rfl fun a6 c6 hc6 => ?_)
              refine Li As ?_
              refine g_nil ?_
              refine e_block ?_
              refine e_block ?_
              refine e_then ?_
              refine g_sr ?_
              refine Li Mv ?_
              refine Li As ?_
              refine g_ne ?_
              refine g_ret ?_
              refine Rt [own a6 c6 3 1 (icells [5, 2, 18])] Tryd.results42 ?_
              exact ⟨a6, c6, [5, 2, 18], rfl, by simp, hc6, .refl _, rfl⟩
            · intro kc
              replace kc := nrm kc
              rw [if_neg (by rw [kc]; decide)]
              refine g_skip ?_
              refine e_block ?_
              refine e_block ?_
              refine e_then ?_
              refine g_sr ?_
              refine Li Mv ?_
              refine Li As ?_
              refine g_ne ?_
              refine g_ret ?_
              refine Rt [own a4 c4 3 1 (icells [5, 2])] Tryd.results42 ?_
              exact ⟨a4, c4, [5, 2], rfl, by simp, hc4, .refl _, rfl⟩
          · intro kn
            replace kn := nrm kn
            have e5 : lkS [(HD, 16), (EX, 17), (NF, 18)] code = 0 := by simp only [lkS]; rw [if_neg (fun q => kh q.symm), if_neg (fun q => ke q.symm), if_neg (fun q => kn q.symm)]
            rw [e5]
            refine g_skip ?_
            refine e_block ?_
            refine e_block ?_
            refine e_then ?_
            refine g_sr ?_
            refine Li Mv ?_
            refine Li As ?_
            refine g_ne ?_
            refine g_ret ?_
            refine Rt [own a4 c4 3 1 (icells [5, 2])] Tryd.results42 ?_
            refine ⟨a4, c4, [5, 2], rfl, by simp, hc4, ?_, rfl⟩
            cases cas
            · exact .refl _
            · exact .of_all (by decide)
    · intro h21
      replace h21 := nrm h21
      rw [if_neg h21]
      refine g_sr ?_
      refine Li Cm ?_
      refine Li As ?_
      refine g_ne ?_
      refine g_cond rfl ?_ ?_
      · intro h22
        replace h22 := nrm h22
        rw [if_pos h22]
        refine g_region ?_
        refine Li Mv ?_
        refine Li Mv ?_
        refine Li Mv ?_
        refine Li Sq ?_
        refine Lp (oC T.fn_69 rfl rfl (by_fn why aw why.length cw rfl (decide (code = EX)) 10 11) .nil (fun _ le _ => hF2.mono le) ?_)
        rintro v H' ⟨a2, c2, L2, rfl, hl2, hc2, he2, rfl⟩
        try simp only [nap, cap]
        refine Lp (op_append T.ap_39 T.ni_39 rfl rfl rfl rfl (.there .here) (by simp [icells]) (src_slice (m := L2.length) (by simp [icells]) fun h le hin => own_in (hin.nth 0 rfl)) (icells_one L2) (by first | omega | (simp; omega)) (by first | omega | (simp; omega)) rfl fun a4 c4 hc4 => ?_)
        have e1 : 1 + L2.length = ([5] ++ L2 : List Int).length := by simp; omega
        have h4c : ([5] ++ L2 : List Int).length ≤ c4 := by rw [← e1]; exact hc4
        rw [← icells_app, e1]
        refine Li As ?_
        refine g_nil ?_
        refine e_block ?_
        refine e_then ?_
        refine g_sr ?_
        refine Li Mv ?_
        refine Li As ?_
        refine g_ne ?_
        refine g_ret ?_
        refine Rt [own a4 c4 3 1 (icells ([5] ++ L2))] Tryd.results42 ?_
        exact ⟨a4, c4, [5] ++ L2, rfl, by rw [← e1]; omega, h4c, (EqN.refl [5]).app he2, rfl⟩
      · intro h22
        replace h22 := nrm h22
        rw [if_neg h22]
        refine g_sr ?_
        refine Li Cm ?_
        refine Li As ?_
        refine g_ne ?_
        refine g_cond rfl ?_ ?_
        · intro h23
          replace h23 := nrm h23
          rw [if_pos h23]
          refine g_sr ?_
          refine Li (Fa T.fld_34_9) ?_
          refine Lp (oL T.sc_32 ?_)
          refine Lp (oC T.fn_68 rfl rfl (has_fn fl fa fl.length fc rfl hfb 77) .nil (fun _ le _ => hF1.mono le) ?_)
          rintro v H' ⟨rfl, rfl⟩
          try simp only [nap, cap]
          generalize (argM fl 77).2 = mav
          generalize (argM fl 77).1 = ma
          refine Li Mv ?_
          refine Li Ex ?_
          refine Li Ex ?_
          refine Li As ?_
          refine Li As ?_
          refine g_ne ?_
          refine g_seq ?_
          refine g_mid (ι := Unit) [79, 80, 81, 82, 83, 84, 85, 13] (fun u => True) (fun u => [(13, .bool (decide (code = EX) || decide (kind = 11)))]) (fun u => [own (some ⟨b3, 0, none⟩) 1 3 1 (icells [5]), pts b1 34 [.int .i64 verb, .slice ka km kc, .int .u64 flags, .int .i64 expt, .int .u64 token, .int .u64 delta, .slice da dm dc, .bool nr, .bool lg, .slice fa fl.length fc, strv what], pts b2 38 [.int .i64 kind, .slice ea em ec, .int .u64 number, strv text, .slice sa sm sc]]) ?_ ?_
          · refine g_region ?_
            refine Li Mv ?_
            refine Li Sq ?_
            refine Li Mv ?_
            refine g_split (t := 81) rfl ?_ ?_
            · intro hb0
              replace hb0 := nrm hb0
              refine Lx ?_
              refine Lx ?_
              refine Lx ?_
              refine Li Pt ?_
              refine Li As ?_
              refine g_nil ?_
              refine Me (()) (trivial)
            · intro hb0
              replace hb0 := nrm hb0
              refine Li (Fa T.fld_38_0) ?_
              refine Lp (oL T.sc_3 ?_)
              refine Li Cm ?_
              refine Li Pf ?_
              refine Li As ?_
              refine g_nil ?_
              refine Me (()) (trivial)
          rintro u hI
          generalize (decide (code = EX) || decide (kind = 11)) = bar
          refine g_seq ?_
          refine g_mid (ι := Unit) [86, 87, 88, 89, 90, 91, 92, 93, 94, 95, 96, 97, 98] (fun u => True) (fun u => [(98, .bool (decM ma))]) (fun u => [own (some ⟨b3, 0, none⟩) 1 3 1 (icells [5]), pts b1 34 [.int .i64 verb, .slice ka km kc, .int .u64 flags, .int .i64 expt, .int .u64 token, .int .u64 delta, .slice da dm dc, .bool nr, .bool lg, .slice fa fl.length fc, strv what], pts b2 38 [.int .i64 kind, .slice ea em ec, .int .u64 number, strv text, .slice sa sm sc]]) ?_ ?_
          · rcases ma with _ | ⟨ch, r⟩
            ·
              refine g_region ?_
              refine Li Mv ?_
              refine Li (Ls T.u_9) ?_
              refine Li Cm ?_
              refine Li Mv ?_
              refine g_slot (t := 89) (v' := .bool false) rfl (congrArg Value.bool (by rfl)) ?_
              refine Lx ?_
              refine Lx ?_
              refine Lx ?_
              refine Lx ?_
              refine Lx ?_
              refine Lx ?_
              refine Lx ?_
              refine Lx ?_
              refine Li Pf ?_
              refine g_nil ?_
              refine Me (()) (trivial)
            · have e1 : (ch :: r)[0]? = some ch := rfl
              rw [decM_cons]
              have c1 : decide ((ch.toNat : Int) = 68) = decide (ch = 68) := by
                rw [Bool.eq_iff_iff]; simp only [decide_eq_true_eq]
                constructor
                · intro q; apply UInt8.toNat_inj.1; have : (68 : UInt8).toNat = 68 := rfl; omega
                · rintro rfl; rfl
              have c2 : decide ((ch.toNat : Int) = 100) = decide (ch = 100) := by
                rw [Bool.eq_iff_iff]; simp only [decide_eq_true_eq]
                constructor
                · intro q; apply UInt8.toNat_inj.1; have : (100 : UInt8).toNat = 100 := rfl; omega
                · rintro rfl; rfl
              rw [← c1, ← c2]
              refine g_region ?_
              refine Li Mv ?_
              refine Li (Ls T.u_9) ?_
              refine Li Cm ?_
              refine Li Mv ?_
              refine g_slot (t := 89) (v' := .bool true) rfl (congrArg Value.bool (by simp)) ?_
              refine Li Mv ?_
              refine Li (Is (j := 0) T.u_9) ?_
              refine Li Cm ?_
              refine Li Mv ?_
              refine g_split (t := 93) rfl ?_ ?_
              · intro k1
                replace k1 := nrm k1
                refine Lx ?_
                refine Lx ?_
                refine Lx ?_
                refine Li Pt ?_
                refine Li Pt ?_
                refine g_nil ?_
                refine Me (()) (trivial) (hs := ⟨(by rw [decide_eq_true k1]; rfl), trivial⟩)
              · intro k1
                replace k1 := nrm k1
                refine Li Mv ?_
                refine Li (Is (j := 0) T.u_9) ?_
                refine Li Cm ?_
                refine Li Pf ?_
                refine Li Pt ?_
                refine g_nil ?_
                refine Me (()) (trivial) (hs := ⟨(by rw [decide_eq_false k1]; rfl), trivial⟩)
          rintro u hI
          refine g_cond rfl ?_ ?_
          · intro kd
            replace kd := nrm kd
            rw [if_pos kd, if_pos kd]
            refine g_region ?_
            refine Li Mv ?_
            refine Li Mv ?_
            refine Li Mv ?_
            refine Lp (oC T.fn_69 rfl rfl (by_fn why aw why.length cw rfl bar 14 15) .nil (fun _ le _ => hF2.mono le) ?_)
            rintro v H' ⟨a2, c2, L2, rfl, hl2, hc2, he2, rfl⟩
            try simp only [nap, cap]
            refine Lp (op_append T.ap_39 T.ni_39 rfl rfl rfl rfl (.there .here) (by simp [icells]) (src_slice (m := L2.length) (by simp [icells]) fun h le hin => own_in (hin.nth 0 rfl)) (icells_one L2) (by first | omega | (simp; omega)) (by first | omega | (simp; omega)) rfl fun a4 c4 hc4 => ?_)
            have e1 : 1 + L2.length = ([5] ++ L2 : List Int).length := by simp; omega
            have h4c : ([5] ++ L2 : List Int).length ≤ c4 := by rw [← e1]; exact hc4
            rw [← icells_app, e1]
            refine Li As ?_
            refine g_nil ?_
            refine e_block ?_
            refine e_then ?_
            refine g_sr ?_
            refine Li Mv ?_
            refine Li As ?_
            refine g_ne ?_
            refine g_ret ?_
            refine Rt [own a4 c4 3 1 (icells ([5] ++ L2))] Tryd.results42 ?_
            exact ⟨a4, c4, [5] ++ L2, rfl, by rw [← e1]; omega, h4c, (EqN.refl [5]).app he2, rfl⟩
          · intro kd
            replace kd := nrm kd
            rw [if_neg (by rw [kd]; decide), if_neg (by rw [kd]; decide)]
            refine g_region ?_
            refine Li Mv ?_
            refine Li Mv ?_
            refine Li Mv ?_
            refine Lp (oC T.fn_69 rfl rfl (by_fn why aw why.length cw rfl bar 12 13) .nil (fun _ le _ => hF2.mono le) ?_)
            rintro v H' ⟨a2, c2, L2, rfl, hl2, hc2, he2, rfl⟩
            try simp only [nap, cap]
            refine Lp (op_append T.ap_39 T.ni_39 rfl rfl rfl rfl (.there .here) (by simp [icells]) (src_slice (m := L2.length) (by simp [icells]) fun h le hin => own_in (hin.nth 0 rfl)) (icells_one L2) (by first | omega | (simp; omega)) (by first | omega | (simp; omega)) rfl fun a4 c4 hc4 => ?_)
            have e1 : 1 + L2.length = ([5] ++ L2 : List Int).length := by simp; omega
            have h4c : ([5] ++ L2 : List Int).length ≤ c4 := by rw [← e1]; exact hc4
            rw [← icells_app, e1]
            refine Li As ?_
            refine g_nil ?_
            refine e_block ?_
            refine e_then ?_
            refine g_sr ?_
            refine Li Mv ?_
            refine Li As ?_
            refine g_ne ?_
            refine g_ret ?_
            refine Rt [own a4 c4 3 1 (icells ([5] ++ L2))] Tryd.results42 ?_
            exact ⟨a4, c4, [5] ++ L2, rfl, by rw [← e1]; omega, h4c, (EqN.refl [5]).app he2, rfl⟩
        · intro h23
          replace h23 := nrm h23
          rw [if_neg h23]
          refine g_skip ?_
          refine e_block ?_
          refine e_then ?_
          refine g_sr ?_
          refine Li Mv ?_
          refine Li As ?_
          refine g_ne ?_
          refine g_ret ?_
          refine Rt [own (some ⟨b3, 0, none⟩) 1 3 1 (icells [5])] Tryd.results42 ?_
          exact ⟨_, _, [5], rfl, by simp, by simp, .refl _, rfl⟩
end Go.Proofs.YtdmepoiijgejhaaDoor

