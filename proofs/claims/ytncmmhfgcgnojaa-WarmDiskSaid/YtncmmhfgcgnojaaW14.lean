/- The disk: Loose; Restart. -/
import Derived.Test.YtncmmhfgcgnojaaW13
set_option maxRecDepth 100000
namespace Go.Proofs.Ytncmmhfgcgnojaa
open Go Go.Eng

def looseP (s : Ds) (p : Nm × Nat) : Bool := decide ((fileM s p.2).sf < (fileM s p.2).bs.length)
theorem looseM_es {s : Ds} {es : List (Nm × Nat)} (p : es.Perm (namesL s)) : looseM s = (es.any (looseP s) || decide (0 < s.chg.length)) := by
  unfold looseM
  congr 1
  exact (p.any_eq (f := looseP s)).symm
theorem loose_m (b : Nat) (s : Ds) (hS : Inv s) : FnS Try.prog 14 [.pointer (some ⟨b, 0, none⟩)] (fun _ => True) [Dk b s] (fun v H => v = .bool (looseM s) ∧ H = [Dk b s]) := by
  have hnm := hS.names
  refine open_dk fun y hy => ?_
  rw [looseM_es hy.es]
  unfold dkL dkC
  simp only [nap, cap]
  refine fn_body Try.func14 rfl Try.ntmps14 rfl ?_
  intro F hF
  refine g_sr ?_
  refine Li As ?_
  refine g_ne ?_
  refine g_seq ?_
  refine g_sr ?_
  refine Li Mv ?_
  refine Li Nc ?_
  refine Li (Fa T.fld_65_3) ?_
  refine Lp (oL T.sc_61 ?_)
  refine Lp (oQr T.mt_61 fun b1 => ?_)
  refine g_ne ?_
  refine g_block ?_


  refine Lo (ι := List (Nm × Nat) × Option (Value × Value)) [10, 11, 12, 13, 4, 14, 15, 16, 17, 18, 19, 20, 21, 22, 23, 24, 25, 26, 27, 28, 29, 30, 31, 32, 33, 34, 35, 2] (fun (lf, cur) => (∀ p ∈ lf, p.2 < s.files.length) ∧ lf.any (looseP s) = y.es.any (looseP s)) (fun (lf, cur) => []) (fun (lf, cur) => [mqi .string y.nm (mes y.es) b1 (mes lf) cur, pts b 65 (dkC s y), own y.fa y.fc 87 1 (y.fl.map fiP), stars (y.fl.map fiH), mq .string y.sm (mes y.ss), own y.ca y.cc 84 3 (chCs s.chg), own y.pa y.pc 119 3 (ftCs s.plan)]) (fun (lf, cur) => lf.length) ((y.es, none)) ⟨fun p hp => ((hnm.perm hy.es).sk p hp).2, rfl⟩ ?_
  rintro ⟨lf, cur⟩ ⟨hlf, hul⟩
  try dsimp only at hI ⊢
  dsimp only at hlf hul ⊢
  unfold dkC
  refine g_sr ?_
  refine Lp (oQn ?_ ?_)
  · intro h0
    obtain rfl : lf = [] := by simpa [mes] using h0
    rw [← hul]
    refine g_heap (fun _ x => starL_mqi x) ?_
    refine Li Ex ?_
    refine g_ne ?_
    refine g_seq ?_
    refine g_cond_f rfl (by rfl) ?_
    refine g_exit ?_
    refine e_then_exit ?_
    refine e_then_exit ?_
    refine e_block_hit ?_
    refine e_then ?_
    refine g_sr ?_
    refine Li Mv ?_
    refine Li Nc ?_
    refine Li (Fa T.fld_65_5) ?_
    refine Lp (oL T.sc_63 ?_)
    refine Li (Ln T.sl_63) ?_
    refine Li Cm ?_
    refine Li As ?_
    refine g_ne ?_
    refine g_ret ?_
    refine Hh (H' := [pts b 65 (dkC s y), own y.fa y.fc 87 1 (y.fl.map fiP), stars (y.fl.map fiH), mq .string y.nm (mes y.es), mq .string y.sm (mes y.ss), own y.ca y.cc 84 3 (chCs s.chg), own y.pa y.pc 119 3 (ftCs s.plan)]) ?_
    refine g_heap (H' := [Dk b s]) (fun _ x => close_dk (H := []) hy x) ?_
    refine Rt [Dk b s] Try.results14 ?_
    refine ⟨congrArg Value.bool ?_, rfl⟩
    rw [Bool.eq_iff_iff]; simp
  · intro l1 k v l2 hl
    obtain ⟨m1, n, j, m2, rfl, rfl, rfl, rfl, rfl⟩ := mes_split hl
    rw [mes_append]
    have hj : j < s.files.length := hlf (n, j) (by simp)
    obtain ⟨z, hz, hzf⟩ := lay_at hy hj
    have hzm := List.mem_of_getElem? hz
    have hfi : (y.fl.map fiP)[j]? = some (fiP z) := by rw [List.getElem?_map, hz]; rfl
    have hlp : looseP s (n, j) = decide (z.f.sf < z.f.bs.length) := by unfold looseP; rw [hzf]
    rw [List.any_append, List.any_cons, hlp] at hul
    refine g_fact (sel_fact (.there (.there .here)) fun k o => own_none o (by rw [List.length_map, lay_len hy]; omega)) fun sa => ?_
    refine Li Ex ?_
    refine g_ne ?_
    refine g_seq ?_
    refine g_cond_t rfl (by rfl) ?_
    refine g_skip ?_
    refine e_then ?_
    refine g_block ?_
    refine g_sr ?_
    refine Lp (oQe ?_)
    refine Li Ex ?_
    refine Li As ?_
    refine g_ne ?_
    refine g_seq ?_
    refine gT false T.mix ?_
    refine Ti Mv ?_
    refine Ti Nc ?_
    refine Ti (Fa T.fld_65_2) ?_
    refine Tp (oL T.sc_62 ?_)
    refine Ti Mv ?_
    refine Ti (Ix T.sl_62) ?_
    refine Tp (oL T.sc_87 ?_)
    refine Ti Nc ?_
    refine Ti (Fa T.fld_89_1) ?_
    refine Tp (oL T.sc_3 ?_ (hk := kn_fi hzm rfl (by repeat (first | exact Sel.here | apply Sel.there))))
    refine Ti Mv ?_
    refine Ti Nc ?_
    refine Ti (Fa T.fld_65_2) ?_
    refine Tp (oL T.sc_62 ?_)
    refine Ti Mv ?_
    refine Ti (Ix T.sl_62) ?_
    refine Tp (oL T.sc_87 ?_)
    refine Ti Nc ?_
    refine Ti (Fa T.fld_89_0) ?_
    refine Tp (oL T.sc_38 ?_ (hk := kn_fi hzm rfl (by repeat (first | exact Sel.here | apply Sel.there))))
    refine Ti (Ln T.sl_38) ?_
    refine Ti Cm ?_
    refine Tne ?_
    refine g_cond rfl ?_ ?_
    · intro hq
      replace hq := nrm hq
      refine g_heap (fun _ x => starL_mqi x) ?_
      refine g_sr ?_
      refine Li As ?_
      refine g_ne ?_
      refine g_ret ?_
      refine e_block_ret ?_
      refine e_then_ret ?_
      refine e_block_ret ?_
      refine e_then_ret ?_
      refine Hh (H' := [pts b 65 (dkC s y), own y.fa y.fc 87 1 (y.fl.map fiP), stars (y.fl.map fiH), mq .string y.nm (mes y.es), mq .string y.sm (mes y.ss), own y.ca y.cc 84 3 (chCs s.chg), own y.pa y.pc 119 3 (ftCs s.plan)]) ?_
      refine g_heap (H' := [Dk b s]) (fun _ x => close_dk (H := []) hy x) ?_
      refine Rt [Dk b s] Try.results14 ?_
      refine ⟨congrArg Value.bool ?_, rfl⟩
      rw [← hul]
      have : decide (z.f.sf < z.f.bs.length) = true := by simp; omega
      rw [this]; simp
    · intro hq
      replace hq := nrm hq
      refine g_skip ?_
      refine e_block ?_
      have hq2 : decide (z.f.sf < z.f.bs.length) = false := by simp; omega
      rw [hq2, Bool.false_or, ← List.any_append] at hul
      refine Ro ((m1 ++ m2, some (strv n, .int .i64 (j : Int)))) (⟨fun p hp => hlf p (by simp at hp ⊢; rcases hp with hp | hp; exact .inl hp; exact .inr (.inr hp)), hul⟩) ((by simp))
def icells (l : List Int) : List Value := l.map fun z => .int .i64 z
theorem afterL_snoc (l : List (Nm × Nat)) (cs : List Ch) (c : Ch) : afterL l (cs ++ [c]) = app1 (afterL l cs) c := by unfold afterL; rw [List.foldl_append]; rfl
theorem restF_at {cut : List Int} {i j : Nat} {l : List Fi} {f : Fi} (h : l[j]? = some f) : (restF cut i l)[j]? = some (if j < i then keepF cut j f else f) := by
  unfold restF
  rw [List.getElem?_mapIdx, h]; rfl
theorem restF_set {cut : List Int} {i : Nat} {l : List Fi} {f : Fi} (h : l[i]? = some f) : (restF cut i l).set i (keepF cut i f) = restF cut (i + 1) l := by
  have hi := (List.getElem?_eq_some_iff.1 h).1
  apply List.ext_getElem?
  intro j
  rw [List.getElem?_set, restF_len]
  by_cases hj : i = j
  · subst hj
    rw [if_pos rfl, if_pos hi, restF_at h, if_pos (by omega)]
  · rw [if_neg hj]
    cases hl : l[j]? with
    | none =>
      have h1 : l.length ≤ j := List.getElem?_eq_none_iff.1 hl
      rw [List.getElem?_eq_none (by rw [restF_len]; exact h1), List.getElem?_eq_none (by rw [restF_len]; exact h1)]
    | some g =>
      rw [restF_at hl, restF_at hl]
      by_cases h2 : j < i
      · rw [if_pos h2, if_pos (by omega)]
      · rw [if_neg h2, if_neg (by omega)]
theorem restF_zero (cut : List Int) (l : List Fi) : restF cut 0 l = l := by
  unfold restF
  apply List.ext_getElem?
  intro j
  rw [List.getElem?_mapIdx]
  cases l[j]? <;> simp
set_option maxHeartbeats 1000000 in
theorem restart_m (b : Nat) (s : Ds) (hS : Inv s) (hn : s.acts ≤ 10000) (ca : Option Addr) (cn cc : Nat) (cut : List Int) (hcn : cn = cut.length) (z : Int) :
    FnS Try.prog 10 [.pointer (some ⟨b, 0, none⟩), .agg #[.slice ca cn cc, .int .i64 z]] (fun h => Rdl h ca (icells cut)) [Dk b s] (fun v H => v = .tuple #[] ∧ H = [Dk b (restM s cut z)]) := by
  subst hcn
  have hnn := hS.nn
  have hnf := hS.nf
  have hfb := hS.fb
  refine open_dk fun y hy => ?_
  unfold dkL dkC
  simp only [nap, cap]
  refine fn_body Try.func10 rfl Try.ntmps10 rfl ?_
  intro F hR
  refine g_sr ?_
  refine Lp (oB fun b1 => ?_)
  refine g_ne ?_
  refine g_seq ?_
  refine g_seq ?_
  refine gT false T.mix ?_
  refine Ti (Fa T.fld_42_1) ?_
  refine Tp (oL T.sc_3 ?_)
  refine Ti Ma ?_
  refine Ti Mv ?_
  refine Ti Nc ?_
  refine Ti (Fa T.fld_65_5) ?_
  refine Tp (oL T.sc_63 ?_)
  refine Ti (Ln T.sl_63) ?_
  refine Ti Mi ?_
  refine Ti Mv ?_
  refine Tne ?_
  refine g_block ?_
  rw [show min (max 0 z) (s.chg.length : Int) = ((min z.toNat s.chg.length : Nat) : Int) from by omega]
  generalize hN : min z.toNat s.chg.length = N

  refine Lo (ι := Nat × List (Nm × Nat)) [19, 20, 4, 21, 22, 23, 24, 25, 26, 27, 28, 29, 30, 31, 32, 33, 18] (fun (i, ss) => i ≤ N ∧ ss.Perm (afterL s.safe (s.chg.take i))) (fun (i, ss) => [(18, .int .i64 (i : Int))]) (fun (i, ss) => [mq .string y.sm (mes ss), pts b 65 (dkC s y), own y.fa y.fc 87 1 (y.fl.map fiP), stars (y.fl.map fiH), mq .string y.nm (mes y.es), own y.ca y.cc 84 3 (chCs s.chg), own y.pa y.pc 119 3 (ftCs s.plan), pts b1 42 [.slice ca cut.length cc, .int .i64 z]]) (fun (i, ss) => N - i) ((0, y.ss)) ⟨Nat.zero_le _, hy.ss⟩ ?_
  rintro ⟨i, ss⟩ ⟨hi, hss⟩
  try dsimp only at hI ⊢
  dsimp only at hi hss ⊢
  unfold dkC
  refine g_sr ?_
  refine Li Cm ?_
  refine g_ne ?_
  refine g_seq ?_
  refine g_cond rfl ?_ ?_
  · intro hlt
    replace hlt := nrm hlt
    have hic : i < s.chg.length := by omega
    have e1 : s.chg[i]? = some s.chg[i] := List.getElem?_eq_getElem hic
    have etk : s.chg.take (i + 1) = s.chg.take i ++ [s.chg[i]] := by rw [List.take_add_one, e1]; rfl
    generalize s.chg[i] = c at e1 etk
    have ht := hS.tn.afterL (cs := s.chg.take i) fun c hc => hS.ck c (List.mem_of_mem_take hc)
    have k1 := rows_at chC_len e1
    change List.take 3 (List.drop (i * 3) (chCs s.chg)) = _ at k1
    refine g_fact (sel_fact (.there (.there (.there (.there (.there .here))))) fun k o => own_none o (by rw [chCs_len]; omega)) fun sa => ?_
    refine g_skip ?_
    refine e_then ?_
    refine g_seq ?_
    refine g_block ?_
    refine g_sr ?_
    refine Li Mv ?_
    refine Li As ?_
    refine g_ne ?_
    refine gT false T.mix ?_
    refine Ti Mv ?_
    refine Ti Nc ?_
    refine Ti (Fa T.fld_65_5) ?_
    refine Tp (oL T.sc_63 ?_)
    refine Ti Mv ?_
    refine Ti (Ix T.sl_63) ?_
    refine Tp (oLN T.ag_84 ?_)
    refine Ti Mv ?_
    refine Ti Nc ?_
    refine Ti (Fa T.fld_65_4) ?_
    refine Tp (oL T.sc_61 ?_)
    refine Tp (oC T.fn_41 rfl rfl (do_fn c y.sm ss) (.cons .here .nil) (fun _ _ _ => trivial) ?_)
    rintro v H' ⟨rfl, rfl⟩
    try simp only [nap, cap]
    refine Tn ?_
    refine e_block ?_
    refine e_then ?_
    refine g_region ?_
    refine Li Im ?_
    refine Li Mv ?_
    refine g_nil ?_
    refine Ro ((i + 1, doE ss c)) (⟨by dsimp only; omega, by dsimp only; rw [etk, afterL_snoc]; exact app1_perm hss ht.nd (fun p hp => (ht.sk p hp).1) c⟩) ((by dsimp only; omega))
  · intro hlt
    replace hlt := nrm hlt
    obtain rfl : i = N := by omega
    have htk : s.chg.take i = s.chg.take z.toNat := by rw [List.take_eq_take_iff]; omega
    rw [htk] at hss
    refine g_exit ?_
    refine e_then_exit ?_
    refine e_then_exit ?_
    refine e_block_hit ?_
    refine e_then ?_
    refine g_sr ?_
    refine Li Mv ?_
    refine Li Mv ?_
    refine Li Nc ?_
    refine Li (Fa T.fld_65_4) ?_
    refine Lp (oL T.sc_61 ?_)
    refine Lp (oC T.fn_42 rfl rfl (clone_fn y.sm ss) (.cons .here .nil) (fun _ _ _ => trivial) ?_)
    rintro v H' ⟨bn, rfl, rfl⟩
    try simp only [nap, cap]
    refine Li Nc ?_
    refine Li (Fa T.fld_65_3) ?_
    refine Lp (oS T.sc_61 ?_)
    refine g_ne ?_
    refine g_seq ?_
    refine g_sr ?_
    refine Li Mv ?_
    refine Li Nc ?_
    refine Li (Fa T.fld_65_2) ?_
    refine Lp (oL T.sc_62 ?_)
    refine Li (Ln T.sl_62) ?_
    refine Li Mv ?_
    refine g_ne ?_
    refine g_block ?_

    refine Lo (ι := Nat × List FiL) [48, 49, 50, 51, 5, 6, 7, 52, 53, 54, 55, 56, 57, 58, 59, 60, 61, 62, 63, 64, 65, 66, 67, 68, 69, 70, 71, 72, 73, 74, 75, 76, 77, 78, 79, 80, 8, 81, 82, 83, 84, 85, 86, 87, 88, 89, 90, 91, 92, 93, 94, 95, 96, 47] (fun (i, fl) => i ≤ s.files.length ∧ fl.map (·.f) = restF cut i s.files ∧ fl.map fiP = y.fl.map fiP) (fun (i, fl) => [(47, .int .i64 (i : Int))]) (fun (i, fl) => [stars (fl.map fiH), own y.fa y.fc 87 1 (y.fl.map fiP), pts b 65 (dkC s { y with nm := bn }), mq .string bn (mes ss), mq .string y.sm (mes ss), own y.ca y.cc 84 3 (chCs s.chg), own y.pa y.pc 119 3 (ftCs s.plan), pts b1 42 [.slice ca cut.length cc, .int .i64 z]]) (fun (i, fl) => s.files.length - i) ((0, y.fl)) ⟨Nat.zero_le _, by rw [restF_zero]; exact hy.fl, rfl⟩ ?_
    rintro ⟨j, fl⟩ ⟨hj, hfl, hfp⟩
    try dsimp only at hI ⊢
    dsimp only at hj hfl hfp ⊢
    unfold dkC
    refine g_sr ?_
    refine Li Cm ?_
    refine g_ne ?_
    refine g_seq ?_
    refine g_cond rfl ?_ ?_
    · intro hlt2
      replace hlt2 := nrm hlt2
      have hjc : j < s.files.length := by omega
      obtain ⟨x, hx, hxf⟩ : ∃ x, fl[j]? = some x ∧ x.f = fileM s j := by
        have h1 := restF_at (cut := cut) (i := j) (fileM_at hjc)
        rw [← hfl, List.getElem?_map, if_neg (by omega), Option.map_eq_some_iff] at h1
        exact h1
      have hfi : (y.fl.map fiP)[j]? = some (fiP x) := by rw [← hfp, List.getElem?_map, hx]; rfl
      have hxb := hfb _ (fileM_mem hjc)
      rw [← hxf] at hxb
      refine g_fact (sel_fact (.there .here) fun k o => own_none o (by rw [List.length_map, lay_len hy]; omega)) fun sa => ?_
      refine g_file hx ?_
      unfold fiC
      obtain ⟨kp, hkp⟩ : ∃ kp, kp = min (cut.getD j 0).toNat (x.f.bs.length - x.f.sf) := ⟨_, rfl⟩
      have hkf : keepF cut j x.f = ⟨x.f.bs.take (x.f.sf + kp), x.f.sf + kp⟩ := by unfold keepF; rw [hkp]
      have hlen : (x.f.bs.take (x.f.sf + kp)).length = x.f.sf + kp := by rw [List.length_take]; omega
      refine g_skip ?_
      refine e_then ?_
      refine g_seq ?_
      refine g_block ?_
      refine g_sr ?_
      refine Li Mv ?_
      refine Li (Ix T.sl_62) ?_
      refine Lp (oL T.sc_87 ?_)
      refine Li As ?_
      refine Li As ?_
      refine g_ne ?_
      refine g_sr ?_
      refine Li As ?_
      refine g_ne ?_
      refine g_seq ?_
      refine g_sr ?_
      refine Li Mv ?_
      refine Li (Fa T.fld_42_0) ?_
      refine Lp (oL T.sc_40 ?_)
      refine Li (Ln T.sl_40) ?_
      refine Li Cm ?_
      refine g_ne ?_
      refine g_mid (ι := Unit) [57, 58, 59, 60, 61, 62, 63, 64, 65, 66, 67, 68, 69, 70, 71, 72, 73, 7] (fun u => True) (fun u => [(7, .int .i64 (kp : Int))]) (fun u => [pts x.b 89 [.slice x.a x.f.bs.length x.c, .int .i64 (x.f.sf : Int)], own x.a x.c 5 1 (bcells x.f.bs), stars ((fl.eraseIdx j).map fiH), own y.fa y.fc 87 1 (y.fl.map fiP), pts b 65 (dkC s { y with nm := bn }), mq .string bn (mes ss), mq .string y.sm (mes ss), own y.ca y.cc 84 3 (chCs s.chg), own y.pa y.pc 119 3 (ftCs s.plan), pts b1 42 [.slice ca cut.length cc, .int .i64 z]]) ?_ ?_
      · refine g_cond rfl ?_ ?_
        · intro hc
          replace hc := nrm hc
          have hcj : j < cut.length := by omega
          have e1 : cut[j]? = some (cut.getD j 0) := by rw [List.getD_eq_getElem?_getD, List.getElem?_eq_getElem hcj]; rfl
          have e2 : (icells cut)[j]? = some (.int .i64 (cut.getD j 0)) := by unfold icells; rw [List.getElem?_map, e1]; rfl
          have sc : ca.isSome = true := hR.some (by unfold icells; rw [List.length_map]; omega)
          refine gT false T.mix ?_
          refine Ti (Fa T.fld_42_0) ?_
          refine Tp (oL T.sc_40 ?_)
          refine Ti Mv ?_
          refine Ti (Ix T.sl_40) ?_
          refine Tp (oL T.sc_3 ?_)
          refine Ti Ma ?_
          refine Ti Mv ?_
          refine Ti Nc ?_
          refine Ti (Fa T.fld_89_0) ?_
          refine Tp (oL T.sc_38 ?_)
          refine Ti (Ln T.sl_38) ?_
          refine Ti Mv ?_
          refine Ti Nc ?_
          refine Ti (Fa T.fld_89_1) ?_
          refine Tp (oL T.sc_3 ?_)
          refine Ti Im ?_
          refine Ti Mi ?_
          refine Ti As ?_
          refine Tn ?_
          refine g_slot (t := 7) (v' := .int .i64 (kp : Int)) rfl (by refine congrArg (Value.int .i64) ?_; omega) ?_
          refine Me (()) (trivial)
        · intro hc
          replace hc := nrm hc
          have e1 : cut.getD j 0 = 0 := by rw [List.getD_eq_getElem?_getD, List.getElem?_eq_none (by omega)]; rfl
          rw [e1] at hkp
          refine g_skip ?_
          refine g_slot (t := 7) (v' := .int .i64 (kp : Int)) rfl (by refine congrArg (Value.int .i64) ?_; simp at hkp; omega) ?_
          refine Me (()) (trivial)
      rintro u hI
      refine g_sr ?_
      refine Li Mv ?_
      refine Li Nc ?_
      refine Li (Fa T.fld_89_1) ?_
      refine Lp (oL T.sc_3 ?_)
      refine Li Mv ?_
      refine Li Im ?_
      refine Lp (oM (x.f.sf + kp) (x.f.sf + kp) T.ap_38 fun b2 => ?_)
      refine Li As ?_
      refine g_ne ?_
      refine g_sr ?_
      refine Li Mv ?_
      refine Li Mv ?_
      refine Li Nc ?_
      refine Li (Fa T.fld_89_0) ?_
      refine Lp (oL T.sc_38 ?_)
      refine Lp (op_copy T.ap_38 rfl rfl rfl rfl .here (src_slice (m := x.f.bs.length) (news := bcells x.f.bs) (by simp) fun h le hin => own_in (hin.nth 2 rfl)) bcells_one (by rw [zrep_length]; omega) rfl ?_)
      have hz : setL (zrep [.int .u8 0] ((x.f.sf + kp) * 1)) 0 ((bcells x.f.bs).take (min x.f.bs.length (x.f.sf + kp) * 1)) = bcells (x.f.bs.take (x.f.sf + kp)) := by
        rw [show min x.f.bs.length (x.f.sf + kp) * 1 = x.f.sf + kp from by omega, bcells_take, setL_eq (by rw [zrep_length, List.length_take, bcells_length]; omega)]
        simp [zrep_length]
        omega
      rw [hz]
      refine g_heap (fun _ s => starL_cons_mono (fun _ p => own_of_pts p (x.f.sf + kp) 1 (by simp; omega) (by simp only [maxLen]; omega)) s) ?_
      refine g_ne ?_
      refine g_region ?_
      refine Li Mv ?_
      refine Li Mv ?_
      refine Li Mv ?_
      refine Li Mv ?_
      refine Li (Ln T.sl_38) ?_
      refine Li Nc ?_
      refine Li (Fa T.fld_89_0) ?_
      refine Lp (oS T.sc_38 ?_)
      refine Li Nc ?_
      refine Li (Fa T.fld_89_1) ?_
      refine Lp (oS T.sc_3 ?_)
      refine g_nil ?_
      refine e_block ?_
      refine e_then ?_
      refine g_region ?_
      refine Li Im ?_
      refine Li Mv ?_
      refine g_nil ?_
      have e3 : [.slice (some ⟨b2, 0, none⟩) (x.f.sf + kp) (x.f.sf + kp), .int .i64 ((x.f.sf + kp : Nat) : Int)] = fiC ⟨x.b, some ⟨b2, 0, none⟩, x.f.sf + kp, ⟨x.f.bs.take (x.f.sf + kp), x.f.sf + kp⟩⟩ := by unfold fiC; rw [hlen]
      refine Hh (H' := [pts x.b 89 [.slice (some ⟨b2, 0, none⟩) (x.f.sf + kp) (x.f.sf + kp), .int .i64 ((x.f.sf + kp : Nat) : Int)], own (some ⟨b2, 0, none⟩) (x.f.sf + kp) 5 1 (bcells (x.f.bs.take (x.f.sf + kp))), stars ((fl.eraseIdx j).map fiH), own y.fa y.fc 87 1 (y.fl.map fiP), pts b 65 (dkC s { y with nm := bn }), mq .string bn (mes ss), mq .string y.sm (mes ss), own y.ca y.cc 84 3 (chCs s.chg), own y.pa y.pc 119 3 (ftCs s.plan), pts b1 42 [.slice ca cut.length cc, .int .i64 z]]) ?_
      rw [e3]
      refine g_heap (fun _ k => file_back hx ⟨x.b, some ⟨b2, 0, none⟩, x.f.sf + kp, ⟨x.f.bs.take (x.f.sf + kp), x.f.sf + kp⟩⟩ k) ?_
      refine Ro ((j + 1, fl.set j ⟨x.b, some ⟨b2, 0, none⟩, x.f.sf + kp, ⟨x.f.bs.take (x.f.sf + kp), x.f.sf + kp⟩⟩)) (⟨by dsimp only; omega, by dsimp only; rw [List.map_set, hfl, ← hkf, restF_set (by rw [hxf]; exact fileM_at hjc)], (lay_ptr (x' := ⟨x.b, some ⟨b2, 0, none⟩, x.f.sf + kp, ⟨x.f.bs.take (x.f.sf + kp), x.f.sf + kp⟩⟩) hx rfl).trans hfp⟩) ((by dsimp only; omega))
    · intro hlt2
      replace hlt2 := nrm hlt2
      obtain rfl : j = s.files.length := by omega
      have hl : (restF cut s.files.length s.files).length = s.files.length := restF_len _ _ _
      refine g_exit ?_
      refine e_then_exit ?_
      refine e_then_exit ?_
      refine e_block_hit ?_
      refine e_then ?_
      refine g_region ?_
      refine Li Mv ?_
      refine Li Mv ?_
      refine Li Mv ?_
      refine Li Nc ?_
      refine Li (Fa T.fld_65_5) ?_
      refine Lp (oS T.sc_63 ?_)
      refine Li Nc ?_
      refine Li (Fa T.fld_65_6) ?_
      refine Lp (oS T.sc_39 ?_)
      refine Li Nc ?_
      refine Li (Fa T.fld_65_7) ?_
      refine Lp (oS T.sc_4 ?_)
      refine g_nil ?_
      refine g_nilrow 84 3 (g_nilrow 119 3 ?_)
      rw [← hl]
      refine Hh (H' := [pts b 65 (dkC (restM s cut z) ⟨y.fa, y.fc, bn, y.sm, none, 0, none, 0, fl, ss, ss⟩), own y.fa y.fc 87 1 (y.fl.map fiP), stars (fl.map fiH), mq .string bn (mes ss), mq .string y.sm (mes ss), own none 0 84 3 (chCs []), own none 0 119 3 (ftCs [])]) ?_
      rw [← hfp]
      refine g_heap (H' := [Dk b (restM s cut z)]) (fun _ x => close_dk (H := []) (y := ⟨y.fa, y.fc, bn, y.sm, none, 0, none, 0, fl, ss, ss⟩) ⟨hfl, hss, hss⟩ x) ?_
      refine Rn0 [Dk b (restM s cut z)] Try.results10 ?_
      exact ⟨rfl, rfl⟩
end Go.Proofs.Ytncmmhfgcgnojaa

