/- Counts: the law of the order. -/
import Derived.Test.YtdmepoiijgejhaaDoorP2
import Derived.Test.YtdmepoiijgejhaaDoorK16
import Derived.Test.YtdmepoiijgejhaaDoorOpnL
set_option maxRecDepth 100000
namespace Go.Proofs.YtdmepoiijgejhaaDoor
open Go Go.Eng

/-- what an outcome adds that was cut -/
def evx (x : Oc) : List (Int × Nat) := evE x.c.verb x.a.kind x.a.text x.fl (few x.why) (fewM x.m)
def evs (l : List Oc) : List (Int × Nat) := l.flatMap evx
theorem evs_snoc (l : List Oc) (x : Oc) : evs (l ++ [x]) = evs l ++ evx x := by simp [evs]
theorem tmod_ok (z : Int) : i64 (z.tmod 1000) := by
  have h1 : z.tmod 1000 < 1000 := Int.tmod_lt_of_pos z (by omega)
  have h2 : -1000 < z.tmod 1000 := Int.lt_tmod_of_pos z (by omega)
  unfold i64; omega
theorem fewM_ok (m : Mtr) : (fewM m).ok := ⟨tmod_ok _, tmod_ok _, tmod_ok _, tmod_ok _⟩
def zeroL : List Nat := List.replicate 32 0
def BO (E : List (Int × Nat)) : List Nat := foldM zeroL E
theorem zeroL_bd : Brd zeroL := bd_zero
theorem BO_bd (E : List (Int × Nat)) : Brd (BO E) := zeroL_bd.fold E
theorem zeroL_get (j : Nat) : zeroL.getD j 0 = 0 := by
  unfold zeroL
  rw [List.getD_eq_getElem?_getD, List.getElem?_replicate]; split <;> rfl
theorem BO_get (E : List (Int × Nat)) (j : Nat) : (BO E).getD j 0 = min (tot E j) maxN := by
  unfold BO
  rw [foldM_get E zeroL_bd, zeroL_get, Nat.zero_add]
theorem BO_comm (E : List (Int × Nat)) (x : Oc) : commM (BO E) x.c.verb x.a.kind x.a.text x.fl (few x.why) (fewM x.m) = BO (E ++ evx x) := by
  rw [commM_fold]; unfold BO; rw [foldM_append]; rfl
def restC (x : Oc) (a : Option Addr) (c : Nat) : List Value := outC x.c x.a a (few x.why).length c (fewM x.m)
theorem rest_one (x : Oc) (a : Option Addr) (c : Nat) : ∀ v ∈ restC x a c, v.oneCell' = true := by
  unfold restC outC cmdC ansC mtrC
  simp [Value.oneCell', strv]
theorem few_len (l : List Int) : (few l).length ≤ 1000000 := by unfold few; simp; omega
theorem CommO (b : Nat) (e : TypeId) (E : List (Int × Nat)) (x : Oc) (a : Option Addr) (cw : Nat) (fl0 : x.c.fm = x.fl.length) (flb : x.fl.length ≤ 9223372036854775807) (txt : x.a.text.length ≤ 9223372036854775807) :
    FnS Tryd.prog 13 [.pointer (some ⟨b, 0, none⟩), .agg (cmdC x.c).toArray, .agg (ansC x.a).toArray, .slice a (few x.why).length cw, .agg (mtrC (fewM x.m)).toArray] (fun h => Rdl h x.c.fa (flsC x.fl) ∧ Rdl h a (icells (few x.why))) [pts b e (bdC 0 (BO E))] (fun v H => v = .tuple #[] ∧ H = [pts b e (bdC 0 (BO (E ++ evx x)))]) := by
  have := Command_fn b e (BO E) (BO_bd E) x.c x.a x.fl fl0 flb (few x.why) a (few x.why).length cw rfl (few_len _) txt (fewM x.m) (fewM_ok _)
  rw [BO_comm] at this
  exact this
theorem FewO (x : Oc) (h : x.why.length ≤ x.wc) : FnS Tryd.prog 19 [.agg (ocC x).toArray] (fun _ => True) [] (fun v H => ∃ a' c', v = .agg (restC x a' c').toArray ∧ (∀ h, Rdl h x.wa (icells x.why) → Rdl h a' (icells (few x.why))) ∧ H = []) :=
  (fewer_fn x.c x.a x.why x.wa x.why.length x.wc rfl h x.m).out fun v H' => by
    rintro ⟨a', c', rfl, _, hr, rfl⟩
    exact ⟨[], ⟨a', c', rfl, hr, rfl⟩, fun _ s => s⟩

/-- the numbers of another board, name by name, put to this one's -/
def moreE (l : List Nat) (k : Nat) : List (Int × Nat) := (List.range k).map fun i => (((i + 1 : Nat) : Int), readM l ((i + 1 : Nat) : Int))
theorem moreE_succ (m l : List Nat) (k : Nat) : foldM m (moreE l (k + 1)) = addM (foldM m (moreE l k)) ((k + 1 : Nat) : Int) (readM l ((k + 1 : Nat) : Int)) := by
  have : moreE l (k + 1) = moreE l k ++ [(((k + 1 : Nat) : Int), readM l ((k + 1 : Nat) : Int))] := by simp [moreE, List.range_succ]
  rw [this, foldM_append]; rfl
theorem readM_le {l : List Nat} (bd : Brd l) (z : Int) : readM l z ≤ maxN := by
  unfold readM; split
  · exact bd.top _
  · exact Nat.zero_le _
theorem tot_out (E : List (Int × Nat)) (j : Nat) (h : ¬ (1 ≤ j ∧ j < 32)) : tot E j = 0 := by
  induction E with
  | nil => rfl
  | cons p r ih =>
    have e : tot (p :: r) j = (if p.1 = (j : Int) ∧ 1 ≤ p.1 ∧ p.1 < 32 then p.2 else 0) + tot r j := by simp [tot]
    rw [e, ih, if_neg (by omega)]
theorem moreE_tot {l : List Nat} (bd : Brd l) (k j : Nat) (hk : k ≤ 31) : tot (moreE l k) j = if 1 ≤ j ∧ j ≤ k then l.getD j 0 else 0 := by
  induction k with
  | zero => rw [if_neg (by omega)]; rfl
  | succ k ih =>
    have e : moreE l (k + 1) = moreE l k ++ [(((k + 1 : Nat) : Int), readM l ((k + 1 : Nat) : Int))] := by simp [moreE, List.range_succ]
    have e2 : tot [(((k + 1 : Nat) : Int), readM l ((k + 1 : Nat) : Int))] j = if j = k + 1 then l.getD j 0 else 0 := by
      simp only [tot, List.map_cons, List.map_nil, List.sum_cons, List.sum_nil, Nat.add_zero]
      by_cases hj : j = k + 1
      · subst hj
        rw [if_pos ⟨rfl, by omega, by omega⟩, if_pos rfl]
        unfold readM
        rw [if_pos (by omega), Int.toNat_natCast]
      · rw [if_neg (by omega), if_neg hj]
    rw [e, tot_append, ih (by omega), e2]
    by_cases h1 : j = k + 1
    · rw [if_neg (by omega), if_pos h1, if_pos (by omega)]; omega
    · rw [if_neg h1]
      by_cases h2 : 1 ≤ j ∧ j ≤ k
      · rw [if_pos h2, if_pos (by omega)]; omega
      · rw [if_neg h2, if_neg (by omega)]

set_option maxHeartbeats 2000000 in
theorem orderLaw_fn (l : List Oc) (hb : l.length ≤ 9223372036854775807) (a : Option Addr) (m c : Nat) (hm : m = l.length) :
    FnS Tryd.prog 7 [.slice a m c] (fun h => Tab h ∧ Rdl h a (ocsC l) ∧ ∀ x ∈ l, OcOk h x) [] (fun v H => v = .bool true ∧ H = []) := by
  subst hm
  refine fn_body Tryd.func7 rfl Tryd.ntmps7 rfl ?_
  intro F hF
  refine g_sr ?_
  refine Li As ?_
  refine g_ne ?_
  refine g_seq ?_
  refine g_sr ?_
  refine Lp (oC T.fn_10 rfl rfl (wakes_fn) .nil (fun _ le _ => hF.1.mono le) ?_)
  rintro v H' ⟨rfl, rfl⟩
  try simp only [nap, cap]
  refine Li Nt ?_
  refine g_ne ?_
  refine g_cond_f rfl (by rfl) ?_
  refine g_skip ?_
  refine e_then ?_
  refine g_sr ?_
  refine Lp (oC T.fn_11 rfl rfl (new_fn) .nil (fun _ _ _ => trivial) ?_)
  rintro v H' ⟨ba, rfl, rfl⟩
  try simp only [nap, cap]
  refine Lp (oC T.fn_11 rfl rfl (new_fn) .nil (fun _ _ _ => trivial) ?_)
  rintro v H' ⟨bb, rfl, rfl⟩
  try simp only [nap, cap]
  refine Lp (oC T.fn_11 rfl rfl (new_fn) .nil (fun _ _ _ => trivial) ?_)
  rintro v H' ⟨bc, rfl, rfl⟩
  try simp only [nap, cap]
  refine Lp (oC T.fn_11 rfl rfl (new_fn) .nil (fun _ _ _ => trivial) ?_)
  rintro v H' ⟨bd, rfl, rfl⟩
  try simp only [nap, cap]
  refine Li As ?_
  refine Li As ?_
  refine Li As ?_
  refine Li As ?_
  refine g_ne ?_
  refine g_seq ?_
  refine g_sr ?_
  refine Li Mv ?_
  refine Li (Pn T.u_24) ?_
  refine Li Mv ?_
  refine g_slot (t := 20) (v' := .bool false) rfl (congrArg Value.bool (by rfl)) ?_
  refine Li Mv ?_
  refine Li (Pn T.u_24) ?_
  refine Li Pf ?_
  refine Li Mv ?_
  refine g_slot (t := 24) (v' := .bool false) rfl (congrArg Value.bool (by rfl)) ?_
  refine Li Mv ?_
  refine Li (Pn T.u_24) ?_
  refine Li Pf ?_
  refine Li Mv ?_
  refine g_slot (t := 28) (v' := .bool false) rfl (congrArg Value.bool (by rfl)) ?_
  refine Li Mv ?_
  refine Li (Pn T.u_24) ?_
  refine Li Pf ?_
  refine g_ne ?_
  refine g_cond_f rfl (by rfl) ?_
  refine g_skip ?_
  refine e_then ?_
  refine g_sr ?_
  refine Li Mv ?_
  refine Li (Ln T.sl_22) ?_
  refine Li Mi ?_
  obtain ⟨n, hn⟩ : ∃ n : Nat, n = min l.length 2000 := ⟨_, rfl⟩
  refine g_slot (t := 34) (v' := .int .i64 (n : Int)) rfl (by refine congrArg (Value.int .i64) ?_; omega) ?_
  refine Li As ?_
  refine g_ne ?_
  refine g_seq ?_
  refine g_sr ?_
  refine Li As ?_
  refine g_ne ?_
  refine g_block ?_
  refine Lo (ι := Nat × List (Int × Nat) × List (Int × Nat) × List (Int × Nat) × List (Int × Nat)) [35, 36, 37, 40, 41, 42, 43, 44, 45, 46, 47, 48, 49, 50, 51, 52, 9, 10, 53, 54, 55, 56, 57, 58, 59, 60, 61, 62, 63, 64, 65, 66, 67, 68, 69, 70, 71, 72, 73, 74, 75, 76, 77, 78, 79, 80, 81, 82, 83, 84, 85, 86, 87, 88, 89, 90, 91, 92, 93, 94, 95, 38, 39, 8] (fun (i, ea, eb, ec, ed) => i ≤ n ∧ ea = evs (l.take i) ∧ (∀ j, tot eb j = tot (evs ((l.take n).drop (n - i))) j) ∧ ∀ j, tot ec j + tot ed j = tot ea j) (fun (i, ea, eb, ec, ed) => [(8, .int .i64 (i : Int))]) (fun (i, ea, eb, ec, ed) => [pts ba 89 (bdC 0 (BO ea)), pts bb 89 (bdC 0 (BO eb)), pts bc 89 (bdC 0 (BO ec)), pts bd 89 (bdC 0 (BO ed))]) (fun (i, ea, eb, ec, ed) => n - i) ((0, [], [], [], [])) ⟨Nat.zero_le _, rfl, fun j => by rw [Nat.sub_zero, List.drop_of_length_le (by simp; omega)]; rfl, fun j => rfl⟩ ?_
  rintro ⟨i, ea, eb, ec, ed⟩ ⟨hi, hea, heb, hcd⟩
  try dsimp only at hI ⊢
  dsimp only at hi hea heb hcd ⊢
  refine g_seq ?_
  refine g_sr ?_
  refine Li Mv ?_
  refine Li Mv ?_
  refine Li Cm ?_
  refine g_ne ?_
  refine g_cond rfl ?_ ?_
  · intro h1
    replace h1 := nrm h1
    obtain ⟨x, e1⟩ : ∃ x, l[i]? = some x := ⟨_, List.getElem?_eq_getElem (show i < l.length by omega)⟩
    obtain ⟨y, e2⟩ : ∃ y, l[n - 1 - i]? = some y := ⟨_, List.getElem?_eq_getElem (show n - 1 - i < l.length by omega)⟩
    have k1 : ((ocsC l).drop (i * 24)).take 24 = ocC x := ocsC_at l i x e1
    have k2 : ((ocsC l).drop ((n - 1 - i) * 24)).take 24 = ocC y := ocsC_at l (n - 1 - i) y e2
    have hll := ocsC_len l
    have hF2 := hF.2.1
    have ox := hF.2.2 x (List.mem_of_getElem? e1)
    have oy := hF.2.2 y (List.mem_of_getElem? e2)
    have a0 : a.isSome = true := hF2.some (by omega)
    have f1 := FewO x ox.wcb
    have f2 := FewO y oy.wcb
    refine Hh (H' := [pts ba 89 (bdC 0 (BO ea)), pts bb 89 (bdC 0 (BO eb)), pts bc 89 (bdC 0 (BO ec)), pts bd 89 (bdC 0 (BO ed))]) ?_
    refine g_skip ?_
    refine e_then ?_
    refine g_seq ?_
    refine g_block ?_
    refine g_seq ?_
    refine g_mid (ι := Nat × Nat × Option Addr × Nat × Option Addr × Nat) [40, 41, 42, 43, 44, 45, 46, 47, 48, 49, 50, 51, 52, 9, 10] (fun (p, q, ax, cx, ay, cy) => Rdl F.h ax (icells (few x.why)) ∧ Rdl F.h ay (icells (few y.why))) (fun (p, q, ax, cx, ay, cy) => [(9, .pointer (some ⟨p, 0, none⟩)), (10, .pointer (some ⟨q, 0, none⟩))]) (fun (p, q, ax, cx, ay, cy) => [pts p 43 (restC x ax cx), pts q 43 (restC y ay cy), pts ba 89 (bdC 0 (BO ea)), pts bb 89 (bdC 0 (BO eb)), pts bc 89 (bdC 0 (BO ec)), pts bd 89 (bdC 0 (BO ed))]) ?_ ?_
    · refine g_drw T.mix .nil fun F1 le1 hin1 back1 => ?_
      replace hF2 := hF2.mono le1
      refine Dt 0 rfl Mv ?_
      refine Dt 1 rfl Mv ?_
      refine Dt 2 rfl (Ix T.sl_22) ?_
      refine Dt 3 rfl (LfN T.ag_43) ?_
      refine Dt 5 rfl Mv ?_
      refine Dt 6 rfl Mv ?_
      refine Dt 7 rfl Im ?_
      refine Dt 8 rfl Mv ?_
      refine Dt 9 rfl Im ?_
      refine Dt 10 rfl (Ix T.sl_22 (j := n - 1 - i) (hj := by omega)) ?_
      refine Dt 11 rfl (LfN T.ag_43) ?_
      refine D3 4 13 14 ?_ ?_ ?_
      · refine Do rfl (oC T.fn_19 rfl rfl (f1) .nil (fun _ _ _ => trivial) ?_)
        rintro v H' ⟨a1, c1, rfl, hr1, rfl⟩
        try simp only [nap, cap]
        refine gh_next ?_
        refine D3 12 13 14 ?_ ?_ ?_
        · refine Do rfl (oC T.fn_19 rfl rfl (f2) .nil (fun _ _ _ => trivial) ?_)
          rintro v H' ⟨a2, c2, rfl, hr2, rfl⟩
          try simp only [nap, cap]
          refine gh_next ?_
          refine D2 13 14 ?_ ?_
          · refine Do rfl (oA T.zc_43 fun b1 => ?_)
            refine gh_next ?_
            refine Dn 14 ?_
            refine Do rfl (oA T.zc_43 fun b2 => ?_)
            refine gh_next ?_
            refine Dn 15 ?_
            refine Do rfl (oSW T.ag_43 ?_ (h1 := by first | exact rest_one _ _ _ | (simp [setL, Value.cells, Value.oneCell', strv])))
            refine gh_next ?_
            refine Dn 16 ?_
            refine Do rfl (oSW T.ag_43 ?_ (h1 := by first | exact rest_one _ _ _ | (simp [setL, Value.cells, Value.oneCell', strv])))
            refine gh_next ?_
            refine gh_done (by kernel_rfl) back1 ?_
            refine Me ((b1, b2, a1, c1, a2, c2)) (⟨hr1 _ ox.whs, hr2 _ oy.whs⟩)
          · refine Do rfl (oA T.zc_43 fun b3 => ?_)
            refine gh_next ?_
            refine Dn 13 ?_
            refine Do rfl (oA T.zc_43 fun b4 => ?_)
            refine gh_next ?_
            refine Dn 15 ?_
            refine Do rfl (oSW T.ag_43 ?_ (h1 := by first | exact rest_one _ _ _ | (simp [setL, Value.cells, Value.oneCell', strv])))
            refine gh_next ?_
            refine Dn 16 ?_
            refine Do rfl (oSW T.ag_43 ?_ (h1 := by first | exact rest_one _ _ _ | (simp [setL, Value.cells, Value.oneCell', strv])))
            refine gh_next ?_
            refine gh_done (by kernel_rfl) back1 ?_
            refine Me ((b4, b3, a1, c1, a2, c2)) (⟨hr1 _ ox.whs, hr2 _ oy.whs⟩)
        · refine Do rfl (oA T.zc_43 fun b5 => ?_)
          refine gh_next ?_
          refine D2 12 14 ?_ ?_
          · refine Do rfl (oC T.fn_19 rfl rfl (f2) .nil (fun _ _ _ => trivial) ?_)
            rintro v H' ⟨a2, c2, rfl, hr2, rfl⟩
            try simp only [nap, cap]
            refine gh_next ?_
            refine Dn 14 ?_
            refine Do rfl (oA T.zc_43 fun b6 => ?_)
            refine gh_next ?_
            refine Dn 15 ?_
            refine Do rfl (oSW T.ag_43 ?_ (h1 := by first | exact rest_one _ _ _ | (simp [setL, Value.cells, Value.oneCell', strv])))
            refine gh_next ?_
            refine Dn 16 ?_
            refine Do rfl (oSW T.ag_43 ?_ (h1 := by first | exact rest_one _ _ _ | (simp [setL, Value.cells, Value.oneCell', strv])))
            refine gh_next ?_
            refine gh_done (by kernel_rfl) back1 ?_
            refine Me ((b5, b6, a1, c1, a2, c2)) (⟨hr1 _ ox.whs, hr2 _ oy.whs⟩)
          · refine Do rfl (oA T.zc_43 fun b7 => ?_)
            refine gh_next ?_
            refine Dn 12 ?_
            refine Do rfl (oC T.fn_19 rfl rfl (f2) .nil (fun _ _ _ => trivial) ?_)
            rintro v H' ⟨a2, c2, rfl, hr2, rfl⟩
            try simp only [nap, cap]
            refine gh_next ?_
            refine Dn 15 ?_
            refine Do rfl (oSW T.ag_43 ?_ (h1 := by first | exact rest_one _ _ _ | (simp [setL, Value.cells, Value.oneCell', strv])))
            refine gh_next ?_
            refine Dn 16 ?_
            refine Do rfl (oSW T.ag_43 ?_ (h1 := by first | exact rest_one _ _ _ | (simp [setL, Value.cells, Value.oneCell', strv])))
            refine gh_next ?_
            refine gh_done (by kernel_rfl) back1 ?_
            refine Me ((b5, b7, a1, c1, a2, c2)) (⟨hr1 _ ox.whs, hr2 _ oy.whs⟩)
        · refine Do rfl (oA T.zc_43 fun b8 => ?_)
          refine gh_next ?_
          refine D2 12 13 ?_ ?_
          · refine Do rfl (oC T.fn_19 rfl rfl (f2) .nil (fun _ _ _ => trivial) ?_)
            rintro v H' ⟨a2, c2, rfl, hr2, rfl⟩
            try simp only [nap, cap]
            refine gh_next ?_
            refine Dn 13 ?_
            refine Do rfl (oA T.zc_43 fun b9 => ?_)
            refine gh_next ?_
            refine Dn 15 ?_
            refine Do rfl (oSW T.ag_43 ?_ (h1 := by first | exact rest_one _ _ _ | (simp [setL, Value.cells, Value.oneCell', strv])))
            refine gh_next ?_
            refine Dn 16 ?_
            refine Do rfl (oSW T.ag_43 ?_ (h1 := by first | exact rest_one _ _ _ | (simp [setL, Value.cells, Value.oneCell', strv])))
            refine gh_next ?_
            refine gh_done (by kernel_rfl) back1 ?_
            refine Me ((b9, b8, a1, c1, a2, c2)) (⟨hr1 _ ox.whs, hr2 _ oy.whs⟩)
          · refine Do rfl (oA T.zc_43 fun b10 => ?_)
            refine gh_next ?_
            refine Dn 12 ?_
            refine Do rfl (oC T.fn_19 rfl rfl (f2) .nil (fun _ _ _ => trivial) ?_)
            rintro v H' ⟨a2, c2, rfl, hr2, rfl⟩
            try simp only [nap, cap]
            refine gh_next ?_
            refine Dn 15 ?_
            refine Do rfl (oSW T.ag_43 ?_ (h1 := by first | exact rest_one _ _ _ | (simp [setL, Value.cells, Value.oneCell', strv])))
            refine gh_next ?_
            refine Dn 16 ?_
            refine Do rfl (oSW T.ag_43 ?_ (h1 := by first | exact rest_one _ _ _ | (simp [setL, Value.cells, Value.oneCell', strv])))
            refine gh_next ?_
            refine gh_done (by kernel_rfl) back1 ?_
            refine Me ((b10, b8, a1, c1, a2, c2)) (⟨hr1 _ ox.whs, hr2 _ oy.whs⟩)
      · refine Do rfl (oA T.zc_43 fun b11 => ?_)
        refine gh_next ?_
        refine D2 4 14 ?_ ?_
        · refine Do rfl (oC T.fn_19 rfl rfl (f1) .nil (fun _ _ _ => trivial) ?_)
          rintro v H' ⟨a1, c1, rfl, hr1, rfl⟩
          try simp only [nap, cap]
          refine gh_next ?_
          refine D2 12 14 ?_ ?_
          · refine Do rfl (oC T.fn_19 rfl rfl (f2) .nil (fun _ _ _ => trivial) ?_)
            rintro v H' ⟨a2, c2, rfl, hr2, rfl⟩
            try simp only [nap, cap]
            refine gh_next ?_
            refine Dn 14 ?_
            refine Do rfl (oA T.zc_43 fun b12 => ?_)
            refine gh_next ?_
            refine Dn 15 ?_
            refine Do rfl (oSW T.ag_43 ?_ (h1 := by first | exact rest_one _ _ _ | (simp [setL, Value.cells, Value.oneCell', strv])))
            refine gh_next ?_
            refine Dn 16 ?_
            refine Do rfl (oSW T.ag_43 ?_ (h1 := by first | exact rest_one _ _ _ | (simp [setL, Value.cells, Value.oneCell', strv])))
            refine gh_next ?_
            refine gh_done (by kernel_rfl) back1 ?_
            refine Me ((b11, b12, a1, c1, a2, c2)) (⟨hr1 _ ox.whs, hr2 _ oy.whs⟩)
          · refine Do rfl (oA T.zc_43 fun b13 => ?_)
            refine gh_next ?_
            refine Dn 12 ?_
            refine Do rfl (oC T.fn_19 rfl rfl (f2) .nil (fun _ _ _ => trivial) ?_)
            rintro v H' ⟨a2, c2, rfl, hr2, rfl⟩
            try simp only [nap, cap]
            refine gh_next ?_
            refine Dn 15 ?_
            refine Do rfl (oSW T.ag_43 ?_ (h1 := by first | exact rest_one _ _ _ | (simp [setL, Value.cells, Value.oneCell', strv])))
            refine gh_next ?_
            refine Dn 16 ?_
            refine Do rfl (oSW T.ag_43 ?_ (h1 := by first | exact rest_one _ _ _ | (simp [setL, Value.cells, Value.oneCell', strv])))
            refine gh_next ?_
            refine gh_done (by kernel_rfl) back1 ?_
            refine Me ((b11, b13, a1, c1, a2, c2)) (⟨hr1 _ ox.whs, hr2 _ oy.whs⟩)
        · refine Do rfl (oA T.zc_43 fun b14 => ?_)
          refine gh_next ?_
          refine Dn 4 ?_
          refine Do rfl (oC T.fn_19 rfl rfl (f1) .nil (fun _ _ _ => trivial) ?_)
          rintro v H' ⟨a1, c1, rfl, hr1, rfl⟩
          try simp only [nap, cap]
          refine gh_next ?_
          refine Dn 12 ?_
          refine Do rfl (oC T.fn_19 rfl rfl (f2) .nil (fun _ _ _ => trivial) ?_)
          rintro v H' ⟨a2, c2, rfl, hr2, rfl⟩
          try simp only [nap, cap]
          refine gh_next ?_
          refine Dn 15 ?_
          refine Do rfl (oSW T.ag_43 ?_ (h1 := by first | exact rest_one _ _ _ | (simp [setL, Value.cells, Value.oneCell', strv])))
          refine gh_next ?_
          refine Dn 16 ?_
          refine Do rfl (oSW T.ag_43 ?_ (h1 := by first | exact rest_one _ _ _ | (simp [setL, Value.cells, Value.oneCell', strv])))
          refine gh_next ?_
          refine gh_done (by kernel_rfl) back1 ?_
          refine Me ((b11, b14, a1, c1, a2, c2)) (⟨hr1 _ ox.whs, hr2 _ oy.whs⟩)
      · refine Do rfl (oA T.zc_43 fun b15 => ?_)
        refine gh_next ?_
        refine D2 4 13 ?_ ?_
        · refine Do rfl (oC T.fn_19 rfl rfl (f1) .nil (fun _ _ _ => trivial) ?_)
          rintro v H' ⟨a1, c1, rfl, hr1, rfl⟩
          try simp only [nap, cap]
          refine gh_next ?_
          refine D2 12 13 ?_ ?_
          · refine Do rfl (oC T.fn_19 rfl rfl (f2) .nil (fun _ _ _ => trivial) ?_)
            rintro v H' ⟨a2, c2, rfl, hr2, rfl⟩
            try simp only [nap, cap]
            refine gh_next ?_
            refine Dn 13 ?_
            refine Do rfl (oA T.zc_43 fun b16 => ?_)
            refine gh_next ?_
            refine Dn 15 ?_
            refine Do rfl (oSW T.ag_43 ?_ (h1 := by first | exact rest_one _ _ _ | (simp [setL, Value.cells, Value.oneCell', strv])))
            refine gh_next ?_
            refine Dn 16 ?_
            refine Do rfl (oSW T.ag_43 ?_ (h1 := by first | exact rest_one _ _ _ | (simp [setL, Value.cells, Value.oneCell', strv])))
            refine gh_next ?_
            refine gh_done (by kernel_rfl) back1 ?_
            refine Me ((b16, b15, a1, c1, a2, c2)) (⟨hr1 _ ox.whs, hr2 _ oy.whs⟩)
          · refine Do rfl (oA T.zc_43 fun b17 => ?_)
            refine gh_next ?_
            refine Dn 12 ?_
            refine Do rfl (oC T.fn_19 rfl rfl (f2) .nil (fun _ _ _ => trivial) ?_)
            rintro v H' ⟨a2, c2, rfl, hr2, rfl⟩
            try simp only [nap, cap]
            refine gh_next ?_
            refine Dn 15 ?_
            refine Do rfl (oSW T.ag_43 ?_ (h1 := by first | exact rest_one _ _ _ | (simp [setL, Value.cells, Value.oneCell', strv])))
            refine gh_next ?_
            refine Dn 16 ?_
            refine Do rfl (oSW T.ag_43 ?_ (h1 := by first | exact rest_one _ _ _ | (simp [setL, Value.cells, Value.oneCell', strv])))
            refine gh_next ?_
            refine gh_done (by kernel_rfl) back1 ?_
            refine Me ((b17, b15, a1, c1, a2, c2)) (⟨hr1 _ ox.whs, hr2 _ oy.whs⟩)
        · refine Do rfl (oA T.zc_43 fun b18 => ?_)
          refine gh_next ?_
          refine Dn 4 ?_
          refine Do rfl (oC T.fn_19 rfl rfl (f1) .nil (fun _ _ _ => trivial) ?_)
          rintro v H' ⟨a1, c1, rfl, hr1, rfl⟩
          try simp only [nap, cap]
          refine gh_next ?_
          refine Dn 12 ?_
          refine Do rfl (oC T.fn_19 rfl rfl (f2) .nil (fun _ _ _ => trivial) ?_)
          rintro v H' ⟨a2, c2, rfl, hr2, rfl⟩
          try simp only [nap, cap]
          refine gh_next ?_
          refine Dn 15 ?_
          refine Do rfl (oSW T.ag_43 ?_ (h1 := by first | exact rest_one _ _ _ | (simp [setL, Value.cells, Value.oneCell', strv])))
          refine gh_next ?_
          refine Dn 16 ?_
          refine Do rfl (oSW T.ag_43 ?_ (h1 := by first | exact rest_one _ _ _ | (simp [setL, Value.cells, Value.oneCell', strv])))
          refine gh_next ?_
          refine gh_done (by kernel_rfl) back1 ?_
          refine Me ((b18, b15, a1, c1, a2, c2)) (⟨hr1 _ ox.whs, hr2 _ oy.whs⟩)
    rintro ⟨p, q, ax, cx, ay, cy⟩ ⟨hwx, hwy⟩
    try dsimp only at hI ⊢
    refine g_sr ?_
    refine Li Mv ?_
    refine Li (Fa T.fld_43_0) ?_
    refine Lp (oLN T.ag_34 ?_)
    refine Li (Fa T.fld_43_1) ?_
    refine Lp (oLN T.ag_38 ?_)
    refine Li (Fa T.fld_43_2) ?_
    refine Lp (oL T.sc_39 ?_)
    refine Li (Fa T.fld_43_3) ?_
    refine Lp (oLN T.ag_41 ?_)
    refine Lp (oC T.fn_13 rfl rfl (CommO ba 89 ea x ax cx ox.fm ox.flb ox.txt) (.cons (.there (.there .here)) .nil) (fun _ le _ => ⟨ox.fls.mono le, hwx.mono le⟩) ?_)
    rintro v H' ⟨rfl, rfl⟩
    try simp only [nap, cap]
    refine g_ne ?_
    refine g_sr ?_
    refine Li Mv ?_
    refine Li (Fa T.fld_43_0) ?_
    refine Lp (oLN T.ag_34 ?_)
    refine Li (Fa T.fld_43_1) ?_
    refine Lp (oLN T.ag_38 ?_)
    refine Li (Fa T.fld_43_2) ?_
    refine Lp (oL T.sc_39 ?_)
    refine Li (Fa T.fld_43_3) ?_
    refine Lp (oLN T.ag_41 ?_)
    refine Lp (oC T.fn_13 rfl rfl (CommO bb 89 eb y ay cy oy.fm oy.flb oy.txt) (.cons (.there (.there (.there .here))) .nil) (fun _ le _ => ⟨oy.fls.mono le, hwy.mono le⟩) ?_)
    rintro v H' ⟨rfl, rfl⟩
    try simp only [nap, cap]
    refine g_ne ?_
    refine g_sr ?_
    refine Li Mv ?_
    refine Li Im ?_
    refine Li Cm ?_
    refine g_ne ?_
    have hea2 : ea ++ evx x = evs (l.take (i + 1)) := by rw [hea, ← evs_snoc, List.take_add_one, e1]; rfl
    have heb2 : ∀ j, tot (eb ++ evx y) j = tot (evs ((l.take n).drop (n - (i + 1)))) j := fun j => by
      have hd : (l.take n).drop (n - (i + 1)) = y :: (l.take n).drop (n - i) := by
        have hlt : n - (i + 1) < (l.take n).length := by simp; omega
        rw [List.drop_eq_getElem_cons hlt]
        have e3 : (l.take n)[n - (i + 1)] = y := by
          apply Option.some.inj
          rw [← List.getElem?_eq_getElem hlt, List.getElem?_take_of_lt (by omega), show n - (i + 1) = n - 1 - i from by omega, e2]
        rw [e3, show n - (i + 1) + 1 = n - i from by omega]
      rw [hd, tot_append, heb j, show evs (y :: (l.take n).drop (n - i)) = evx y ++ evs ((l.take n).drop (n - i)) from by simp [evs], tot_append]; omega
    refine g_cond rfl ?_ ?_
    · intro h2
      replace h2 := nrm h2
      refine g_region ?_
      refine Li Mv ?_
      refine Li (Fa T.fld_43_0) ?_
      refine Lp (oLN T.ag_34 ?_)
      refine Li (Fa T.fld_43_1) ?_
      refine Lp (oLN T.ag_38 ?_)
      refine Li (Fa T.fld_43_2) ?_
      refine Lp (oL T.sc_39 ?_)
      refine Li (Fa T.fld_43_3) ?_
      refine Lp (oLN T.ag_41 ?_)
      refine Lp (oC T.fn_13 rfl rfl (CommO bc 89 ec x ax cx ox.fm ox.flb ox.txt) (.cons (.there (.there (.there (.there .here)))) .nil) (fun _ le _ => ⟨ox.fls.mono le, hwx.mono le⟩) ?_)
      rintro v H' ⟨rfl, rfl⟩
      try simp only [nap, cap]
      refine g_nil ?_
      refine e_block ?_
      refine e_then ?_
      refine g_region ?_
      refine Li Mv ?_
      refine Li Im ?_
      refine Li As ?_
      refine g_nil ?_
      refine Ro ((i + 1, ea ++ evx x, eb ++ evx y, ec ++ evx x, ed)) (⟨by omega, hea2, heb2, fun j => by have := hcd j; show tot (ec ++ evx x) j + tot ed j = tot (ea ++ evx x) j; rw [tot_append, tot_append]; omega⟩) (by omega)
    · intro h2
      replace h2 := nrm h2
      refine g_region ?_
      refine Li Mv ?_
      refine Li (Fa T.fld_43_0) ?_
      refine Lp (oLN T.ag_34 ?_)
      refine Li (Fa T.fld_43_1) ?_
      refine Lp (oLN T.ag_38 ?_)
      refine Li (Fa T.fld_43_2) ?_
      refine Lp (oL T.sc_39 ?_)
      refine Li (Fa T.fld_43_3) ?_
      refine Lp (oLN T.ag_41 ?_)
      refine Lp (oC T.fn_13 rfl rfl (CommO bd 89 ed x ax cx ox.fm ox.flb ox.txt) (.cons (.there (.there (.there (.there (.there .here))))) .nil) (fun _ le _ => ⟨ox.fls.mono le, hwx.mono le⟩) ?_)
      rintro v H' ⟨rfl, rfl⟩
      try simp only [nap, cap]
      refine g_nil ?_
      refine e_block ?_
      refine e_then ?_
      refine g_region ?_
      refine Li Mv ?_
      refine Li Im ?_
      refine Li As ?_
      refine g_nil ?_
      refine Ro ((i + 1, ea ++ evx x, eb ++ evx y, ec, ed ++ evx x)) (⟨by omega, hea2, heb2, fun j => by have := hcd j; show tot ec j + tot (ed ++ evx x) j = tot (ea ++ evx x) j; rw [tot_append, tot_append]; omega⟩) (by omega)
  · intro h1
    replace h1 := nrm h1
    have hin : i = n := by omega
    subst hin
    refine Hh (H' := [pts ba 89 (bdC 0 (BO ea)), pts bb 89 (bdC 0 (BO eb)), pts bc 89 (bdC 0 (foldM (BO ec) (moreE (BO ed) 0))), pts bd 89 (bdC 0 (BO ed))]) ?_
    refine g_exit ?_
    refine e_then_exit ?_
    refine e_then_exit ?_
    refine e_block_hit ?_
    refine e_then ?_
    refine g_seq ?_
    refine g_sr ?_
    refine Li As ?_
    refine g_ne ?_
    refine g_block ?_
    refine Lo (ι := Nat) [96, 97, 100, 101, 102, 103, 104, 105, 98, 99, 11] (fun k => k ≤ 31) (fun k => [(11, .int .i64 ((k + 1 : Nat) : Int))]) (fun k => [pts ba 89 (bdC 0 (BO ea)), pts bb 89 (bdC 0 (BO eb)), pts bc 89 (bdC 0 (foldM (BO ec) (moreE (BO ed) k))), pts bd 89 (bdC 0 (BO ed))]) (fun k => 31 - k) (0) (Nat.zero_le _) ?_
    rintro k hk
    refine g_seq ?_
    refine g_sr ?_
    refine Li Mv ?_
    refine Li Cm ?_
    refine g_ne ?_
    refine g_cond rfl ?_ ?_
    · intro h3
      replace h3 := nrm h3
      refine g_skip ?_
      refine e_then ?_
      refine g_seq ?_
      refine g_block ?_
      refine g_region ?_
      refine Li Mv ?_
      refine Li Mv ?_
      refine Li Mv ?_
      refine Li Mv ?_
      refine Lp (oC T.fn_20 rfl rfl (Read_fn bd 89 (BO ed) (BO_bd _) ((k + 1 : Nat) : Int)) (.cons (.there (.there (.there .here))) .nil) (fun _ _ _ => trivial) ?_)
      rintro v H' ⟨rfl, rfl⟩
      try simp only [nap, cap]
      refine Lp (oC T.fn_28 rfl rfl (Add_fn bc 89 _ ((BO_bd ec).fold (moreE (BO ed) k)) ((k + 1 : Nat) : Int) (readM (BO ed) ((k + 1 : Nat) : Int)) (readM_le (BO_bd ed) _)) (.cons (.there (.there (.there .here))) .nil) (fun _ _ _ => trivial) ?_)
      rintro v H' ⟨rfl, rfl⟩
      try simp only [nap, cap]
      rw [← moreE_succ]
      refine g_nil ?_
      refine e_block ?_
      refine e_then ?_
      refine g_region ?_
      refine Li Mv ?_
      refine Li Im ?_
      refine Li As ?_
      refine g_nil ?_
      refine Ro (k + 1) ((by omega)) (by omega)
    · intro h3
      replace h3 := nrm h3
      have hk31 : k = 31 := by omega
      subst hk31
      have q1 : BO eb = BO ea := (BO_bd eb).ext (BO_bd ea) fun j => by rw [BO_get, BO_get, heb j, hea, Nat.sub_self, List.drop_zero]
      have q2 : foldM (BO ec) (moreE (BO ed) 31) = BO ea := ((BO_bd ec).fold _).ext (BO_bd ea) fun j => by
        rw [foldM_get _ (BO_bd ec), moreE_tot (BO_bd ed) 31 j (by omega), BO_get, BO_get, BO_get, ← hcd j]
        by_cases hj : 1 ≤ j ∧ j ≤ 31
        · rw [if_pos hj]; omega
        · rw [if_neg hj, tot_out ec j (by omega), tot_out ed j (by omega)]; omega
      rw [q1, q2]
      have hB := BO_bd ea
      generalize BO ea = B at *
      have hs31 := statsM_len B 31
      refine g_exit ?_
      refine e_then_exit ?_
      refine e_then_exit ?_
      refine e_block_hit ?_
      refine e_then ?_
      refine g_sr ?_
      refine Li Mv ?_
      refine Lp (oC T.fn_17 rfl rfl (Stats_fn ba 89 B hB) (.cons .here .nil) (fun _ le _ => hF.1.mono le) ?_)
      rintro v H' ⟨s1, c1, rfl, _, _, rfl⟩
      try simp only [nap, cap]
      refine Li Mv ?_
      refine Lp (oC T.fn_17 rfl rfl (Stats_fn bb 89 B hB) (.cons (.there (.there .here)) .nil) (fun _ le _ => hF.1.mono le) ?_)
      rintro v H' ⟨s2, c2, rfl, _, _, rfl⟩
      try simp only [nap, cap]
      refine Lp (oC T.fn_16 rfl rfl (lines_fn (statsM B 31) (statsM B 31) s1 s2 31 31 c1 c2 hs31.symm hs31.symm (by omega) (by omega)) .nil (fun _ _ hin => ⟨own_in (hin.nth 2 rfl), own_in (hin.nth 0 rfl)⟩) ?_)
      rintro v H' ⟨rfl, rfl⟩
      try simp only [nap, cap]
      refine Li Mv ?_
      refine g_slot (t := 111) (v' := .bool true) rfl (congrArg Value.bool (by simp)) ?_
      refine Li Mv ?_
      refine Lp (oC T.fn_17 rfl rfl (Stats_fn ba 89 B hB) (.cons (.there (.there (.there .here))) .nil) (fun _ le _ => hF.1.mono le) ?_)
      rintro v H' ⟨s3, c3, rfl, _, _, rfl⟩
      try simp only [nap, cap]
      refine Li Mv ?_
      refine Lp (oC T.fn_17 rfl rfl (Stats_fn bc 89 B hB) (.cons (.there (.there (.there (.there (.there .here))))) .nil) (fun _ le _ => hF.1.mono le) ?_)
      rintro v H' ⟨s4, c4, rfl, _, _, rfl⟩
      try simp only [nap, cap]
      refine Lp (oC T.fn_16 rfl rfl (lines_fn (statsM B 31) (statsM B 31) s3 s4 31 31 c3 c4 hs31.symm hs31.symm (by omega) (by omega)) .nil (fun _ _ hin => ⟨own_in (hin.nth 2 rfl), own_in (hin.nth 0 rfl)⟩) ?_)
      rintro v H' ⟨rfl, rfl⟩
      try simp only [nap, cap]
      refine Li Pt ?_
      refine Li As ?_
      refine g_ne ?_
      refine g_ret ?_
      refine Rt [] Tryd.results7 ?_
      exact ⟨congrArg Value.bool (by simp), rfl⟩
end Go.Proofs.YtdmepoiijgejhaaDoor

