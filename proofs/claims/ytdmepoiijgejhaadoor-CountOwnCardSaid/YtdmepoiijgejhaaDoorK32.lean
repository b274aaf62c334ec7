/- Counts: the law of one's own memory. -/
import Derived.Test.YtdmepoiijgejhaaDoorK31
set_option maxRecDepth 100000
namespace Go.Proofs.YtdmepoiijgejhaaDoor
open Go Go.Eng

theorem flsC_app (l m : List Flg) : flsC (l ++ m) = flsC l ++ flsC m := by simp [flsC]
theorem flsC_one (l : List Flg) : ∀ v ∈ flsC l, v.oneCell' = true := by
  intro v hv
  obtain ⟨x, _, hx⟩ := List.mem_flatMap.1 hv
  simp [flC] at hx
  rcases hx with rfl | rfl | rfl <;> simp [Value.oneCell', strv]
def metaTo (c : Cmd) (a : Option Addr) (m k : Nat) : Cmd := { c with fa := a, fm := m, fc := k }
theorem rdl_pre {h : Hp} {a : Option Addr} {xs ys : List Value} (r : Rdl h a (xs ++ ys)) : Rdl h a xs := by
  have := r.take xs.length
  rwa [List.take_left] at this
theorem flatMap_take {α : Type} (f : α → List Value) (n : Nat) (hn : ∀ x, (f x).length = n) (l : List α) (k : Nat) : (l.flatMap f).take (k * n) = (l.take k).flatMap f := by
  induction l generalizing k with
  | nil => simp
  | cons x r ih =>
    cases k with
    | zero => simp
    | succ k =>
      have hx := hn x
      rw [List.flatMap_cons, List.take_succ_cons, List.flatMap_cons, ← ih k, List.take_append, hx, List.take_of_length_le (by rw [hx, Nat.succ_mul]; omega), show (k + 1) * n - n = k * n from by rw [Nat.succ_mul]; omega]
theorem cut_fl {h : Hp} {a : Option Addr} {c : Nat} {l : List Flg} (k : Nat) (hk : k ≤ c) (r : Rdl h a (flsC l)) : Rdl h (cutA a 0 c (0 * 3)) (flsC (l.take k)) := by
  have := r.cut 0 c (0 * 3) (k * 3) (by omega)
  have e : ((flsC l).drop (0 * 3)).take (k * 3) = flsC (l.take k) := by rw [Nat.zero_mul, List.drop_zero]; exact flatMap_take flC 3 (fun _ => rfl) l k
  rwa [e] at this
theorem cut_in {h : Hp} {a : Option Addr} {c : Nat} {l : List Int} (k : Nat) (hk : k ≤ c) (r : Rdl h a (icells l)) : Rdl h (cutA a 0 c (0 * 1)) (icells (l.take k)) := by
  have := r.cut 0 c (0 * 1) k (by omega)
  have e : ((icells l).drop (0 * 1)).take k = icells (l.take k) := by simp [icells, List.map_take]
  rwa [e] at this
theorem rows_idx {rows : List Rw} {i : Nat} {r : Rw} (hl : rows.length = i) (h : ∀ (j : Nat) (r : Rw), rows[j]? = some r → r.k = j) (hr : r.k = i) : ∀ (j : Nat) (q : Rw), (rows ++ [r])[j]? = some q → q.k = j := by
  intro j q hq
  by_cases hj : j < rows.length
  · rw [List.getElem?_append_left hj] at hq; exact h j q hq
  · rw [List.getElem?_append_right (by omega)] at hq
    have h2 : j - rows.length < 1 := by
      have := (List.getElem?_eq_some_iff.1 hq).1
      simpa using this
    rw [show j - rows.length = 0 from by omega] at hq
    simp at hq
    rw [← hq, hr]; omega
theorem rows_all {rows : List Rw} {r : Rw} (h : ∀ q ∈ rows, q.n ≤ 1000) (hr : r.n ≤ 1000) : ∀ q ∈ rows ++ [r], q.n ≤ 1000 := by
  intro q hq
  rcases List.mem_append.1 hq with hq | hq
  · exact h q hq
  · simp at hq; rw [hq]; exact hr
set_option maxHeartbeats 8000000 in
theorem ownLaw_fn (l : List Oc) (hb : l.length ≤ 9223372036854775807) (a : Option Addr) (m c : Nat) (hm : m = l.length) :
    FnS Tryd.prog 6 [.slice a m c] (fun h => Tab h ∧ Rdl h a (ocsC l) ∧ ∀ x ∈ l, OcOk h x) [] (fun v H => v = .bool true ∧ H = []) := by
  subst hm
  refine fn_body Tryd.func6 rfl Tryd.ntmps6 rfl ?_
  intro F hF
  refine g_sr ?_
  refine Li As ?_
  refine g_ne ?_
  refine g_seq ?_
  refine g_sr ?_
  refine Lp (oC T.fn_10 rfl rfl (wakes_fn) .nil (fun _ le _ => hF.1.mono le) ?_)
  rintro v H' ⟨rfl, rfl⟩
  try simp only [nap, cap]
  refine Li Nt ?_
  refine g_ne ?_
  refine g_cond_f rfl (by rfl) ?_
  refine g_skip ?_
  refine e_then ?_
  refine g_sr ?_
  refine Lp (oC T.fn_11 rfl rfl (new_fn) .nil (fun _ _ _ => trivial) ?_)
  rintro v H' ⟨ba, rfl, rfl⟩
  try simp only [nap, cap]
  refine Li As ?_
  refine g_ne ?_
  refine g_sr ?_
  refine Lp (oC T.fn_12 rfl rfl (rNew_fn) .nil (fun _ _ _ => trivial) ?_)
  rintro v H' ⟨br, rfl, rfl⟩
  try simp only [nap, cap]
  refine Li As ?_
  refine g_ne ?_
  refine g_seq ?_
  refine g_sr ?_
  refine Li Mv ?_
  refine Li (Pn T.u_24) ?_
  refine g_ne ?_
  refine g_cond_f rfl (by rfl) ?_
  refine g_skip ?_
  refine e_then ?_
  refine g_sr ?_
  refine Li (Bd T.zc_60 T.st_60) ?_
  refine Lp (oB fun b1 => ?_)
  refine Li As ?_
  refine g_ne ?_
  refine g_sr ?_
  refine Li As ?_
  refine g_ne ?_
  refine g_seq ?_
  refine g_sr ?_
  refine Li As ?_
  refine g_ne ?_
  refine g_block ?_
  refine g_nilrow 36 1 ?_
  refine g_nilrow 39 1 ?_
  refine g_nilrow 39 1 ?_
  refine g_heap (fun _ s => starL_nil_stars s) ?_
  refine g_heap (fun _ s => starL_nil_stars s) ?_

  generalize hbk : b1 = bk
  refine Hh (H' := [pts ba 89 (bdC 0 (List.replicate 32 0)), pts br 91 (rbC (List.replicate 32 0)), pts bk 60 (bkC nilS nilS nilS nilS nilS nilS nilS nilS 0), own none 0 39 1 (([] : List Bi).map bir), own none 0 39 1 (([] : List Bi).map biw), stars (([] : List Bi).map Qb), own none 0 36 1 (([] : List Rw).map slv), stars (([] : List Rw).map Q0)]) ?_
  refine Lo (ι := Nat × List Nat × Option Addr × Nat × Option Addr × Nat × List Bi × Int × Option Addr × Nat × List Rw) [23, 24, 25, 26, 27, 28, 29, 30, 33, 34, 35, 36, 8, 37, 38, 39, 9, 40, 41, 42, 10, 43, 44, 45, 46, 47, 48, 49, 50, 51, 52, 53, 54, 55, 56, 57, 58, 59, 60, 61, 62, 63, 64, 11, 65, 66, 67, 68, 69, 70, 71, 12, 72, 73, 74, 75, 76, 77, 78, 79, 80, 81, 82, 83, 84, 85, 86, 87, 88, 89, 90, 91, 92, 93, 94, 95, 96, 97, 98, 99, 100, 101, 102, 103, 2, 13, 104, 105, 106, 107, 110, 111, 112, 108, 109, 14, 113, 114, 115, 116, 119, 120, 121, 122, 117, 118, 123, 124, 125, 126, 127, 128, 129, 130, 6, 31, 32, 7] (fun (i, B, ai, ci, aw, cw, xs, n, aT, ct, rows) => i ≤ l.length ∧ i ≤ 100 ∧ Brd B ∧ (BkOk xs ci cw n ∧ n ≤ 300000) ∧ rows.length = i ∧ i ≤ ct ∧ (∀ (j : Nat) (r : Rw), rows[j]? = some r → r.k = j) ∧ ∀ r ∈ rows, r.n ≤ 1000) (fun (i, B, ai, ci, aw, cw, xs, n, aT, ct, rows) => [(7, .int .i64 (i : Int)), (6, .slice aT i ct)]) (fun (i, B, ai, ci, aw, cw, xs, n, aT, ct, rows) => [pts ba 89 (bdC 0 B), pts br 91 (rbC B), pts bk 60 (bkC nilS nilS nilS nilS (.slice ai xs.length ci) (.slice aw xs.length cw) nilS nilS n), own ai ci 39 1 (xs.map bir), own aw cw 39 1 (xs.map biw), stars (xs.map Qb), own aT ct 36 1 (rows.map slv), stars (rows.map Q0)]) (fun (i, B, ai, ci, aw, cw, xs, n, aT, ct, rows) => l.length - i) ((0, List.replicate 32 0, none, 0, none, 0, [], 0, none, 0, [])) ⟨Nat.zero_le _, Nat.zero_le _, bd_zero, ⟨⟨Nat.zero_le _, Nat.zero_le _, fun i x h => by simp at h, Int.le_refl _, by simp, by simp⟩, by omega⟩, rfl, Nat.zero_le _, fun i x h => by simp at h, by simp⟩ ?_
  rintro ⟨i, B, ai, ci, aw, cw, xs, n, aT, ct, rows⟩ ⟨hi, hi2, bdB, ⟨ok, hn⟩, hrl, hct, hridx, hrn⟩
  try dsimp only at hI ⊢
  try dsimp only at hi hi2 bdB ok hn hrl hct hridx hrn ⊢

  refine g_seq ?_
  refine g_seq ?_
  refine g_mid (ι := Unit) [23, 24, 25, 26, 27, 28, 29, 30] (fun u => True) (fun u => [(30, .bool (decide ((i : Int) < l.length) && decide ((i : Int) < 100)))]) (fun u => [pts ba 89 (bdC 0 B), pts br 91 (rbC B), pts bk 60 (bkC nilS nilS nilS nilS (.slice ai xs.length ci) (.slice aw xs.length cw) nilS nilS n), own ai ci 39 1 (xs.map bir), own aw cw 39 1 (xs.map biw), stars (xs.map Qb), own aT ct 36 1 (rows.map slv), stars (rows.map Q0)]) ?_ ?_
  · refine g_region ?_
    refine Li Mv ?_
    refine Li Mv ?_
    refine Li (Ln T.sl_22) ?_
    refine Li Cm ?_
    refine Li Mv ?_
    refine g_split (t := 27) rfl ?_ ?_
    · intro hb0
      replace hb0 := nrm hb0
      refine Li Mv ?_
      refine Li Cm ?_
      refine Li Pt ?_
      refine g_nil ?_
      refine Me (()) (trivial)
    · intro hb0
      replace hb0 := nrm hb0
      refine Lx ?_
      refine Lx ?_
      refine Li Pf ?_
      refine g_nil ?_
      refine Me (()) (trivial)
  rintro u hI
  refine g_cond rfl ?_ ?_
  · intro h1
    replace h1 := nrm h1
    obtain ⟨x, e1⟩ : ∃ x, l[i]? = some x := ⟨_, List.getElem?_eq_getElem (show i < l.length by omega)⟩
    have k1 : ((ocsC l).drop (i * 24)).take 24 = ocC x := ocsC_at l i x e1
    have hll := ocsC_len l
    have hF2 := hF.2.1
    have ox := hF.2.2 x (List.mem_of_getElem? e1)
    have a0 : a.isSome = true := hF2.some (by omega)
    have hfl : (few x.why).length ≤ 10000 := by unfold few; simp; omega
    have hone : ∀ v ∈ ocC x, v.oneCell' = true := by
      unfold ocC outC cmdC ansC mtrC
      simp [Value.oneCell', strv]
    refine g_skip ?_
    refine e_then ?_
    refine g_seq ?_
    refine g_block ?_
    refine g_sr ?_
    refine Li Mv ?_
    refine Li Mv ?_
    refine Li (Ix T.sl_22) ?_
    refine Lp (oLN T.ag_43 ?_)
    refine Lp (oA T.zc_43 fun b2 => ?_)
    refine Lp (oSW T.ag_43 ?_ (h1 := hone))
    refine g_ne ?_
    refine g_sr ?_
    refine Li (Fa T.fld_43_2) ?_
    refine Lp (oL T.sc_39 ?_)
    refine Lp (oC T.fn_14 rfl rfl (few_fn x.why x.wa x.why.length x.wc rfl ox.wcb) .nil (fun _ _ _ => trivial) ?_)
    rintro v H' ⟨wf, cf, rfl, hcf, hrf, rfl⟩
    try simp only [nap, cap]
    have hwx := hrf _ ox.whs
    generalize hW : few x.why = W at *
    generalize ht8 : b2 = t8
    refine Li As ?_
    refine g_ne ?_
    refine g_sr ?_
    refine Li (Fa T.fld_43_0) ?_
    refine Li (Fa T.fld_34_9) ?_
    refine Lp (oL T.sc_32 ?_)
    refine Li As ?_
    refine g_ne ?_
    refine g_seq ?_
    refine g_mid (ι := Option Addr × Nat) [43, 44, 45, 46, 47, 10] (fun (fa, fc) => (x.fl.take 1000).length ≤ fc ∧ Rdl F.h fa (flsC (x.fl.take 1000))) (fun (fa, fc) => [(10, .slice fa (x.fl.take 1000).length fc)]) (fun (fa, fc) => [pts t8 43 (ocC x), pts ba 89 (bdC 0 B), pts br 91 (rbC B), pts bk 60 (bkC nilS nilS nilS nilS (.slice ai xs.length ci) (.slice aw xs.length cw) nilS nilS n), own ai ci 39 1 (xs.map bir), own aw cw 39 1 (xs.map biw), stars (xs.map Qb), own aT ct 36 1 (rows.map slv), stars (rows.map Q0)]) ?_ ?_
    · have hfm := ox.fm
      have hfcb := ox.fcb
      refine g_sr ?_
      refine Li Mv ?_
      refine Li (Ln T.sl_32) ?_
      refine Li Cm ?_
      refine g_ne ?_
      refine g_cond rfl ?_ ?_
      · intro h2
        replace h2 := nrm h2
        refine g_region ?_
        refine Li Mv ?_
        refine Li (Sl 0 1000 _ T.sl_32) ?_
        refine Li As ?_
        refine g_nil ?_
        have hl : (x.fl.take 1000).length = 1000 := by simp; omega
        have hm3 : x.c.fm = x.fl.length := hfm
        refine Me ((cutA x.c.fa 0 x.c.fc (0 * 3), x.c.fc - 0)) (⟨by omega, cut_fl 1000 (by omega) ox.fls⟩) (hs := ⟨(by rw [hl]; rfl), trivial⟩)
      · intro h2
        replace h2 := nrm h2
        refine g_skip ?_
        have hl : x.fl.take 1000 = x.fl := List.take_of_length_le (by omega)
        refine Me ((x.c.fa, x.c.fc)) (⟨by rw [hl]; omega, by rw [hl]; exact ox.fls⟩) (hs := ⟨(by rw [hl, ← hfm]; rfl), trivial⟩)
    rintro ⟨fa, fc⟩ ⟨hfc, hrfl⟩
    try dsimp only at hI ⊢
    try dsimp only at hfc hrfl ⊢
    have hML : (x.fl.take 1000).length ≤ 1000 := by simp; omega
    generalize hFL : x.fl.take 1000 = FL at *
    have hfll := flsC_len FL
    have hoc := ocC_len x
    have hol : (outC (metaTo x.c fa FL.length fc) x.a x.wa x.why.length x.wc x.m).length = 24 := rfl
    have hwl := icells_len W
    refine g_sr ?_
    refine Li Mv ?_
    refine Li (Fa T.fld_43_0) ?_
    refine Li (Fa T.fld_34_9) ?_
    refine Lp (oS T.sc_32 ?_)
    refine g_ne ?_
    refine g_sr ?_
    refine Li Mv ?_
    refine Li (Fa T.fld_43_0) ?_
    refine Lp (oLN T.ag_34 ?_)
    have hset : ∀ fa m fc fa' m' fc', (outC (metaTo x.c fa m fc) x.a x.wa x.why.length x.wc x.m).set (0 + 0 + 9) (.slice fa' m' fc') = outC (metaTo x.c fa' m' fc') x.a x.wa x.why.length x.wc x.m := fun _ _ _ _ _ _ => rfl
    have hset0 : (ocC x).set (0 + 0 + 9) (.slice fa FL.length fc) = outC (metaTo x.c fa FL.length fc) x.a x.wa x.why.length x.wc x.m := rfl
    rw [hset0]
    refine Li (Fa T.fld_43_1) ?_
    refine Lp (oLN T.ag_38 ?_)
    refine Li Mv ?_
    refine Li (Fa T.fld_43_3) ?_
    refine Lp (oLN T.ag_41 ?_)
    refine Lp (oC T.fn_15 rfl rfl (rCommand_fn br 91 B bdB (metaTo x.c fa FL.length fc) x.a FL rfl (by omega) W wf W.length cf rfl hfl ox.txt x.m ox.mok) (.cons (.there (.there .here)) .nil) (fun _ le _ => ⟨hrfl.mono le, hwx.mono le⟩) ?_)
    rintro v H' ⟨rfl, rfl⟩
    try simp only [nap, cap]
    have bdB2 : Brd (commM B (metaTo x.c fa FL.length fc).verb x.a.kind x.a.text FL W x.m) := by rw [commM_fold]; exact bdB.fold _
    generalize hB2 : commM B (metaTo x.c fa FL.length fc).verb x.a.kind x.a.text FL W x.m = B2 at *
    have hB3 : ∀ f m k, commM B (metaTo x.c f m k).verb x.a.kind x.a.text FL W x.m = B2 := fun _ _ _ => hB2


    refine g_ne ?_
    refine g_sr ?_
    refine Lp (oT T.ap_39 fun b3 => ?_)
    refine Li Mv ?_
    refine g_heap (fun _ s => starL_cons_mono (fun _ p => own_of_pts p 0 1 (by simp) (by simp [maxLen])) s) ?_
    refine Lp (op_append T.ap_39 T.ni_39 rfl rfl rfl rfl .here (rfl) (src_slice (m := W.length) (by rw [hwl, Nat.mul_one]) fun h le _ => hwx.mono le) (icells_one W) (by omega) (by omega) rfl fun w1 cw1 hcw1 => ?_)
    refine Lp (oT T.ap_39 fun b4 => ?_)
    refine Hh (H' := [pts b4 3 (icells [7, 8, 9]), own w1 cw1 3 1 (icells W), pts t8 43 (outC (metaTo x.c fa FL.length fc) x.a x.wa x.why.length x.wc x.m), pts ba 89 (bdC 0 B), pts br 91 (rbC B2), pts bk 60 (bkC nilS nilS nilS nilS (.slice ai xs.length ci) (.slice aw xs.length cw) nilS nilS n), own ai ci 39 1 (xs.map bir), own aw cw 39 1 (xs.map biw), stars (xs.map Qb), own aT ct 36 1 (rows.map slv), stars (rows.map Q0)]) ?_
    refine Lp (op_append_lit T.ap_39 T.ni_39 rfl rfl rfl rfl .here (by omega) (rfl) (icells_one _) (by omega) (by omega) rfl fun w2 c2 hc2 => ?_)
    rw [← icells_app, show 0 + W.length + 3 = (W ++ [7, 8, 9]).length from by simp] at *
    have hVl : (W ++ [7, 8, 9]).length = W.length + 3 := by simp
    have hVt : (W ++ [7, 8, 9]).take W.length = W := List.take_left ..
    generalize hV : W ++ [(7 : Int), 8, 9] = V at *
    have hvl := icells_len V
    refine Li As ?_
    refine g_ne ?_
    refine g_sr ?_
    refine Lp (oT2 T.ap_32 fun b5 => ?_)
    refine Li Mv ?_
    refine Hh (H' := [pts b5 63 [], own w2 c2 3 1 (icells V), pts t8 43 (outC (metaTo x.c fa FL.length fc) x.a x.wa x.why.length x.wc x.m), pts ba 89 (bdC 0 B), pts br 91 (rbC B2), pts bk 60 (bkC nilS nilS nilS nilS (.slice ai xs.length ci) (.slice aw xs.length cw) nilS nilS n), own ai ci 39 1 (xs.map bir), own aw cw 39 1 (xs.map biw), stars (xs.map Qb), own aT ct 36 1 (rows.map slv), stars (rows.map Q0)]) ?_
    refine g_heap (fun _ s => starL_cons_mono (fun _ p => own_of_pts p 0 3 (by simp) (by simp [maxLen])) s) ?_
    refine Lp (op_append T.ap_32 T.ni_32 rfl rfl rfl rfl .here (rfl) (src_slice (m := FL.length) hfll fun h le _ => hrfl.mono le) (flsC_one FL) (by omega) (by omega) rfl fun f1 cf1 hcf1 => ?_)
    refine Li (Bd T.zc_63 T.st_63) ?_
    refine Li (Bd T.zc_63 T.st_63) ?_
    refine Lp (oT2 T.ap_32 fun b6 => ?_)
    refine Hh (H' := [pts b6 63 (flsC [mark1, mark2]), own f1 cf1 63 3 (flsC FL), own w2 c2 3 1 (icells V), pts t8 43 (outC (metaTo x.c fa FL.length fc) x.a x.wa x.why.length x.wc x.m), pts ba 89 (bdC 0 B), pts br 91 (rbC B2), pts bk 60 (bkC nilS nilS nilS nilS (.slice ai xs.length ci) (.slice aw xs.length cw) nilS nilS n), own ai ci 39 1 (xs.map bir), own aw cw 39 1 (xs.map biw), stars (xs.map Qb), own aT ct 36 1 (rows.map slv), stars (rows.map Q0)]) ?_
    refine Lp (op_append_lit T.ap_32 T.ni_32 rfl rfl rfl rfl .here (by omega) (rfl) (flsC_one _) (by omega) (by omega) rfl fun f2 cf2 hcf2 => ?_)
    rw [← flsC_app]
    have hGt : (FL ++ [mark1, mark2]).take FL.length = FL := List.take_left ..
    have hgl := flsC_len (FL ++ [mark1, mark2])
    have hgl2 : (FL ++ [mark1, mark2]).length = FL.length + 2 := by simp
    generalize hGG : FL ++ [mark1, mark2] = GG at *
    refine Li As ?_
    refine g_ne ?_
    refine g_sr ?_
    refine Li Mv ?_
    refine Li Mv ?_
    refine Li (Ln T.sl_32) ?_
    refine Li (Sl 0 _ _ T.sl_32) ?_
    refine Li (Fa T.fld_43_0) ?_
    refine Li (Fa T.fld_34_9) ?_
    refine Lp (oS T.sc_32 ?_)
    refine g_ne ?_
    refine g_seq ?_
    rw [hset]

    refine Hh (H' := [pts t8 43 (outC (metaTo x.c (cutA f2 0 cf2 (0 * 3)) FL.length (cf2 - 0)) x.a x.wa x.why.length x.wc x.m), own f2 cf2 63 3 (flsC GG), own w2 c2 3 1 (icells V), pts ba 89 (bdC 0 B), pts br 91 (rbC B2), pts bk 60 (bkC nilS nilS nilS nilS (.slice ai xs.length ci) (.slice aw xs.length cw) nilS nilS n), own ai ci 39 1 (xs.map bir), own aw cw 39 1 (xs.map biw), stars (xs.map Qb), own aT ct 36 1 (rows.map slv), stars (rows.map Q0)]) ?_
    refine g_drw T.mix (.cons .here .nil) fun F1 le1 hin1 back1 => ?_
    obtain ⟨hb0, _⟩ := hin1
    refine Dt 0 rfl Mv ?_
    refine Dt 1 rfl (Fa T.fld_43_0) ?_
    refine Dt 2 rfl (LfN T.ag_34) ?_
    refine Dt 3 rfl (Fa T.fld_43_1) ?_
    refine Dt 4 rfl (LfN T.ag_38) ?_
    refine Dt 5 rfl Mv ?_
    refine Dt 6 rfl Mv ?_
    refine Dt 7 rfl (Ln T.sl_39) ?_
    refine Dt 8 rfl (Sl 0 _ _ T.sl_39) ?_
    refine Dt 9 rfl (Fa T.fld_43_3) ?_
    refine Dt 10 rfl (LfN T.ag_41) ?_
    refine Dn 11 ?_
    refine Do rfl (oC T.fn_13 rfl rfl (Command_fn ba 89 B bdB (metaTo x.c (cutA f2 0 cf2 (0 * 3)) FL.length (cf2 - 0)) x.a FL rfl (by omega) W (cutA w2 0 c2 (0 * 1)) (W.length - 0) (c2 - 0) (by omega) (by omega) ox.txt x.m ox.mok) (.cons (.there (.there .here)) .nil) (fun _ le hin => ⟨by have := cut_fl (c := cf2) FL.length (by omega) (own_in (hin.nth 0 rfl)); rw [hGt] at this; exact this, by have := cut_in (c := c2) W.length (by omega) (own_in (hin.nth 1 rfl)); rw [hVt] at this; exact this⟩) ?_)
    rintro v H' ⟨rfl, rfl⟩
    try simp only [nap, cap]
    rw [hB3]
    refine gh_next ?_
    refine gh_done (by kernel_rfl) back1 ?_
    refine e_then ?_
    refine g_seq ?_
    refine g_sr ?_
    refine Li Mv ?_
    refine Lp (oT T.ap_39 fun b7 => ?_)
    refine Li Mv ?_

    refine Hh (H' := [pts b7 3 [], own w2 c2 3 1 (icells V), own f2 cf2 63 3 (flsC GG), pts ba 89 (bdC 0 B2), pts br 91 (rbC B2), pts bk 60 (bkC nilS nilS nilS nilS (.slice ai xs.length ci) (.slice aw xs.length cw) nilS nilS n), own ai ci 39 1 (xs.map bir), own aw cw 39 1 (xs.map biw), stars (xs.map Qb), own aT ct 36 1 (rows.map slv), stars (rows.map Q0)]) ?_
    refine g_heap (fun _ s => starL_cons_mono (fun _ p => own_of_pts p 0 1 (by simp) (by simp [maxLen])) s) ?_
    refine Lp (op_append T.ap_39 T.ni_39 rfl rfl rfl rfl .here (rfl) (src_slice (m := W.length) (by rw [hwl, Nat.mul_one]) fun h le _ => hwx.mono le) (icells_one W) (by omega) (by omega) rfl fun w3 cw3 hcw3 => ?_)
    refine Lp (oT T.ap_39 fun b8 => ?_)
    refine Hh (H' := [pts b8 3 (icells [7, 8, 9]), own w3 cw3 3 1 (icells W), own w2 c2 3 1 (icells V), own f2 cf2 63 3 (flsC GG), pts ba 89 (bdC 0 B2), pts br 91 (rbC B2), pts bk 60 (bkC nilS nilS nilS nilS (.slice ai xs.length ci) (.slice aw xs.length cw) nilS nilS n), own ai ci 39 1 (xs.map bir), own aw cw 39 1 (xs.map biw), stars (xs.map Qb), own aT ct 36 1 (rows.map slv), stars (rows.map Q0)]) ?_
    refine Lp (op_append_lit T.ap_39 T.ni_39 rfl rfl rfl rfl .here (by omega) (rfl) (icells_one _) (by omega) (by omega) rfl fun w4 c4 hc4 => ?_)
    rw [← icells_app, hV]
    refine Lp (oC T.fn_23 rfl rfl (kInts_fn V V w2 w4 V.length (0 + W.length + 3) c2 c4 rfl (by omega) (by omega) (by omega)) .nil (fun _ _ hin => ⟨own_in (hin.nth 1 rfl), own_in (hin.nth 0 rfl)⟩) ?_)
    rintro v H' ⟨rfl, rfl⟩
    try simp only [nap, cap]
    refine Li Nt ?_
    refine Li Mv ?_
    refine g_slot (t := 98) (v' := .bool false) rfl (congrArg Value.bool (by simp)) ?_
    refine Li Mv ?_
    refine Li Mv ?_
    refine Lp (oC T.fn_24 rfl rfl (sameFlags_fn FL f2 fa (0 + FL.length + 2) FL.length cf2 fc (by omega) rfl (by omega)) .nil (fun _ le hin => ⟨by rw [hGG]; exact own_in (hin.nth 2 rfl), hrfl.mono le⟩) ?_)
    rintro v H' ⟨rfl, rfl⟩
    try simp only [nap, cap]
    refine Li Nt ?_
    refine Li Pf ?_
    refine g_ne ?_
    refine g_cond_f rfl (by rfl) ?_
    refine Hh (H' := [own w2 c2 3 1 (icells V), own f2 cf2 63 3 (flsC GG), pts ba 89 (bdC 0 B2), pts br 91 (rbC B2), pts bk 60 (bkC nilS nilS nilS nilS (.slice ai xs.length ci) (.slice aw xs.length cw) nilS nilS n), own ai ci 39 1 (xs.map bir), own aw cw 39 1 (xs.map biw), stars (xs.map Qb), own aT ct 36 1 (rows.map slv), stars (rows.map Q0)]) ?_
    refine g_heap (H' := [own w2 c2 3 1 (icells (mkI 0 3) ++ (icells V).drop 0), own f2 cf2 63 3 (flsC GG), pts ba 89 (bdC 0 B2), pts br 91 (rbC B2), pts bk 60 (bkC nilS nilS nilS nilS (.slice ai xs.length ci) (.slice aw xs.length cw) nilS nilS n), own ai ci 39 1 (xs.map bir), own aw cw 39 1 (xs.map biw), stars (xs.map Qb), own aT ct 36 1 (rows.map slv), stars (rows.map Q0)]) (fun _ q => q) ?_
    refine g_skip ?_
    refine e_then ?_
    refine g_seq ?_
    refine g_sr ?_
    refine Li As ?_
    refine g_ne ?_
    refine g_block ?_
    refine Lo (ι := Nat) [104, 105, 106, 107, 110, 111, 112, 108, 109, 13] (fun k => k ≤ V.length) (fun k => [(13, .int .i64 (k : Int))]) (fun k => [own w2 c2 3 1 (icells (mkI k 3) ++ (icells V).drop k), own f2 cf2 63 3 (flsC GG), pts ba 89 (bdC 0 B2), pts br 91 (rbC B2), pts bk 60 (bkC nilS nilS nilS nilS (.slice ai xs.length ci) (.slice aw xs.length cw) nilS nilS n), own ai ci 39 1 (xs.map bir), own aw cw 39 1 (xs.map biw), stars (xs.map Qb), own aT ct 36 1 (rows.map slv), stars (rows.map Q0)]) (fun k => V.length - k) (0) (Nat.zero_le _) ?_
    rintro k hk
    have hlk := mkI_len k 3
    have hwl2 : (icells (mkI k 3) ++ (icells V).drop k).length = V.length := by rw [List.length_append, List.length_drop]; omega
    refine g_seq ?_
    refine g_sr ?_
    refine Li Mv ?_
    refine Li Mv ?_
    refine Li (Ln T.sl_39) ?_
    refine Li Cm ?_
    refine g_ne ?_
    refine g_cond rfl ?_ ?_
    · intro h3
      replace h3 := nrm h3
      refine g_fact (sel_fact .here fun _ ho => own_none ho (by omega)) fun ha => ?_
      have e5 := int_store V k 3 (by omega)
      refine g_skip ?_
      refine e_then ?_
      refine g_seq ?_
      refine g_block ?_
      refine g_region ?_
      refine Li Mv ?_
      refine Li Mv ?_
      refine Li (Ix T.sl_39) ?_
      refine Lp (oSO T.sc_3 ?_)
      refine g_nil ?_
      refine e_block ?_
      refine e_then ?_
      refine g_region ?_
      refine Li Mv ?_
      refine Li Im ?_
      refine Li As ?_
      refine g_nil ?_
      rw [e5]
      refine Ro (k + 1) ((by omega)) (by omega)
    · intro h3
      replace h3 := nrm h3
      have e6 : icells (mkI k 3) ++ (icells V).drop k = icells (mkI V.length 3) := by
        rw [show k = V.length from by omega, List.drop_of_length_le (by omega), List.append_nil]
      rw [e6]
      clear hwl2 hlk
      refine g_exit ?_
      refine e_then_exit ?_
      refine e_then_exit ?_
      refine e_block_hit ?_
      refine e_then ?_
      refine g_seq ?_
      refine g_sr ?_
      refine Li As ?_
      refine g_ne ?_
      refine g_block ?_
      refine Lo (ι := Nat × List Value) [113, 114, 115, 116, 119, 120, 121, 122, 117, 118, 14] (fun (k, ys) => k ≤ FL.length + 2 ∧ ys.length = (FL.length + 2) * 3) (fun (k, ys) => [(14, .int .i64 (k : Int))]) (fun (k, ys) => [own f2 cf2 63 3 ys, own w2 c2 3 1 (icells (mkI V.length 3)), pts ba 89 (bdC 0 B2), pts br 91 (rbC B2), pts bk 60 (bkC nilS nilS nilS nilS (.slice ai xs.length ci) (.slice aw xs.length cw) nilS nilS n), own ai ci 39 1 (xs.map bir), own aw cw 39 1 (xs.map biw), stars (xs.map Qb), own aT ct 36 1 (rows.map slv), stars (rows.map Q0)]) (fun (k, ys) => FL.length + 2 - k) ((0, flsC GG)) ⟨Nat.zero_le _, by rw [hgl, hgl2]⟩ ?_
      rintro ⟨k, ys⟩ ⟨hk, hys⟩
      try dsimp only at hI ⊢
      try dsimp only at hk hys ⊢
      refine g_seq ?_
      refine g_sr ?_
      refine Li Mv ?_
      refine Li Mv ?_
      refine Li (Ln T.sl_32) ?_
      refine Li Cm ?_
      refine g_ne ?_
      refine g_cond rfl ?_ ?_
      · intro h4
        replace h4 := nrm h4
        refine g_fact (sel_fact .here fun _ ho => own_none ho (by omega)) fun ha => ?_
        refine g_skip ?_
        refine e_then ?_
        refine g_seq ?_
        refine g_block ?_
        refine g_region ?_
        refine Li Mv ?_
        refine Li Mv ?_
        refine Li (Bd T.zc_63 T.st_63) ?_
        refine Li (Ix T.sl_32) ?_
        refine Lp (oSON T.ag_63 ?_ (vs := [.int .u8 67, strv [111, 118, 101, 114], .bool true]) (h1 := by simp [Value.oneCell', strv]) (hj := by simp; omega) (h0 := by simp))
        refine g_nil ?_
        refine e_block ?_
        refine e_then ?_
        refine g_region ?_
        refine Li Mv ?_
        refine Li Im ?_
        refine Li As ?_
        refine g_nil ?_
        refine Ro ((k + 1, setL ys (k * 3) [.int .u8 67, strv [111, 118, 101, 114], .bool true])) (⟨by omega, by rw [setL_length]; exact hys⟩) (by omega)
      · intro h4
        replace h4 := nrm h4
        have hml := mkI_len V.length 3
        have hmL : (mkI V.length 3).length = V.length := by simp [mkI]
        refine g_exit ?_
        refine e_then_exit ?_
        refine e_then_exit ?_
        refine e_block_hit ?_
        refine e_then ?_
        refine g_sr ?_
        refine Li Mv ?_
        refine Li Mv ?_
        refine Lp (oC T.fn_25 rfl rfl (bInts_fn bk ai ci aw cw xs n ok hn w2 c2 (mkI V.length 3) (by omega) V.length hmL.symm) (.cons (.there .here) (.cons (.there (.there (.there .here))) (.cons (.there (.there (.there .here))) (.cons (.there (.there (.there .here))) (.cons (.there (.there (.there .here))) .nil))))) (fun _ _ _ => trivial) ?_)
        rintro v H' ⟨rfl, ai2, ci2, aw2, cw2, xs2, n2, rfl, ok2, hn2⟩
        try simp only [nap, cap]
        simp only [bkH, nap, cap]
        refine g_ne ?_
        refine g_region ?_
        refine Li Mv ?_
        refine Li Mv ?_
        have hs31 := statsM_len B2 31
        have hsll := linesC_len (statsM B2 31)
        have hrsl := slv_len rows
        refine Lp (oC T.fn_17 rfl rfl (Stats_fn ba 89 B2 bdB2) (.cons (.there (.there (.there (.there (.there .here))))) .nil) (fun _ le _ => hF.1.mono le) ?_)
        rintro v H' ⟨sa, sc, rfl, hsc, _, rfl⟩
        try simp only [nap, cap]
        refine Lp (oT T.ap_61 fun b9 => ?_)

        refine Hh (H' := [pts b9 36 [.slice sa 31 sc], own aT ct 36 1 (rows.map slv), own sa sc 78 2 (linesC (statsM B2 31)), stars (rows.map Q0), pts ba 89 (bdC 0 B2), pts br 91 (rbC B2), pts bk 60 (bkC nilS nilS nilS nilS (.slice ai2 xs2.length ci2) (.slice aw2 xs2.length cw2) nilS nilS n2), own ai2 ci2 39 1 (xs2.map bir), own aw2 cw2 39 1 (xs2.map biw), stars (xs2.map Qb)]) ?_
        refine Lp (op_append_lit T.ap_61 T.ni_61 rfl rfl rfl rfl .here (by omega) (rfl) (by simp [Value.oneCell']) (by omega) (by omega) rfl fun aT2 ct2 hct2 => ?_)
        rw [slv_snoc rows sa i 31 sc]
        refine Li As ?_
        refine g_nil ?_
        refine e_block ?_
        refine e_then ?_
        refine g_region ?_
        refine Li Mv ?_
        refine Li Im ?_
        refine Li As ?_
        refine g_nil ?_
        refine g_heap (H' := [stars ((rows ++ [(⟨i, sa, 31, sc⟩ : Rw)]).map Q0), own aT2 ct2 36 1 ((rows ++ [(⟨i, sa, 31, sc⟩ : Rw)]).map slv), pts ba 89 (bdC 0 B2), pts br 91 (rbC B2), pts bk 60 (bkC nilS nilS nilS nilS (.slice ai2 xs2.length ci2) (.slice aw2 xs2.length cw2) nilS nilS n2), own ai2 ci2 39 1 (xs2.map bir), own aw2 cw2 39 1 (xs2.map biw), stars (xs2.map Qb)]) (fun h q => ?_) ?_
        · rw [List.map_append]
          have q3 := ents (As := [own sa sc 78 2 (linesC (statsM B2 31)), stars (rows.map Q0), own aT2 ct2 36 1 ((rows ++ [(⟨i, sa, 31, sc⟩ : Rw)]).map slv), pts ba 89 (bdC 0 B2), pts br 91 (rbC B2), pts bk 60 (bkC nilS nilS nilS nilS (.slice ai2 xs2.length ci2) (.slice aw2 xs2.length cw2) nilS nilS n2), own ai2 ci2 39 1 (xs2.map bir), own aw2 cw2 39 1 (xs2.map biw), stars (xs2.map Qb)]) (.cons (.there .here) (.cons (.there .here) (.cons .here (.cons .here (.cons .here (.cons .here (.cons .here (.cons .here (.cons .here .nil))))))))) h q
          exact stars_push (A := Q0 ⟨i, sa, 31, sc⟩) (starL_cons_mono (fun _ p => ⟨_, by rw [hsll, hs31], p⟩) q3)
        refine Ro ((i + 1, B2, ai2, ci2, aw2, cw2, xs2, n2, aT2, ct2, rows ++ [(⟨i, sa, 31, sc⟩ : Rw)])) (⟨by omega, by omega, bdB2, ⟨ok2, hn2⟩, by simp; omega, hct2, rows_idx hrl hridx rfl, rows_all hrn (by simp)⟩) (by omega)
  · intro h1
    replace h1 := nrm h1
    refine g_exit ?_
    refine e_then_exit ?_
    refine e_then_exit ?_
    refine e_block_hit ?_
    refine e_then ?_
    refine g_seq ?_
    refine g_sr ?_
    refine Li Mv ?_
    refine Lp (oC T.fn_26 rfl rfl (spoilt_fn aT rows i ct hrl.symm (by omega) hridx hrn) (.cons (.there (.there (.there (.there (.there (.there (.there .here))))))) .nil) (fun _ _ hin => own_in (hin.nth 6 rfl)) ?_)
    rintro v H' ⟨rfl, rfl⟩
    try simp only [nap, cap]
    refine Li Nt ?_
    refine Li Mv ?_
    refine g_slot (t := 134) (v' := .bool false) rfl (congrArg Value.bool (by rfl)) ?_
    refine Li Mv ?_
    refine Lp (oC T.fn_27 rfl rfl (close_fn bk ai ci aw cw xs n ok hn) (.cons (.there (.there .here)) (.cons (.there (.there .here)) (.cons (.there (.there .here)) (.cons (.there (.there .here)) .nil)))) (fun _ _ _ => trivial) ?_)
    rintro v H' ⟨rfl, rfl⟩
    try simp only [nap, cap]
    refine Li Nt ?_
    refine Li Pf ?_
    refine g_ne ?_
    refine g_cond_f rfl (by rfl) ?_
    have hs31 := statsM_len B 31
    refine g_skip ?_
    refine e_then ?_
    refine g_sr ?_
    refine Li Mv ?_
    refine Lp (oC T.fn_17 rfl rfl (Stats_fn ba 89 B bdB) (.cons .here .nil) (fun _ le _ => hF.1.mono le) ?_)
    rintro v H' ⟨s1, c1, rfl, _, _, rfl⟩
    try simp only [nap, cap]
    refine Li Mv ?_
    refine Lp (oC T.fn_18 rfl rfl (rStats_fn br 91 B bdB) (.cons (.there (.there .here)) .nil) (fun _ _ _ => trivial) ?_)
    rintro v H' ⟨s2, c2, rfl, rfl⟩
    try simp only [nap, cap]
    refine Lp (oC T.fn_16 rfl rfl (lines_fn (statsM B 31) (statsM B 31) s1 s2 31 31 c1 c2 hs31.symm hs31.symm (by omega) (by omega)) .nil (fun _ _ hin => ⟨own_in (hin.nth 2 rfl), own_in (hin.nth 0 rfl)⟩) ?_)
    rintro v H' ⟨rfl, rfl⟩
    try simp only [nap, cap]
    refine Li As ?_
    refine g_ne ?_
    refine g_ret ?_
    refine Rt [] Tryd.results6 ?_
    exact ⟨congrArg Value.bool (by simp), rfl⟩
end Go.Proofs.YtdmepoiijgejhaaDoor

