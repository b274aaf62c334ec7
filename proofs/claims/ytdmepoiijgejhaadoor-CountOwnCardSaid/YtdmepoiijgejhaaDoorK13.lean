/- Counts: the law of sums. -/
import Derived.Test.YtdmepoiijgejhaaDoorK11
set_option maxRecDepth 100000
namespace Go.Proofs.YtdmepoiijgejhaaDoor
open Go Go.Eng

def zeroB : List Nat := List.replicate 32 0
def topB (k s : Nat) : List Nat := zeroB.set k s
theorem zeroB_get (j : Nat) : zeroB.getD j 0 = 0 := by
  unfold zeroB
  rw [List.getD_eq_getElem?_getD, List.getElem?_replicate]; split <;> rfl
theorem topB_bd (k s : Nat) (h : s ≤ maxN) : Brd (topB k s) := bd_zero.set k s h
theorem topB_get (k s j : Nat) (hk : k < 32) : (topB k s).getD j 0 = if k = j then s else 0 := by
  unfold topB
  rw [getD_set, zeroB_get]
  have : zeroB.length = 32 := rfl
  rw [this]
  by_cases h : k = j <;> simp [h, hk]
  omega
theorem add_top (k s n : Nat) (h1 : 1 ≤ k) (h2 : k < 32) : addM (topB k s) (k : Int) n = topB k (min (s + n) 18446744073709551615) := by
  unfold addM
  rw [if_pos (by omega), Int.toNat_natCast, topB_get k s k h2, if_pos rfl]
  unfold topB maxN
  rw [List.set_set]
theorem set_top (k s : Nat) (h1 : 1 ≤ k) (h2 : k < 32) : setM (List.replicate 32 0) (k : Int) s = topB k s := by
  unfold setM
  rw [if_pos (by omega), Int.toNat_natCast]; rfl
theorem read_top (k s : Nat) (h1 : 1 ≤ k) (h2 : k < 32) : readM (topB k s) (k : Int) = s := by
  unfold readM
  rw [if_pos (by omega), Int.toNat_natCast, topB_get k s k h2, if_pos rfl]
theorem reset_top (k s : Nat) (h1 : 1 ≤ k) (h2 : k < 32) : readM (rs (topB k s) 32) (k : Int) = if k ≠ 25 ∧ k ≠ 26 ∧ k ≠ 28 then 0 else s := by
  unfold readM
  rw [if_pos (by omega), Int.toNat_natCast]
  have hl : k < (topB k s).length := by unfold topB zeroB; simp; omega
  have hg := topB_get k s k h2
  rw [if_pos rfl, List.getD_eq_getElem?_getD, List.getElem?_eq_getElem hl] at hg
  simp only [Option.getD_some] at hg
  rw [List.getD_eq_getElem?_getD, List.getElem?_eq_getElem (by rw [rs_len]; exact hl)]
  simp only [rs, List.getElem_mapIdx, Option.getD_some, hg]
  by_cases h : k ≠ 25 ∧ k ≠ 26 ∧ k ≠ 28
  · rw [if_pos ⟨h2, h⟩, if_pos h]
  · rw [if_neg (fun q => h q.2), if_neg h]
theorem Brd.rs {l : List Nat} (b : Brd l) (i : Nat) : Brd (rs l i) := ⟨by rw [rs_len]; exact b.len, fun j => by
  have h := b.top j
  rw [List.getD_eq_getElem?_getD] at h ⊢
  by_cases hj : j < l.length
  · rw [List.getElem?_eq_getElem hj] at h
    rw [List.getElem?_eq_getElem (by rw [rs_len]; exact hj)]
    simp only [YtdmepoiijgejhaaDoor.rs, List.getElem_mapIdx, Option.getD_some] at h ⊢
    split
    · exact Nat.zero_le _
    · exact h
  · rw [List.getElem?_eq_none (by rw [rs_len]; omega)]; exact Nat.zero_le _⟩
def ucells (l : List Nat) : List Value := l.map fun n : Nat => .int .u64 (n : Int)
theorem statsM_at (l : List Nat) (n i : Nat) (h : i < n) : (statsM l n)[i]? = some (nameM ((i + 1 : Nat) : Int), l.getD (i + 1) 0) := by
  simp [statsM, h]
theorem linesC_0 (l : List (List UInt8 × Nat)) (i : Nat) (x : List UInt8 × Nat) (h : l[i]? = some x) : (linesC l)[i * 2]? = some (strv x.1) ∧ (linesC l)[i * 2 + 1]? = some (.int .u64 (x.2 : Int)) := by
  have e := linesC_at l i x h
  have e0 := congrArg (·[0]?) e
  have e1 := congrArg (·[1]?) e
  simp [lineC, List.getElem?_take, List.getElem?_drop] at e0 e1
  exact ⟨e0, e1⟩
theorem topLaw_fn (z : Int) (hz1 : -9223372036854775808 ≤ z) (hz2 : z ≤ 9223372036854775807) (first : Nat) (hf : first ≤ 18446744073709551615) (l : List Nat) (hl : ∀ n ∈ l, n ≤ 18446744073709551615) (hb : l.length ≤ 9223372036854775807) (a : Option Addr) (m c : Nat) (hm : m = l.length) :
    FnS Tryd.prog 9 [.int .i64 z, .int .u64 (first : Int), .slice a m c] (fun h => Tab h ∧ Rdl h a (ucells l)) [] (fun v H => v = .bool true ∧ H = []) := by
  subst hm
  refine fn_body Tryd.func9 rfl Tryd.ntmps9 rfl ?_
  intro F hF
  refine g_sr ?_
  refine Li As ?_
  refine g_ne ?_
  refine g_seq ?_
  refine g_sr ?_
  refine Lp (oC T.fn_10 rfl rfl (wakes_fn) .nil (fun _ le _ => hF.1.mono le) ?_)
  rintro v H' ⟨rfl, rfl⟩
  try simp only [nap, cap]
  refine Li Nt ?_
  refine g_ne ?_
  refine g_cond_f rfl (by rfl) ?_
  refine g_skip ?_
  refine e_then ?_
  refine g_sr ?_
  refine Lp (oC T.fn_11 rfl rfl (new_fn) .nil (fun _ _ _ => trivial) ?_)
  rintro v H' ⟨ba, rfl, rfl⟩
  try simp only [nap, cap]
  refine Lp (oC T.fn_11 rfl rfl (new_fn) .nil (fun _ _ _ => trivial) ?_)
  rintro v H' ⟨bb, rfl, rfl⟩
  try simp only [nap, cap]
  refine Li As ?_
  refine Li As ?_
  refine g_ne ?_
  refine g_seq ?_
  refine g_sr ?_
  refine Li Mv ?_
  refine Li (Pn T.u_24) ?_
  refine Li Mv ?_
  refine g_slot (t := 20) (v' := .bool false) rfl (congrArg Value.bool (by rfl)) ?_
  refine Li Mv ?_
  refine Li (Pn T.u_24) ?_
  refine Li Pf ?_
  refine g_ne ?_
  refine g_cond_f rfl (by rfl) ?_
  refine Hh (H' := [pts ba 89 (bdC 0 (List.replicate 32 0)), pts bb 89 (bdC 0 zeroB)]) ?_
  refine g_skip ?_
  refine e_then ?_
  refine g_seq ?_
  refine g_mid (ι := Int) [24, 25, 26, 27, 28, 0] (fun q => 0 ≤ q ∧ q ≤ 9223372036854775807) (fun q => [(0, .int .i64 q)]) (fun q => [pts ba 89 (bdC 0 (List.replicate 32 0)), pts bb 89 (bdC 0 zeroB)]) ?_ ?_
  · refine g_sr ?_
    refine Li Mv ?_
    refine Li Cm ?_
    refine g_ne ?_
    refine g_cond rfl ?_ ?_
    · intro hn
      replace hn := nrm hn
      refine g_region ?_
      refine Li Mv ?_
      refine Li Im ?_
      refine Li Ng ?_
      refine Li As ?_
      refine g_nil ?_
      refine Me (-(z + 1)) (⟨by omega, by omega⟩)
    · intro hn
      replace hn := nrm hn
      refine g_skip ?_
      refine Me (z) (⟨by omega, by omega⟩)
  rintro q ⟨hq1, hq2⟩
  have hr1 : 0 ≤ q.tmod 31 := Int.tmod_nonneg 31 hq1
  have hr2 : q.tmod 31 < 31 := Int.tmod_lt_of_pos q (by omega)
  refine g_seq ?_
  refine g_mid (ι := Nat) [29, 30, 31, 0] (fun k => 1 ≤ k ∧ k < 32) (fun k => [(0, .int .i64 (k : Int))]) (fun k => [pts ba 89 (bdC 0 (List.replicate 32 0)), pts bb 89 (bdC 0 zeroB)]) ?_ ?_
  · refine g_region ?_
    refine Li Mv ?_
    refine Li Im ?_
    refine Li Im ?_
    refine Li As ?_
    refine g_nil ?_
    refine Me ((q.tmod 31 + 1).toNat) (⟨by omega, by omega⟩)
  rintro k ⟨hk1, hk2⟩
  refine g_sr ?_
  refine Li Mv ?_
  refine Li Mv ?_
  refine Li Mv ?_
  refine Lp (oC T.fn_31 rfl rfl (Set_fn ba 89 (List.replicate 32 0) bd_zero (k : Int) first hf) (.cons .here .nil) (fun _ _ _ => trivial) ?_)
  rintro v H' ⟨rfl, rfl⟩
  try simp only [nap, cap]
  rw [set_top k first hk1 hk2]
  refine g_ne ?_
  refine g_sr ?_
  refine Li Mv ?_
  refine Li As ?_
  refine g_ne ?_
  refine g_seq ?_
  refine g_sr ?_
  refine Li As ?_
  refine g_ne ?_
  refine g_block ?_
  refine Lo (ι := Nat × Nat) [37, 38, 39, 40, 41, 42, 43, 44, 47, 48, 49, 50, 51, 52, 53, 54, 55, 56, 57, 58, 59, 60, 9, 61, 62, 63, 64, 65, 66, 67, 68, 69, 70, 71, 6, 45, 46, 10] (fun (i, s) => i ≤ l.length ∧ s ≤ 18446744073709551615) (fun (i, s) => [(10, .int .i64 (i : Int)), (9, .int .u64 (s : Int))]) (fun (i, s) => [pts ba 89 (bdC 0 (topB k s)), pts bb 89 (bdC 0 zeroB)]) (fun (i, s) => l.length - i) ((0, first)) ⟨Nat.zero_le _, hf⟩ ?_
  rintro ⟨i, s⟩ ⟨hi, hs⟩
  try dsimp only at hI ⊢
  dsimp only at hi hs ⊢
  refine g_seq ?_
  refine g_seq ?_
  refine g_mid (ι := Unit) [37, 38, 39, 40, 41, 42, 43, 44] (fun u => True) (fun u => [(44, .bool (decide ((i : Int) < l.length) && decide ((i : Int) < 2000)))]) (fun u => [pts ba 89 (bdC 0 (topB k s)), pts bb 89 (bdC 0 zeroB)]) ?_ ?_
  · refine g_region ?_
    refine Li Mv ?_
    refine Li Mv ?_
    refine Li (Ln T.sl_76) ?_
    refine Li Cm ?_
    refine Li Mv ?_
    refine g_split (t := 41) rfl ?_ ?_
    · intro hb0
      replace hb0 := nrm hb0
      refine Li Mv ?_
      refine Li Cm ?_
      refine Li Pt ?_
      refine g_nil ?_
      refine Me (()) (trivial)
    · intro hb0
      replace hb0 := nrm hb0
      refine Lx ?_
      refine Lx ?_
      refine Li Pf ?_
      refine g_nil ?_
      refine Me (()) (trivial)
  rintro u hI
  refine g_cond rfl ?_ ?_
  · intro h1
    replace h1 := nrm h1
    obtain ⟨n, e1⟩ : ∃ n, l[i]? = some n := ⟨_, List.getElem?_eq_getElem (show i < l.length by omega)⟩
    have hn : n ≤ 18446744073709551615 := hl n (List.mem_of_getElem? e1)
    have k1 : (ucells l)[i]? = some (.int .u64 (n : Int)) := by simp [ucells, e1]
    have hF2 := hF.2
    have a0 : a.isSome = true := hF2.some (by simp [ucells]; omega)
    refine g_skip ?_
    refine e_then ?_
    refine g_seq ?_
    refine g_block ?_
    refine g_sr ?_
    refine Li Mv ?_
    refine Li Mv ?_
    refine Li Mv ?_
    refine Li Mv ?_
    refine Li (Ix T.sl_76) ?_
    refine Lp (oL T.sc_30 ?_)
    refine Lp (oC T.fn_28 rfl rfl (Add_fn ba 89 (topB k s) (topB_bd k s hs) (k : Int) n hn) (.cons .here .nil) (fun _ _ _ => trivial) ?_)
    rintro v H' ⟨rfl, rfl⟩
    try simp only [nap, cap]
    rw [add_top k s n hk1 hk2]
    refine g_ne ?_
    refine g_seq ?_
    refine g_mid (ι := Nat) [54, 55, 56, 57, 58, 59, 60, 9, 61, 62, 63, 64, 65, 66] (fun t => t = min (s + n) 18446744073709551615) (fun t => [(9, .int .u64 (t : Int))]) (fun t => [pts ba 89 (bdC 0 (topB k (min (s + n) 18446744073709551615))), pts bb 89 (bdC 0 zeroB)]) ?_ ?_
    · refine g_sr ?_
      refine Li Mv ?_
      refine Li Mv ?_
      refine Li (Ix T.sl_76) ?_
      refine Lp (oL T.sc_30 ?_)
      refine Li Mv ?_
      refine Li Im ?_
      refine Li Cm ?_
      refine g_ne ?_
      refine g_cond rfl ?_ ?_
      · intro h2
        replace h2 := nrm h2
        refine g_region ?_
        refine Li As ?_
        refine g_nil ?_
        refine Me (18446744073709551615) ((by omega))
      · intro h2
        replace h2 := nrm h2
        refine g_region ?_
        refine Li Mv ?_
        refine Li Mv ?_
        refine Li Mv ?_
        refine Li (Ix T.sl_76) ?_
        refine Lp (oL T.sc_30 ?_)
        refine Li Im ?_
        refine Li As ?_
        refine g_nil ?_
        refine Me (s + n) ((by omega))
    rintro t ht
    rw [← ht]
    refine g_sr ?_
    refine Li Mv ?_
    refine Li Mv ?_
    refine Lp (oC T.fn_20 rfl rfl (Read_fn ba 89 (topB k t) (topB_bd k t (by unfold maxN; omega)) (k : Int)) (.cons .here .nil) (fun _ _ _ => trivial) ?_)
    rintro v H' ⟨rfl, rfl⟩
    try simp only [nap, cap]
    rw [read_top k t hk1 hk2]
    refine Li Mv ?_
    refine Li Cm ?_
    refine g_ne ?_
    refine g_cond_f rfl (by simp) ?_
    refine g_skip ?_
    refine e_block ?_
    refine e_then ?_
    refine g_region ?_
    refine Li Mv ?_
    refine Li Im ?_
    refine Li As ?_
    refine g_nil ?_
    refine Ro ((i + 1, t)) (⟨by omega, by omega⟩) (by omega)
  · intro h1
    replace h1 := nrm h1
    refine g_exit ?_
    refine e_then_exit ?_
    refine e_then_exit ?_
    refine e_block_hit ?_
    refine e_then ?_
    refine g_sr ?_
    refine Li Mv ?_
    refine Lp (oC T.fn_17 rfl rfl (Stats_fn ba 89 (topB k s) (topB_bd k s hs)) (.cons .here .nil) (fun _ le _ => hF.1.mono le) ?_)
    rintro v H' ⟨sa, sc, rfl, hsc, ha, rfl⟩
    try simp only [nap, cap]

    refine Hh (H' := [own sa sc 78 2 (linesC (statsM (topB k s) 31)), pts ba 89 (bdC 0 (topB k s)), pts bb 89 (bdC 0 zeroB)]) ?_
    refine Li As ?_
    refine g_ne ?_
    refine g_seq ?_
    refine g_sr ?_
    refine Li As ?_
    refine g_ne ?_
    refine g_block ?_
    refine Lo (ι := Nat) [74, 75, 13, 78, 79, 80, 81, 82, 83, 84, 85, 86, 87, 88, 89, 90, 91, 92, 93, 94, 95, 96, 97, 98, 99, 100, 101, 102, 103, 104, 105, 106, 107, 108, 109, 110, 111, 112, 6, 76, 77, 12] (fun i => i ≤ 31) (fun i => [(12, .int .i64 (i : Int))]) (fun i => [own sa sc 78 2 (linesC (statsM (topB k s) 31)), pts ba 89 (bdC 0 (topB k s)), pts bb 89 (bdC 0 zeroB)]) (fun i => 31 - i) (0) (Nat.zero_le _) ?_
    rintro i hj
    refine g_seq ?_
    refine g_sr ?_
    refine Li Mv ?_
    refine Li Cm ?_
    refine g_ne ?_
    refine g_cond rfl ?_ ?_
    · intro h3
      replace h3 := nrm h3
      refine g_skip ?_
      refine e_then ?_
      refine g_seq ?_
      refine g_block ?_
      refine g_sr ?_
      refine Li As ?_
      refine g_ne ?_
      refine g_seq ?_
      refine g_mid (ι := Nat) [78, 79, 80, 81, 82, 13] (fun w => w = if k = i + 1 then s else 0) (fun w => [(13, .int .u64 (w : Int))]) (fun w => [own sa sc 78 2 (linesC (statsM (topB k s) 31)), pts ba 89 (bdC 0 (topB k s)), pts bb 89 (bdC 0 zeroB)]) ?_ ?_
      · refine g_sr ?_
        refine Li Mv ?_
        refine Li Im ?_
        refine Li Mv ?_
        refine Li Cm ?_
        refine g_ne ?_
        refine g_cond rfl ?_ ?_
        · intro h4
          replace h4 := nrm h4
          refine g_region ?_
          refine Li Mv ?_
          refine Li As ?_
          refine g_nil ?_
          refine Me (s) ((by rw [if_pos (by omega)]))
        · intro h4
          replace h4 := nrm h4
          refine g_skip ?_
          refine Me (0) ((by rw [if_neg (by omega)]))
      rintro w hw
      obtain ⟨z0, z1⟩ := linesC_0 (statsM (topB k s) 31) i _ (statsM_at (topB k s) 31 i (by omega))
      rw [topB_get k s (i + 1) hk2, ← hw] at z1
      refine g_seq ?_
      refine g_drw T.mix (.cons .here .nil) fun F1 le1 hin1 back1 => ?_
      obtain ⟨hb, _⟩ := hin1
      have rr := own_in hb
      have hT := hF.1.mono le1
      refine Dt 0 rfl Mv ?_
      refine Dt 1 rfl (Ln T.sl_36) ?_
      refine Dt 2 rfl Cm ?_
      refine Dt 3 rfl Mv ?_
      refine g_slot (t := 86) (v' := .bool false) rfl (congrArg Value.bool (by simp)) ?_
      refine Dt 4 rfl Mv ?_
      refine Dt 5 rfl Mv ?_
      refine Dt 6 rfl (Ix T.sl_36) ?_
      refine Dt 7 rfl (Fam T.fld_78_1) ?_
      refine Dt 8 rfl (Lf T.sc_30) ?_
      refine Dt 9 rfl Mv ?_
      refine Dt 10 rfl Cm ?_
      refine Dt 11 rfl Pf ?_
      refine Dt 12 rfl Mv ?_
      refine g_slot (t := 95) (v' := .bool false) rfl (congrArg Value.bool (by simp)) ?_
      refine Dt 13 rfl Mv ?_
      refine Dt 14 rfl Mv ?_
      refine Dt 15 rfl (Ix T.sl_36) ?_
      refine Dt 16 rfl (Fam T.fld_78_0) ?_
      refine Dt 17 rfl (Lf T.sc_9) ?_
      refine Dt 18 rfl Mv ?_
      refine Dt 19 rfl Im ?_
      refine Dn 20 ?_
      refine Do rfl (oC T.fn_21 rfl rfl (Name_fn ((i + 1 : Nat) : Int) (by omega) (by omega)) .nil (fun _ le _ => hT.mono le) ?_)
      rintro v H' ⟨rfl, rfl⟩
      try simp only [nap, cap]
      refine gh_next ?_
      refine Dt 21 rfl Sq ?_
      refine Dt 22 rfl Pf ?_
      refine Dt 23 rfl Mv ?_
      refine g_slot (t := 106) (v' := .bool false) rfl (congrArg Value.bool (by simp)) ?_
      refine Dt 24 rfl Mv ?_
      refine Dt 25 rfl Mv ?_
      refine Dt 26 rfl Im ?_
      refine Dn 27 ?_
      refine Do rfl (oC T.fn_20 rfl rfl (Read_fn bb 89 zeroB bd_zero ((i + 1 : Nat) : Int)) (.cons (.there .here) .nil) (fun _ _ _ => trivial) ?_)
      rintro v H' ⟨rfl, rfl⟩
      try simp only [nap, cap]
      rw [show readM zeroB ((i + 1 : Nat) : Int) = 0 from by unfold readM; rw [zeroB_get]; split <;> rfl]
      refine gh_next ?_
      refine Dt 28 rfl Cm ?_
      refine Dt 29 rfl Pf ?_
      refine gh_done (by kernel_rfl) back1 ?_
      refine e_then ?_
      refine g_cond_f rfl (by simp) ?_
      refine g_skip ?_
      refine e_block ?_
      refine e_then ?_
      refine g_region ?_
      refine Li Mv ?_
      refine Li Im ?_
      refine Li As ?_
      refine g_nil ?_
      refine Ro (i + 1) ((by omega)) (by omega)
    · intro h3
      replace h3 := nrm h3
      refine g_exit ?_
      refine e_then_exit ?_
      refine e_then_exit ?_
      refine e_block_hit ?_
      refine e_then ?_
      refine g_sr ?_
      refine Li Mv ?_
      refine Lp (oC T.fn_32 rfl rfl (Reset_fn ba 89 (topB k s) (topB_bd k s hs)) (.cons (.there .here) .nil) (fun _ _ _ => trivial) ?_)
      rintro v H' ⟨rfl, rfl⟩
      try simp only [nap, cap]
      refine g_ne ?_
      refine g_seq ?_
      refine g_seq ?_
      refine g_mid (ι := Unit) [115, 116, 117, 118, 119, 120, 121, 122, 123, 124] (fun u => True) (fun u => [(124, .bool (!(decide (k = 25) || decide (k = 26) || decide (k = 28))))]) (fun u => [pts ba 89 (bdC 0 (rs (topB k s) 32))]) ?_ ?_
      · refine g_region ?_
        refine Li Mv ?_
        refine Li Cm ?_
        refine Li Mv ?_
        refine g_split (t := 117) rfl ?_ ?_
        · intro hb0
          replace hb0 := nrm hb0
          refine Li Mv ?_
          refine Li Cm ?_
          refine Li Pt ?_
          refine Li Mv ?_
          refine g_split (t := 121) rfl ?_ ?_
          · intro hb1
            replace hb1 := nrm hb1
            refine Li Mv ?_
            refine Li Cm ?_
            refine Li Pt ?_
            refine g_nil ?_
            refine Me (()) (trivial)
          · intro hb1
            replace hb1 := nrm hb1
            refine Lx ?_
            refine Lx ?_
            refine Li Pf ?_
            refine g_nil ?_
            refine Me (()) (trivial)
        · intro hb0
          replace hb0 := nrm hb0
          refine Lx ?_
          refine Lx ?_
          refine Li Pf ?_
          refine Li Mv ?_
          refine Lx ?_
          refine Lx ?_
          refine Li Pf ?_
          refine g_nil ?_
          refine Me (()) (trivial)
      rintro u hI
      refine g_cond rfl ?_ ?_
      · intro h5
        replace h5 := nrm h5
        refine g_region ?_
        refine Li As ?_
        refine g_ne ?_
        refine g_sr ?_
        refine Li Mv ?_
        refine Li Mv ?_
        refine Lp (oC T.fn_20 rfl rfl (Read_fn ba 89 (rs (topB k s) 32) ((topB_bd k s hs).rs 32) (k : Int)) (.cons .here .nil) (fun _ _ _ => trivial) ?_)
        rintro v H' ⟨rfl, rfl⟩
        try simp only [nap, cap]
        rw [reset_top k s hk1 hk2, if_pos (by omega)]
        refine Li Mv ?_
        refine Li Cm ?_
        refine Li As ?_
        refine g_ne ?_
        refine g_ret ?_
        refine Rt [] Tryd.results9 ?_
        exact ⟨congrArg Value.bool (by simp), rfl⟩
      · intro h5
        replace h5 := nrm h5
        refine g_skip ?_
        refine e_then ?_
        refine g_sr ?_
        refine Li Mv ?_
        refine Li Mv ?_
        refine Lp (oC T.fn_20 rfl rfl (Read_fn ba 89 (rs (topB k s) 32) ((topB_bd k s hs).rs 32) (k : Int)) (.cons .here .nil) (fun _ _ _ => trivial) ?_)
        rintro v H' ⟨rfl, rfl⟩
        try simp only [nap, cap]
        rw [reset_top k s hk1 hk2, if_neg (by omega)]
        refine Li Mv ?_
        refine Li Cm ?_
        refine Li As ?_
        refine g_ne ?_
        refine g_ret ?_
        refine Rt [] Tryd.results9 ?_
        exact ⟨congrArg Value.bool (by simp), rfl⟩
end Go.Proofs.YtdmepoiijgejhaaDoor

