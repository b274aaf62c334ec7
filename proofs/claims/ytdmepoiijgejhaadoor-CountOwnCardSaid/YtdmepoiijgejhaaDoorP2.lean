/- Counts, the plain law: keys are hits or misses; what no command moves. -/
import Derived.Test.YtdmepoiijgejhaaDoorP1
set_option maxRecDepth 100000
namespace Go.Proofs.YtdmepoiijgejhaaDoor
open Go Go.Eng

theorem tot_ones (L : List Int) (j : Nat) : tot (onesE L) j = if 1 ≤ j ∧ j < 32 then L.count (j : Int) else 0 := by
  induction L with
  | nil => simp [tot, onesE]
  | cons z r ih =>
    have e : tot (onesE (z :: r)) j = (if z = (j : Int) ∧ 1 ≤ z ∧ z < 32 then 1 else 0) + tot (onesE r) j := by simp [tot, onesE]
    rw [e, ih, List.count_cons]
    by_cases hj : 1 ≤ j ∧ j < 32
    · rw [if_pos hj, if_pos hj]
      by_cases hz : z = (j : Int)
      · rw [if_pos ⟨hz, by omega⟩, if_pos (by simpa using hz)]; omega
      · rw [if_neg (fun q => hz q.1), if_neg (by simpa using hz)]; omega
    · rw [if_neg hj, if_neg hj, if_neg (by omega)]
/-- numbers T of names, out of k keys, s sets and n commands -/
def GoodT (T : Nat → Nat) (k s n : Nat) : Prop :=
  T 1 = k ∧ T 6 + T 7 = k ∧ T 8 + T 9 ≤ T 7 ∧ T 19 + T 20 ≤ T 3 ∧ T 2 = s ∧ T 24 ≤ s ∧ T 16 + T 17 + T 18 ≤ s ∧ T 25 = 0 ∧ T 26 = 0 ∧ T 27 = 0 ∧ T 28 = 0 ∧ T 30 = 0 ∧ T 3 ≤ k + n
instance {T : Nat → Nat} {k s n : Nat} : Decidable (GoodT T k s n) := by unfold GoodT; exact inferInstance
theorem GoodT.add {T U : Nat → Nat} {k s n k' s' n' : Nat} (a : GoodT T k s n) (b : GoodT U k' s' n') : GoodT (fun j => T j + U j) (k + k') (s + s') (n + n') := by
  unfold GoodT at *
  dsimp only
  omega
def Good (L : List Int) (k s n : Nat) : Prop := GoodT (fun j => L.count (j : Int)) k s n
instance {L : List Int} {k s n : Nat} : Decidable (Good L k s n) := by unfold Good; exact inferInstance
theorem Good.app {L M : List Int} {k s n k' s' n' : Nat} (a : Good L k s n) (b : Good M k' s' n') : Good (L ++ M) (k + k') (s + s') (n + n') := by
  have := GoodT.add a b
  unfold Good
  simpa only [List.count_append] using this
theorem Good.more {L : List Int} {k s n m : Nat} (a : Good L k s n) (h : n ≤ m) : Good L k s m := by
  unfold Good GoodT at *
  omega
def isK (w : Int) : Bool := decide (0 ≤ w) && decide (w ≤ 3)
def keyN (why : List Int) : Nat := why.countP isK
theorem good_nil : Good [] 0 0 0 := by decide
theorem why_cases (w : Int) : w = 0 ∨ w = 1 ∨ w = 2 ∨ w = 3 ∨ isK w = false := by
  unfold isK
  by_cases h : 0 ≤ w ∧ w ≤ 3
  · omega
  · right; right; right; right; simp; omega
theorem toldL_no {w : Int} (a h m : Int) (hw : isK w = false) : toldL w a h m = [] := by
  unfold isK at hw
  simp at hw
  unfold toldL
  rw [if_neg (by omega), if_neg (by omega)]
theorem good_key (w : Int) : Good (keyL w) (if isK w then 1 else 0) 0 0 := by
  rcases why_cases w with rfl | rfl | rfl | rfl | h
  · decide
  · decide
  · decide
  · decide
  · have : keyL w = [] := by
      unfold keyL
      rw [toldL_no _ _ _ h, if_neg (by rintro rfl; revert h; decide), if_neg (by rintro rfl; revert h; decide)]; rfl
    rw [this, h]; decide
theorem good_touch (w : Int) : Good (toldL w 3 19 20) 0 0 1 ∧ Good (keyL w ++ toldL w 3 19 20) (if isK w then 1 else 0) 0 0 := by
  rcases why_cases w with rfl | rfl | rfl | rfl | h
  · decide
  · decide
  · decide
  · decide
  · have := good_key w
    rw [toldL_no _ _ _ h, List.append_nil]
    exact ⟨by decide, this⟩
theorem good_get (verb : Int) (why : List Int) : Good (getL verb why) (keyN why) 0 0 := by
  induction why with
  | nil => exact good_nil
  | cons w r ih =>
    have e : getL verb (w :: r) = (keyL w ++ if 3 ≤ verb then toldL w 3 19 20 else []) ++ getL verb r := by simp [getL]
    have e2 : keyN (w :: r) = (if isK w then 1 else 0) + keyN r := by unfold keyN; rw [List.countP_cons]; omega
    rw [e, e2]
    refine Good.app (s := 0) (n := 0) ?_ ih
    split
    · exact (good_touch w).2
    · rw [List.append_nil]; exact good_key w
theorem lkI3 (kind : Int) (a b c x y z : Int) : lkI [(a, x), (b, y), (c, z)] kind = x ∨ lkI [(a, x), (b, y), (c, z)] kind = y ∨ lkI [(a, x), (b, y), (c, z)] kind = z ∨ lkI [(a, x), (b, y), (c, z)] kind = 0 := by
  simp only [lkI]
  by_cases h1 : a = kind
  · rw [if_pos h1]; exact .inl rfl
  · rw [if_neg h1]
    by_cases h2 : b = kind
    · rw [if_pos h2]; exact .inr (.inl rfl)
    · rw [if_neg h2]
      by_cases h3 : c = kind
      · rw [if_pos h3]; exact .inr (.inr (.inl rfl))
      · rw [if_neg h3]; exact .inr (.inr (.inr rfl))
theorem lkI2 (kind : Int) (a b x y : Int) : lkI [(a, x), (b, y)] kind = x ∨ lkI [(a, x), (b, y)] kind = y ∨ lkI [(a, x), (b, y)] kind = 0 := by
  simp only [lkI]
  by_cases h1 : a = kind
  · rw [if_pos h1]; exact .inl rfl
  · rw [if_neg h1]
    by_cases h2 : b = kind
    · rw [if_pos h2]; exact .inr (.inl rfl)
    · rw [if_neg h2]; exact .inr (.inr rfl)
theorem lkS3 (t : List UInt8) (a b c : List UInt8) (x y z : Int) : lkS [(a, x), (b, y), (c, z)] t = x ∨ lkS [(a, x), (b, y), (c, z)] t = y ∨ lkS [(a, x), (b, y), (c, z)] t = z ∨ lkS [(a, x), (b, y), (c, z)] t = 0 := by
  simp only [lkS]
  by_cases h1 : a = t
  · rw [if_pos h1]; exact .inl rfl
  · rw [if_neg h1]
    by_cases h2 : b = t
    · rw [if_pos h2]; exact .inr (.inl rfl)
    · rw [if_neg h2]
      by_cases h3 : c = t
      · rw [if_pos h3]; exact .inr (.inr (.inl rfl))
      · rw [if_neg h3]; exact .inr (.inr (.inr rfl))
theorem good_told0 (w h m : Int) (hh : Good [0, h] 0 0 0) (hm : Good [0, m] 0 0 0) : Good (toldL w 0 h m) 0 0 0 := by
  unfold toldL
  split
  · exact hh
  · split
    · exact hm
    · exact good_nil
theorem good_ch (w : Int) (b : Bool) (h m : Int) (hh : Good [0, h] 0 0 0) (hm : Good [0, m] 0 0 0) : Good (chL w b h m) 0 0 0 := by
  unfold chL
  split
  · exact good_nil
  · exact good_told0 w h m hh hm
def setsOf (verb : Int) : Nat := if (5 ≤ verb ∧ verb ≤ 10) ∨ verb = 21 then 1 else 0
def keysOf (verb : Int) (why : List Int) : Nat := if 1 ≤ verb ∧ verb ≤ 4 then keyN why else if verb = 20 then (if isK (whyM why) then 1 else 0) else 0
theorem good_text (verb kind : Int) : Good (textL verb kind) 0 (if 5 ≤ verb ∧ verb ≤ 10 then 1 else 0) 1 := by
  unfold textL
  by_cases h : 5 ≤ verb ∧ verb ≤ 10
  · rw [if_pos h, if_pos h]
    by_cases hk : kind = 1 <;> by_cases hv : verb = 10
    · subst hk hv; decide
    · subst hk; rw [if_neg hv]; decide
    · rw [if_neg hk, if_pos hv]
      rcases lkI3 kind 1 3 4 16 17 18 with e | e | e | e <;> rw [e] <;> decide
    · rw [if_neg hk, if_neg hv]; decide
  · rw [if_neg h, if_neg h]
    by_cases h11 : verb = 11
    · rw [if_pos h11]; rcases lkI2 kind 5 4 10 11 with e | e | e <;> rw [e] <;> decide
    · rw [if_neg h11]
      by_cases h12 : verb = 12
      · rw [if_pos h12]; rcases lkI2 kind 7 4 12 13 with e | e | e <;> rw [e] <;> decide
      · rw [if_neg h12]
        by_cases h13 : verb = 13
        · rw [if_pos h13]; rcases lkI2 kind 7 4 14 15 with e | e | e <;> rw [e] <;> decide
        · rw [if_neg h13]
          by_cases h14 : verb = 14
          · rw [if_pos h14]; rcases lkI2 kind 6 4 19 20 with e | e | e <;> rw [e] <;> decide
          · rw [if_neg h14]
            split <;> decide
theorem good_meta (verb kind : Int) (text : List UInt8) (fl : List Flg) (why : List Int) : Good (metaL verb kind text fl why) (if verb = 20 then (if isK (whyM why) then 1 else 0) else 0) (if verb = 21 then 1 else 0) 1 := by
  unfold metaL
  by_cases h24 : verb > 24
  · rw [if_pos h24, if_neg (by omega), if_neg (by omega)]; decide
  rw [if_neg h24]
  have h5 : Good [5] 0 0 0 := by decide
  have hap : ∀ (L : List Int) (k s : Nat), Good L k s 0 → Good (5 :: L) k s 1 := fun L k s h => by
    have := (h5.app h).more (m := 1) (by omega)
    rw [Nat.zero_add, Nat.zero_add] at this
    exact this
  refine hap _ _ _ ?_
  by_cases h20 : verb = 20
  · subst h20
    rw [if_pos rfl, if_pos rfl, if_neg (show ¬ (20 : Int) = 21 by decide)]
    exact good_key _
  rw [if_neg h20, if_neg h20]
  by_cases h21 : verb = 21
  · rw [if_pos h21, if_pos h21]
    have e7 := lkS3 (codeM kind text) HD EX NF 16 17 18
    generalize codeM kind text = code at *
    by_cases hc : code = HD <;> by_cases ha : (argM fl 67).2 = true
    · rw [if_pos hc, if_pos ha, hc]; decide
    · rw [if_pos hc, if_neg ha]; decide
    · rw [if_neg hc, if_pos ha]
      rcases e7 with e | e | e | e <;> rw [e] <;> decide
    · rw [if_neg hc, if_neg ha]; decide
  rw [if_neg h21, if_neg h21]
  by_cases h22 : verb = 22
  · rw [if_pos h22]; exact good_ch _ _ _ _ (by decide) (by decide)
  rw [if_neg h22]
  by_cases h23 : verb = 23
  · rw [if_pos h23]
    split
    · exact good_ch _ _ _ _ (by decide) (by decide)
    · exact good_ch _ _ _ _ (by decide) (by decide)
  · rw [if_neg h23]; exact good_nil
theorem good_comm (verb kind : Int) (text : List UInt8) (fl : List Flg) (why : List Int) : Good (commL verb kind text fl why) (keysOf verb why) (setsOf verb) 1 := by
  unfold commL keysOf setsOf
  by_cases h1 : 1 ≤ verb ∧ verb ≤ 4
  · rw [if_pos h1, if_pos h1, if_neg (by omega)]
    exact (good_get verb why).more (by omega)
  rw [if_neg h1, if_neg h1]
  by_cases h2 : 20 ≤ verb
  · rw [if_pos h2]
    have := good_meta verb kind text fl why
    have e : (if (5 ≤ verb ∧ verb ≤ 10) ∨ verb = 21 then 1 else 0) = if verb = 21 then 1 else 0 := by
      by_cases h21 : verb = 21
      · rw [if_pos (Or.inr h21), if_pos h21]
      · rw [if_neg (by omega), if_neg h21]
    rw [e]; exact this
  · rw [if_neg h2, if_neg (show ¬ verb = 20 by omega)]
    have := good_text verb kind
    have e : (if (5 ≤ verb ∧ verb ≤ 10) ∨ verb = 21 then 1 else 0) = if 5 ≤ verb ∧ verb ≤ 10 then 1 else 0 := by
      by_cases h5 : 5 ≤ verb ∧ verb ≤ 10
      · rw [if_pos (Or.inl h5), if_pos h5]
      · rw [if_neg (by omega), if_neg h5]
    rw [e]; exact this
theorem good_ev (verb kind : Int) (text : List UInt8) (fl : List Flg) (why : List Int) (m : Mtr) : GoodT (tot (evE verb kind text fl why m)) (keysOf verb why) (setsOf verb) 1 := by
  have h := good_comm verb kind text fl why
  have e : ∀ j : Nat, 1 ≤ j → j < 32 → j ≠ 21 → j ≠ 22 → j ≠ 23 → j ≠ 29 → j ≠ 31 → tot (evE verb kind text fl why m) j = (commL verb kind text fl why).count (j : Int) := by
    intro j h1 h2 h3 h4 h5 h6 h7
    unfold evE
    rw [tot_append, tot_ones, if_pos ⟨h1, h2⟩, List.count_append]
    have e1 : tot [((21 : Int), m.d.toNat), (22, m.r.toNat), (29, m.cr.toNat), (31, m.mv.toNat)] j = 0 := by
      simp only [tot, List.map_cons, List.map_nil, List.sum_cons, List.sum_nil]
      rw [if_neg (by omega), if_neg (by omega), if_neg (by omega), if_neg (by omega)]
      rfl
    have e2 : (if kind = 11 then [(23 : Int)] else []).count (j : Int) = 0 := by
      split
      · rw [List.count_cons, List.count_nil, if_neg (by simp; omega)]
      · rfl
    rw [e1, e2]; omega
  unfold Good GoodT at h
  unfold GoodT
  simp only [e 1 (by omega) (by omega) (by omega) (by omega) (by omega) (by omega) (by omega), e 2 (by omega) (by omega) (by omega) (by omega) (by omega) (by omega) (by omega), e 3 (by omega) (by omega) (by omega) (by omega) (by omega) (by omega) (by omega),
    e 6 (by omega) (by omega) (by omega) (by omega) (by omega) (by omega) (by omega), e 7 (by omega) (by omega) (by omega) (by omega) (by omega) (by omega) (by omega), e 8 (by omega) (by omega) (by omega) (by omega) (by omega) (by omega) (by omega), e 9 (by omega) (by omega) (by omega) (by omega) (by omega) (by omega) (by omega),
    e 16 (by omega) (by omega) (by omega) (by omega) (by omega) (by omega) (by omega), e 17 (by omega) (by omega) (by omega) (by omega) (by omega) (by omega) (by omega), e 18 (by omega) (by omega) (by omega) (by omega) (by omega) (by omega) (by omega), e 19 (by omega) (by omega) (by omega) (by omega) (by omega) (by omega) (by omega), e 20 (by omega) (by omega) (by omega) (by omega) (by omega) (by omega) (by omega),
    e 24 (by omega) (by omega) (by omega) (by omega) (by omega) (by omega) (by omega), e 25 (by omega) (by omega) (by omega) (by omega) (by omega) (by omega) (by omega), e 26 (by omega) (by omega) (by omega) (by omega) (by omega) (by omega) (by omega), e 27 (by omega) (by omega) (by omega) (by omega) (by omega) (by omega) (by omega), e 28 (by omega) (by omega) (by omega) (by omega) (by omega) (by omega) (by omega), e 30 (by omega) (by omega) (by omega) (by omega) (by omega) (by omega) (by omega)]
  exact h
theorem keysOf_le (verb : Int) (why : List Int) (h : why.length ≤ 10000) : keysOf verb why ≤ 10000 := by
  unfold keysOf
  split
  · exact Nat.le_trans (List.countP_le_length ..) h
  · split
    · split <;> omega
    · omega
theorem setsOf_le (verb : Int) : setsOf verb ≤ 1 := by unfold setsOf; split <;> omega
end Go.Proofs.YtdmepoiijgejhaaDoor
