/- Counts, the plain law: what adds come to, in whatever order. -/
import Derived.Test.YtdmepoiijgejhaaDoorK7
set_option maxRecDepth 100000
namespace Go.Proofs.YtdmepoiijgejhaaDoor
open Go Go.Eng

def foldM (l : List Nat) (E : List (Int × Nat)) : List Nat := E.foldl (fun l p => addM l p.1 p.2) l
def tot (E : List (Int × Nat)) (j : Nat) : Nat := (E.map fun p => if p.1 = (j : Int) ∧ 1 ≤ p.1 ∧ p.1 < 32 then p.2 else 0).sum
theorem addM_get {l : List Nat} (bd : Brd l) (z : Int) (n j : Nat) : (addM l z n).getD j 0 = min (l.getD j 0 + if z = (j : Int) ∧ 1 ≤ z ∧ z < 32 then n else 0) maxN := by
  have h := bd.top j
  have hl := bd.len
  unfold addM
  by_cases hz : 1 ≤ z ∧ z < 32
  · rw [if_pos hz, getD_set]
    by_cases hj : z = (j : Int)
    · rw [if_pos ⟨by omega, by omega⟩, if_pos ⟨hj, hz⟩, show z.toNat = j from by omega]
    · rw [if_neg (by omega), if_neg (fun q => hj q.1), Nat.add_zero, Nat.min_eq_left h]
  · rw [if_neg hz, if_neg (fun q => hz q.2), Nat.add_zero, Nat.min_eq_left h]
theorem Brd.fold {l : List Nat} (bd : Brd l) (E : List (Int × Nat)) : Brd (foldM l E) := by
  induction E generalizing l with
  | nil => exact bd
  | cons p r ih => exact ih (bd.add p.1 p.2)
theorem foldM_get (E : List (Int × Nat)) : ∀ {l : List Nat}, Brd l → ∀ j, (foldM l E).getD j 0 = min (l.getD j 0 + tot E j) maxN := by
  induction E with
  | nil => intro l bd j; simp only [foldM, tot, List.foldl_nil, List.map_nil, List.sum_nil, Nat.add_zero]; exact (Nat.min_eq_left (bd.top j)).symm
  | cons p r ih =>
    intro l bd j
    have := ih (bd.add p.1 p.2) j
    rw [addM_get bd] at this
    simp only [foldM, tot, List.foldl_cons, List.map_cons, List.sum_cons] at this ⊢
    rw [this]
    omega
theorem tot_append (E F : List (Int × Nat)) (j : Nat) : tot (E ++ F) j = tot E j + tot F j := by simp [tot]
theorem foldM_append (l : List Nat) (E F : List (Int × Nat)) : foldM l (E ++ F) = foldM (foldM l E) F := by simp [foldM]
/-- two boards of equal numbers are one -/
theorem Brd.ext {l m : List Nat} (a : Brd l) (b : Brd m) (h : ∀ j, l.getD j 0 = m.getD j 0) : l = m := by
  apply List.ext_getElem
  · rw [a.len, b.len]
  · intro i h1 h2
    have := h i
    simpa [List.getD_eq_getElem?_getD, h1, h2] using this
def onesE (names : List Int) : List (Int × Nat) := names.map fun z => (z, 1)
theorem onesM_fold (l : List Nat) (names : List Int) : onesM l names = foldM l (onesE names) := by
  simp [onesM, foldM, onesE, List.foldl_map]
/-- what a command adds -/
def evE (verb kind : Int) (text : List UInt8) (fl : List Flg) (why : List Int) (m : Mtr) : List (Int × Nat) :=
  [(21, m.d.toNat), (22, m.r.toNat), (29, m.cr.toNat), (31, m.mv.toNat)] ++ onesE ((if kind = 11 then [23] else []) ++ commL verb kind text fl why)
theorem commM_fold (l : List Nat) (verb kind : Int) (text : List UInt8) (fl : List Flg) (why : List Int) (m : Mtr) : commM l verb kind text fl why m = foldM l (evE verb kind text fl why m) := by
  unfold commM evE
  rw [onesM_fold, onesM_fold, foldM_append, ← foldM_append (workM l m)]
  have e : onesE (if kind = 11 then [23] else []) ++ onesE (commL verb kind text fl why) = onesE ((if kind = 11 then [23] else []) ++ commL verb kind text fl why) := by simp [onesE]
  rw [e]
  rfl
end Go.Proofs.YtdmepoiijgejhaaDoor
