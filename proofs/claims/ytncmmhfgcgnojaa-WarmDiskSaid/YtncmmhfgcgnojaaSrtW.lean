/- The library's sort of texts, as a contract of this frame. -/
import Derived.Test.YtncmmhfgcgnojaaShfW
import Derived.Test.YtncmmhfgcgnojaaW14
set_option maxRecDepth 100000
namespace Go.Proofs.Ytncmmhfgcgnojaa
open Go Go.Eng

theorem St.grow {F : Frm} {H : List HProp} {w : World} (s : St F H w) (os : Array Obj) : St F H (Sort.grow w os) := by
  obtain ⟨a1, a2, a3, fr, h, st, y, z⟩ := s
  have hold : ∀ k : Hp, Le k (hOf w) → Le k (hOf (Sort.grow w os)) := by
    intro k lk x ob ex
    have hx := lk x ob ex
    unfold hOf at *
    have hlt := (Array.getElem?_eq_some_iff.1 hx).1
    show (w.heap ++ os)[x]? = _
    rw [Array.getElem?_append_left hlt]; exact hx
  exact ⟨a1, a2, a3, hold _ fr, h, st, hold _ y, z⟩
theorem St.ahead {F : Frm} {H : List HProp} {w : World} (s : St F H w) (n : Nat) : St F H (Sort.ahead w n) := by
  obtain ⟨a1, a2, a3, fr, h, st, y, z⟩ := s
  exact ⟨a1, a2, a3, fr, h, st, y, z⟩
theorem putCells_eq (ss ts : List (List UInt8)) (sp : List Value) (hl : ts.length = ss.length) : Sort.putCells Go.Proofs.encStr 0 ts.toArray (ss.map strv ++ sp).toArray = (ts.map strv ++ sp).toArray := by
  apply Array.ext_getElem?
  intro k
  unfold Sort.putCells
  simp only [Array.getElem?_mapIdx, List.getElem?_toArray, List.size_toArray, Nat.zero_add, Nat.zero_le, true_and, Nat.sub_zero]
  by_cases hk : k < ts.length
  · rw [List.getElem?_append_left (by simp; omega), List.getElem?_append_left (by simpa using hk), List.getElem?_map, List.getElem?_map, List.getElem?_eq_getElem (by omega), List.getElem?_eq_getElem hk]
    simp only [Option.map_some, hk, if_true]
    have : ts.toArray[k]! = ts[k] := by rw [getElem!_pos _ k (by simpa using hk)]; simp
    rw [this]; rfl
  · rw [List.getElem?_append_right (by simp; omega), List.getElem?_append_right (by simp; omega), List.length_map, List.length_map, hl]
    have : (fun x : Value => if k < ts.length then Go.Proofs.encStr ts.toArray[k]! else x) = id := by funext x; simp [hk]
    cases hs : sp[k - ss.length]? with
    | none => rfl
    | some v => have hk2 : ¬ k < ss.length := by omega
                simp [hk, hk2]
theorem St.putRow {F : Frm} {R : List HProp} {w : World} {b e : Nat} {ss ts : List (List UInt8)} {sp : List Value} (hl : ts.length = ss.length) (s : St F (pts b e (ss.map strv ++ sp) :: R) w) : St F (pts b e (ts.map strv ++ sp) :: R) (Sort.putRow Go.Proofs.encStr w b 0 ts.toArray) := by
  obtain ⟨hh, ⟨lo, hi, hf, hb⟩, hle⟩ := s.get
  have hw : w.heap[b]? = some (.cells (ss.map strv ++ sp).toArray e (lo, hi)) := hle _ _ hb
  have hlt := (Array.getElem?_eq_some_iff.1 hw).1
  have key : Sort.putRow Go.Proofs.encStr w b 0 ts.toArray = { w with heap := w.heap.setIfInBounds b (.cells (ts.map strv ++ sp).toArray e (lo, hi)) } := by
    unfold Sort.putRow Sort.mapBlock
    congr 1
    apply Array.ext_getElem?
    intro x
    rw [Array.getElem?_modify, Array.getElem?_setIfInBounds]
    by_cases hx : b = x
    · subst hx
      rw [if_pos rfl, if_pos rfl, if_pos hlt, hw]
      simp only [Option.map_some, Sort.onCells, putCells_eq ss ts sp hl]
    · rw [if_neg hx, if_neg hx]
  rw [key]
  exact s.setO (fun h p => by obtain ⟨_, _, _, q⟩ := p; exact ⟨_, q⟩) (.mk lo hi (by rw [List.length_append, List.length_map] at hf ⊢; omega) (by simp))
def sortL (l : List (List UInt8)) : List (List UInt8) := l.mergeSort fun x y => decide (x ≤ y)
theorem sortL_len (l : List (List UInt8)) : (sortL l).length = l.length := (List.mergeSort_perm l _).length_eq
theorem sort_some (a : Addr) (n cap : Nat) (ss : List (List UInt8)) (hn : n = ss.length) (hl : ss.length < 4611686018427387904) : FnS Try.prog 67 [.slice (some a) n cap] (fun _ => True) [own (some a) cap 9 1 (ss.map strv)] (fun v H => v = .tuple #[] ∧ H = [own (some a) cap 9 1 ((sortL ss).map strv)]) := by
  subst hn
  intro F w _ s
  obtain ⟨hh, ⟨q1, q2, q3⟩, hle⟩ := s.get
  rcases q3 with ⟨q3, _⟩ | ⟨b, sp, q3, q4, q5⟩
  · cases q3
  cases q3
  have s1 : St F [pts b 9 (ss.map strv ++ sp)] w ∨ True := .inr trivial
  clear s1
  -- the part, opened
  obtain ⟨a1, a2, a3, fr, h, ⟨h1, h2, d, l1, l2, ⟨r1, r2, r3⟩, st⟩, y, z⟩ := s
  rcases r3 with ⟨r3, _⟩ | ⟨b', sp', r3, r4, r5⟩
  · cases r3
  cases r3
  have s1 : St F [pts b 9 (ss.map strv ++ sp')] w := ⟨a1, a2, a3, fr, h, ⟨h1, h2, d, l1, l2, r5, st⟩, y, z⟩
  have hlen : (ss.map strv).length + sp'.length = cap * 1 := r4
  have hH : Sort.Holds Go.Proofs.encStr w b 0 ss.toArray := by
    intro j hj
    have hj' : j < ss.length := by simpa using hj
    have hget : (ss.map strv ++ sp')[j]? = some (strv ss[j]) := by rw [List.getElem?_append_left (by simpa using hj'), List.getElem?_map, List.getElem?_eq_getElem hj']; rfl
    have e1 : ss.toArray[j]! = ss[j] := by rw [getElem!_pos _ j (by simpa using hj')]; simp
    rw [Nat.zero_add, e1]
    exact ⟨hcell_at (l1.trans y) (pts_cell r5 hget), pts_free r5 (by rw [List.length_append, List.length_map]; omega) (l1.trans y)⟩
  have hblk : b < w.heap.size := by
    obtain ⟨lo, hi, _, hb⟩ := r5
    exact (Array.getElem?_eq_some_iff.1 ((l1.trans y) _ _ hb)).1
  refine (Try.slices_Sort_string b 0 cap ss w hH hblk hl).mono ?_
  rintro e w' ⟨rfl, n, os, rfl⟩
  refine ⟨_, _, rfl, ⟨rfl, rfl⟩, ?_⟩
  have s2 := (St.putRow (ts := sortL ss) (sortL_len ss) (St.ahead s1 n))
  have s3 := St.grow s2 os
  refine s3.sub fun k sk => starL_cons_mono (fun _ p => ⟨?_, r2, .inr ⟨b, sp', rfl, ?_, p⟩⟩) sk
  · rw [List.length_map, sortL_len]; rw [List.length_map] at r1; exact r1
  · rw [List.length_map, sortL_len]; rw [List.length_map] at r4; exact r4
theorem len0_fn : FnS Try.prog 73 [.int .u64 0] (fun _ => True) [] (fun v H => v = .int .i64 0 ∧ H = []) := by
  intro F w _ s
  refine (Try.bits_Len 0 w (by omega) (by omega)).mono ?_
  rintro e w' ⟨rfl, rfl⟩
  exact ⟨_, _, rfl, ⟨rfl, rfl⟩, s⟩
end Go.Proofs.Ytncmmhfgcgnojaa
