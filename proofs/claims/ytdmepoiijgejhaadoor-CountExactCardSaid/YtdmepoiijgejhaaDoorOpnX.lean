/- Counts: the list of calls, opened. -/
import Derived.Test.YtdmepoiijgejhaaDoorOpnL
import Derived.Test.YtdmepoiijgejhaaDoorK24
set_option maxRecDepth 100000
namespace Go.Proofs.YtdmepoiijgejhaaDoor
open Go Go.Eng Go.ChangeShapes Go.WideShapes Go.ChangeAt Go.RowKit
theorem flX73 : flds Tryd.prog 73 = some [(0, 3, 1), (1, 3, 1), (2, 3, 1), (3, 30, 1), (4, 34, 11), (15, 38, 5), (20, 39, 1), (21, 41, 7)] := by kernel_rfl
theorem cut8 (cs : List Value) (h : cs.length = 28) : cs = (cs.drop 0).take 1 ++ ((cs.drop 1).take 1 ++ ((cs.drop 2).take 1 ++ ((cs.drop 3).take 1 ++ ((cs.drop 4).take 11 ++ ((cs.drop 15).take 5 ++ ((cs.drop 20).take 1 ++ (cs.drop 21).take 7)))))) := by
  have st : ∀ a b : Nat, (cs.drop a).take b ++ cs.drop (a + b) = cs.drop a := fun a b => by rw [← List.drop_drop, List.take_append_drop]
  have e0 : (cs.drop 21).take 7 = cs.drop 21 := List.take_of_length_le (by simp; omega)
  rw [e0, st 20 1, st 15 5, st 4 11, st 3 1, st 2 1, st 1 1, st 0 1, List.drop_zero]
section
variable {H : Type} {enc : TypeId × Value → H} {w : World} {spare : Nat → Bool} {held : Bool}
theorem rd_opc {fuel : Nat} {cs : List Value} {x : DataW H × List MemPlace} (h : DataW.trod enc Tryd.prog w 0 spare held fuel 73 cs = some x) : ∃ y : Opc, cs = opC y ∧ OpOk (hOf w) y := by
  obtain ⟨hl, hf⟩ := rd_flds flX73 h
  rw [show Tryd.prog.cellsOf 73 = 28 by kernel_rfl] at hl
  obtain ⟨_, _, g0⟩ := hf 0 _ _ _ rfl
  obtain ⟨_, _, g1⟩ := hf 1 _ _ _ rfl
  obtain ⟨_, _, g2⟩ := hf 2 _ _ _ rfl
  obtain ⟨_, _, g3⟩ := hf 3 _ _ _ rfl
  obtain ⟨_, _, h0⟩ := hf 4 _ _ _ rfl
  obtain ⟨_, _, h1⟩ := hf 5 _ _ _ rfl
  obtain ⟨_, _, h2⟩ := hf 6 _ _ _ rfl
  obtain ⟨_, _, h3⟩ := hf 7 _ _ _ rfl
  obtain ⟨on, o0, _, _⟩ := rd_int T.u_3 g0
  obtain ⟨act, o1, _, _⟩ := rd_int T.u_3 g1
  obtain ⟨name, o2, n1, n2⟩ := rd_int T.u_3 g2
  obtain ⟨n, o3, m1, m2⟩ := rd_int T.u_30 g3
  obtain ⟨c, fl, e0, f1, f2, f3⟩ := rd_cmd h0
  obtain ⟨a, e1, t1⟩ := rd_ans h1
  obtain ⟨wa, wc, why, e2, w1, w2, w3, _⟩ := rd_ints Tryd.underlying39 T.u_3 (by kernel_rfl) h2
  obtain ⟨m, e3, m3⟩ := rd_mtr h3
  have q1 : IntKind.u64.min = 0 := by rfl
  have q2 : IntKind.u64.max = 18446744073709551615 := by rfl
  rw [q1] at m1; rw [q2] at m2
  obtain ⟨k, rfl⟩ : ∃ k : Nat, n = (k : Int) := ⟨n.toNat, by omega⟩
  refine ⟨⟨on, act, name, k, ⟨c, a, fl, why, wa, wc, m⟩⟩, ?_, ⟨by unfold maxN; simp only; omega, ⟨n1, n2⟩, ⟨f1, f2, t1, w1, f3, w3, m3⟩⟩⟩
  rw [cut8 cs hl, o0, o1, o2, o3, e0, e1, e2, e3]
  rfl
theorem rd_opcs {t : TypeId} {fuel : Nat} {cs : List Value} {x : DataW H × List MemPlace} (ht : Tryd.prog.underlying t = some (.slice 73)) (h : DataW.trod enc Tryd.prog w 0 spare held fuel t cs = some x) :
    ∃ a cap, ∃ l : List Opc, cs = [.slice a l.length cap] ∧ l.length ≤ cap ∧ cap ≤ maxLen ∧ Rdl (hOf w) a (opsC l) ∧ ∀ y ∈ l, OpOk (hOf w) y := by
  obtain ⟨a, cap, ys, h1, h2, h3, h4, h5⟩ := rd_slice (en := opC) (Q := OpOk (hOf w)) ht (by rw [show Tryd.prog.cellsOf 73 = 28 by kernel_rfl]; omega) (fun _ _ _ hx => rd_opc hx) h
  exact ⟨a, cap, ys, h1, h2, h3, h4, h5⟩
end
end Go.Proofs.YtdmepoiijgejhaaDoor
