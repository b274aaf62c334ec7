/- What the rows of this seat share: the shapes of the arguments. -/
import Derived.Test.YtggmpaggmkfmoaaOpn
import Derived.Test.YtggmpaggmkfmoaaA16
set_option maxRecDepth 100000
namespace Go.Proofs.Ytggmpaggmkfmoaa
open Go Go.Eng Go.ChangeShapes Go.WideShapes Go.ChangeAt Go.RowKit
theorem Try.own : ownKnob Try.prog.godebug = none := by kernel_rfl
theorem Try.laidOut : laidOutB Try.prog = true := by kernel_rfl
theorem Try.bool4 : Try.prog.underlying 4 = some .bool := by kernel_rfl
theorem Try.sl37 : Try.prog.underlying 37 = some (.slice 5) := by kernel_rfl
theorem Try.sl73 : Try.prog.underlying 73 = some (.slice 3) := by kernel_rfl
theorem Try.sl22 : Try.prog.underlying 22 = some (.slice 39) := by kernel_rfl
theorem Try.sl24 : Try.prog.underlying 24 = some (.slice 37) := by kernel_rfl
theorem Try.fl75 : flds Try.prog 75 = some [(0, 37, 1), (1, 73, 1), (2, 73, 1), (3, 3, 1)] := by kernel_rfl
theorem Try.fl39 : flds Try.prog 39 = some [(0, 4, 1), (1, 3, 1), (2, 3, 1), (3, 36, 1), (4, 36, 1), (5, 37, 1), (6, 9, 1), (7, 37, 1), (8, 4, 1)] := by kernel_rfl
theorem Try.fl70 : flds Try.prog 70 = some [(0, 39, 9), (9, 37, 1), (10, 3, 1), (11, 3, 1)] := by kernel_rfl
theorem Try.ce5 : Try.prog.cellsOf 5 = 1 := by kernel_rfl
theorem Try.ce3 : Try.prog.cellsOf 3 = 1 := by kernel_rfl
theorem Try.ce37 : Try.prog.cellsOf 37 = 1 := by kernel_rfl
theorem Try.ce39 : Try.prog.cellsOf 39 = 9 := by kernel_rfl
theorem Try.ce70 : Try.prog.cellsOf 70 = 12 := by kernel_rfl
theorem Try.ce75 : Try.prog.cellsOf 75 = 4 := by kernel_rfl
section
variable {H : Type} {enc : TypeId × Value → H} {w : World} {spare : Nat → Bool} {held : Bool}
theorem list1 {α : Type} {cs : List α} (h : cs.length = 1) : ∃ a, cs = [a] := by
  match cs, h with | [a], _ => exact ⟨a, rfl⟩
theorem rd_row {fuel : Nat} {cs : List Value} {x : DataW H × List MemPlace} (h : DataW.trod enc Try.prog w 0 spare held fuel 75 cs = some x) :
    ∃ raw ar cr one a1 c1 two a2 c2 limit, cs = rowCells raw ar cr one a1 c1 two a2 c2 limit ∧ raw.length ≤ cr ∧ Rdl (hOf w) ar (bcells raw) ∧ Rdl (hOf w) a1 (icells one) ∧ Rdl (hOf w) a2 (icells two) ∧ -9223372036854775808 ≤ limit ∧ limit ≤ 9223372036854775807 := by
  obtain ⟨hl, hf⟩ := rd_flds Try.fl75 h
  rw [Try.ce75] at hl
  match cs, hl with
  | [c0, c1, c2, c3], _ =>
    obtain ⟨_, _, h0⟩ := hf 0 _ _ _ rfl
    obtain ⟨_, _, h1⟩ := hf 1 _ _ _ rfl
    obtain ⟨_, _, h2⟩ := hf 2 _ _ _ rfl
    obtain ⟨_, _, h3⟩ := hf 3 _ _ _ rfl
    obtain ⟨a, cap, l, e0, q1, _, q3⟩ := rd_bytes Try.sl37 T.u_5 Try.ce5 h0
    obtain ⟨b, capb, m, e1, r1, _, r3, _⟩ := rd_ints Try.sl73 T.u_3 Try.ce3 h1
    obtain ⟨c, capc, n, e2, s1, _, s3, _⟩ := rd_ints Try.sl73 T.u_3 Try.ce3 h2
    obtain ⟨z, e3, z1, z2⟩ := rd_int T.u_3 h3
    simp only [List.drop_zero, List.take_succ_cons, List.take_zero, List.drop_succ_cons, List.cons.injEq, and_true] at e0 e1 e2 e3
    subst e0 e1 e2 e3
    exact ⟨l, a, cap, m, b, capb, n, c, capc, z, rfl, q1, q3, r3, s3, z1, z2⟩
theorem rd_pkt {fuel : Nat} {cs : List Value} {x : DataW H × List MemPlace} (h : DataW.trod enc Try.prog w 0 spare held fuel 39 cs = some x) :
    ∃ p ae ce av cv, cs = pktCells p ae ce av cv ∧ p.ex.length ≤ ce ∧ p.val.length ≤ cv ∧ Rdl (hOf w) ae (bcells p.ex) ∧ Rdl (hOf w) av (bcells p.val) ∧ p.opq < 18446744073709551616 ∧ p.token < 18446744073709551616 ∧
      (-9223372036854775808 ≤ p.op ∧ p.op ≤ 9223372036854775807) ∧ (-9223372036854775808 ≤ p.status ∧ p.status ≤ 9223372036854775807) := by
  obtain ⟨hl, hf⟩ := rd_flds Try.fl39 h
  rw [Try.ce39] at hl
  match cs, hl with
  | [c0, c1, c2, c3, c4, c5, c6, c7, c8], _ =>
    obtain ⟨_, _, h0⟩ := hf 0 _ _ _ rfl
    obtain ⟨_, _, h1⟩ := hf 1 _ _ _ rfl
    obtain ⟨_, _, h2⟩ := hf 2 _ _ _ rfl
    obtain ⟨_, _, h3⟩ := hf 3 _ _ _ rfl
    obtain ⟨_, _, h4⟩ := hf 4 _ _ _ rfl
    obtain ⟨_, _, h5⟩ := hf 5 _ _ _ rfl
    obtain ⟨_, _, h6⟩ := hf 6 _ _ _ rfl
    obtain ⟨_, _, h7⟩ := hf 7 _ _ _ rfl
    obtain ⟨_, _, h8⟩ := hf 8 _ _ _ rfl
    obtain ⟨b0, e0⟩ := rd_bool T.u_4 h0
    obtain ⟨z1, e1, y1, x1⟩ := rd_int T.u_3 h1
    obtain ⟨z2, e2, y2, x2⟩ := rd_int T.u_3 h2
    obtain ⟨z3, e3, y3, x3⟩ := rd_int T.u_36 h3
    obtain ⟨z4, e4, y4, x4⟩ := rd_int T.u_36 h4
    obtain ⟨a5, k5, l5, e5, q5, _, r5⟩ := rd_bytes Try.sl37 T.u_5 Try.ce5 h5
    obtain ⟨l6, e6, _⟩ := rd_str T.u_9 h6
    obtain ⟨a7, k7, l7, e7, q7, _, r7⟩ := rd_bytes Try.sl37 T.u_5 Try.ce5 h7
    obtain ⟨b8, e8⟩ := rd_bool T.u_4 h8
    simp only [List.drop_zero, List.take_succ_cons, List.take_zero, List.drop_succ_cons, List.cons.injEq, and_true] at e0 e1 e2 e3 e4 e5 e6 e7 e8
    subst e0 e1 e2 e3 e4 e5 e6 e7 e8
    obtain ⟨n3, rfl⟩ := Int.eq_ofNat_of_zero_le (show 0 ≤ z3 from y3)
    obtain ⟨n4, rfl⟩ := Int.eq_ofNat_of_zero_le (show 0 ≤ z4 from y4)
    have w3 : (n3 : Int) ≤ 18446744073709551615 := x3
    have w4 : (n4 : Int) ≤ 18446744073709551615 := x4
    exact ⟨⟨b0, z1, z2, n3, n4, l5, l6, l7, b8⟩, a5, k5, a7, k7, rfl, q5, q7, r5, r7, by dsimp only; omega, by dsimp only; omega, ⟨y1, x1⟩, ⟨y2, x2⟩⟩
end
end Go.Proofs.Ytggmpaggmkfmoaa
