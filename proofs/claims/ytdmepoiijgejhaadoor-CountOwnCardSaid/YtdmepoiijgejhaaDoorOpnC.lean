/- Counts: an outcome that came in, opened. -/
import Derived.Test.YtdmepoiijgejhaaDoorOpn
import Derived.Test.YtdmepoiijgejhaaDoorK15
set_option maxRecDepth 100000
namespace Go.Proofs.YtdmepoiijgejhaaDoor
open Go Go.Eng Go.ChangeShapes Go.WideShapes Go.ChangeAt Go.RowKit
section
variable {H : Type} {enc : TypeId × Value → H} {P : Program} {w : World} {base : Nat} {spare : Nat → Bool} {held : Bool}
theorem rd_sl {t e : TypeId} {fuel : Nat} {cs : List Value} {x : DataW H × List MemPlace} (ht : P.underlying t = some (.slice e)) (h : DataW.trod enc P w base spare held fuel t cs = some x) : ∃ a m c, cs = [.slice a m c] := by
  rcases DataW.trod_slice ht h with ⟨h0, _⟩ | ⟨a, len, cap, elems, rest, n, _, rfl, _⟩
  · exact ⟨none, 0, 0, h0⟩
  · exact ⟨_, _, _, rfl⟩
end
theorem flF : flds Tryd.prog 63 = some [(0, 5, 1), (1, 9, 1), (2, 4, 1)] := by kernel_rfl
theorem flC34 : flds Tryd.prog 34 = some [(0, 3, 1), (1, 29, 1), (2, 30, 1), (3, 3, 1), (4, 30, 1), (5, 30, 1), (6, 31, 1), (7, 4, 1), (8, 4, 1), (9, 32, 1), (10, 9, 1)] := by kernel_rfl
theorem flA38 : flds Tryd.prog 38 = some [(0, 3, 1), (1, 35, 1), (2, 30, 1), (3, 9, 1), (4, 36, 1)] := by kernel_rfl
theorem flM : flds Tryd.prog 41 = some [(0, 3, 1), (1, 3, 1), (2, 3, 1), (3, 3, 1), (4, 3, 1), (5, 3, 1), (6, 3, 1)] := by kernel_rfl
section
variable {H : Type} {enc : TypeId × Value → H} {w : World} {spare : Nat → Bool} {held : Bool}
theorem rd_flag {fuel : Nat} {cs : List Value} {x : DataW H × List MemPlace} (h : DataW.trod enc Tryd.prog w 0 spare held fuel 63 cs = some x) : ∃ y : Flg, cs = flC y ∧ True := by
  obtain ⟨hl, hf⟩ := rd_flds flF h
  rw [show Tryd.prog.cellsOf 63 = 3 by kernel_rfl] at hl
  match cs, hl with
  | [c0, c1, c2], _ =>
    obtain ⟨_, _, h0⟩ := hf 0 _ _ _ rfl
    obtain ⟨_, _, h1⟩ := hf 1 _ _ _ rfl
    obtain ⟨_, _, h2⟩ := hf 2 _ _ _ rfl
    obtain ⟨z, e0, z1, z2⟩ := rd_int T.u_5 h0
    obtain ⟨l, e1, _⟩ := rd_str T.u_9 h1
    obtain ⟨b, e2⟩ := rd_bool T.u_4 h2
    simp only [List.drop_zero, List.take_succ_cons, List.take_zero, List.drop_succ_cons, List.cons.injEq, and_true] at e0 e1 e2
    subst e0 e1 e2
    obtain ⟨n, rfl⟩ := Int.eq_ofNat_of_zero_le (show 0 ≤ z from z1)
    exact ⟨⟨n, l, b⟩, rfl, trivial⟩
theorem rd_mtr {fuel : Nat} {cs : List Value} {x : DataW H × List MemPlace} (h : DataW.trod enc Tryd.prog w 0 spare held fuel 41 cs = some x) : ∃ m : Mtr, cs = mtrC m ∧ m.ok := by
  obtain ⟨hl, hf⟩ := rd_flds flM h
  rw [show Tryd.prog.cellsOf 41 = 7 by kernel_rfl] at hl
  match cs, hl with
  | [c0, c1, c2, c3, c4, c5, c6], _ =>
    obtain ⟨_, _, h0⟩ := hf 0 _ _ _ rfl
    obtain ⟨_, _, h1⟩ := hf 1 _ _ _ rfl
    obtain ⟨_, _, h2⟩ := hf 2 _ _ _ rfl
    obtain ⟨_, _, h3⟩ := hf 3 _ _ _ rfl
    obtain ⟨_, _, h4⟩ := hf 4 _ _ _ rfl
    obtain ⟨_, _, h5⟩ := hf 5 _ _ _ rfl
    obtain ⟨_, _, h6⟩ := hf 6 _ _ _ rfl
    obtain ⟨z0, e0, a0, b0⟩ := rd_int T.u_3 h0
    obtain ⟨z1, e1, a1, b1⟩ := rd_int T.u_3 h1
    obtain ⟨z2, e2, a2, b2⟩ := rd_int T.u_3 h2
    obtain ⟨z3, e3, a3, b3⟩ := rd_int T.u_3 h3
    obtain ⟨z4, e4, a4, b4⟩ := rd_int T.u_3 h4
    obtain ⟨z5, e5, a5, b5⟩ := rd_int T.u_3 h5
    obtain ⟨z6, e6, a6, b6⟩ := rd_int T.u_3 h6
    simp only [List.drop_zero, List.take_succ_cons, List.take_zero, List.drop_succ_cons, List.cons.injEq, and_true] at e0 e1 e2 e3 e4 e5 e6
    subst e0 e1 e2 e3 e4 e5 e6
    exact ⟨⟨z0, z1, z2, z3, z4, z5, z6⟩, rfl, ⟨a0, b0⟩, ⟨a1, b1⟩, ⟨a5, b5⟩, ⟨a6, b6⟩⟩
theorem rd_ans {fuel : Nat} {cs : List Value} {x : DataW H × List MemPlace} (h : DataW.trod enc Tryd.prog w 0 spare held fuel 38 cs = some x) : ∃ a : Ans, cs = ansC a ∧ a.text.length ≤ 9223372036854775807 := by
  obtain ⟨hl, hf⟩ := rd_flds flA38 h
  rw [show Tryd.prog.cellsOf 38 = 5 by kernel_rfl] at hl
  match cs, hl with
  | [c0, c1, c2, c3, c4], _ =>
    obtain ⟨_, _, h0⟩ := hf 0 _ _ _ rfl
    obtain ⟨_, _, h1⟩ := hf 1 _ _ _ rfl
    obtain ⟨_, _, h2⟩ := hf 2 _ _ _ rfl
    obtain ⟨_, _, h3⟩ := hf 3 _ _ _ rfl
    obtain ⟨_, _, h4⟩ := hf 4 _ _ _ rfl
    obtain ⟨z0, e0, _, _⟩ := rd_int T.u_3 h0
    obtain ⟨a1, m1, k1, e1⟩ := rd_sl Tryd.underlying35 h1
    obtain ⟨z2, e2, _, _⟩ := rd_int T.u_30 h2
    obtain ⟨l, e3, hlen⟩ := rd_str T.u_9 h3
    obtain ⟨a4, m4, k4, e4⟩ := rd_sl Tryd.underlying36 h4
    simp only [List.drop_zero, List.take_succ_cons, List.take_zero, List.drop_succ_cons, List.cons.injEq, and_true] at e0 e1 e2 e3 e4
    subst e0 e1 e2 e3 e4
    exact ⟨⟨z0, a1, m1, k1, z2, l, a4, m4, k4⟩, rfl, hlen⟩
theorem rd_cmd {fuel : Nat} {cs : List Value} {x : DataW H × List MemPlace} (h : DataW.trod enc Tryd.prog w 0 spare held fuel 34 cs = some x) :
    ∃ (c : Cmd) (fl : List Flg), cs = cmdC c ∧ c.fm = fl.length ∧ fl.length ≤ 9223372036854775807 ∧ Rdl (hOf w) c.fa (flsC fl) ∧ c.fm ≤ c.fc := by
  obtain ⟨hl, hf⟩ := rd_flds flC34 h
  rw [show Tryd.prog.cellsOf 34 = 11 by kernel_rfl] at hl
  match cs, hl with
  | [c0, c1, c2, c3, c4, c5, c6, c7, c8, c9, c10], _ =>
    obtain ⟨_, _, h0⟩ := hf 0 _ _ _ rfl
    obtain ⟨_, _, h1⟩ := hf 1 _ _ _ rfl
    obtain ⟨_, _, h2⟩ := hf 2 _ _ _ rfl
    obtain ⟨_, _, h3⟩ := hf 3 _ _ _ rfl
    obtain ⟨_, _, h4⟩ := hf 4 _ _ _ rfl
    obtain ⟨_, _, h5⟩ := hf 5 _ _ _ rfl
    obtain ⟨_, _, h6⟩ := hf 6 _ _ _ rfl
    obtain ⟨_, _, h7⟩ := hf 7 _ _ _ rfl
    obtain ⟨_, _, h8⟩ := hf 8 _ _ _ rfl
    obtain ⟨_, _, h9⟩ := hf 9 _ _ _ rfl
    obtain ⟨_, _, h10⟩ := hf 10 _ _ _ rfl
    obtain ⟨z0, e0, _, _⟩ := rd_int T.u_3 h0
    obtain ⟨a1, m1, k1, e1⟩ := rd_sl Tryd.underlying29 h1
    obtain ⟨z2, e2, _, _⟩ := rd_int T.u_30 h2
    obtain ⟨z3, e3, _, _⟩ := rd_int T.u_3 h3
    obtain ⟨z4, e4, _, _⟩ := rd_int T.u_30 h4
    obtain ⟨z5, e5, _, _⟩ := rd_int T.u_30 h5
    obtain ⟨a6, m6, k6, e6⟩ := rd_sl Tryd.underlying31 h6
    obtain ⟨b7, e7⟩ := rd_bool T.u_4 h7
    obtain ⟨b8, e8⟩ := rd_bool T.u_4 h8
    obtain ⟨a9, k9, fl, e9, q1, q2, q3, _⟩ := rd_slice (en := flC) (Q := fun _ => True) Tryd.underlying32 (by rw [show Tryd.prog.cellsOf 63 = 3 by kernel_rfl]; omega) (fun _ _ _ hx => rd_flag hx) h9
    obtain ⟨l, e10, _⟩ := rd_str T.u_9 h10
    simp only [List.drop_zero, List.take_succ_cons, List.take_zero, List.drop_succ_cons, List.cons.injEq, and_true] at e0 e1 e2 e3 e4 e5 e6 e7 e8 e9 e10
    subst e0 e1 e2 e3 e4 e5 e6 e7 e8 e9 e10
    unfold maxLen at q2
    exact ⟨⟨z0, a1, m1, k1, z2, z3, z4, z5, a6, m6, k6, b7, b8, a9, fl.length, k9, l⟩, fl, rfl, rfl, by omega, q3, q1⟩
theorem flO43 : flds Tryd.prog 43 = some [(0, 34, 11), (11, 38, 5), (16, 39, 1), (17, 41, 7)] := by kernel_rfl
end
end Go.Proofs.YtdmepoiijgejhaaDoor
