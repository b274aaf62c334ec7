/- Counts: the list of outcomes, opened. -/
import Derived.Test.YtdmepoiijgejhaaDoorOpnC
set_option maxRecDepth 100000
namespace Go.Proofs.YtdmepoiijgejhaaDoor
open Go Go.Eng Go.ChangeShapes Go.WideShapes Go.ChangeAt Go.RowKit
/-- an outcome, with what its lists hold -/
structure Oc where
  c : Cmd
  a : Ans
  fl : List Flg
  why : List Int
  wa : Option Addr
  wc : Nat
  m : Mtr
structure OcOk (h : Hp) (x : Oc) : Prop where
  fm : x.c.fm = x.fl.length
  flb : x.fl.length ≤ 9223372036854775807
  txt : x.a.text.length ≤ 9223372036854775807
  wcb : x.why.length ≤ x.wc
  fls : Rdl h x.c.fa (flsC x.fl)
  whs : Rdl h x.wa (icells x.why)
  mok : x.m.ok
  fcb : x.c.fm ≤ x.c.fc
def ocC (x : Oc) : List Value := outC x.c x.a x.wa x.why.length x.wc x.m
theorem cut4 (cs : List Value) (h : cs.length = 24) : cs = (cs.drop 0).take 11 ++ ((cs.drop 11).take 5 ++ ((cs.drop 16).take 1 ++ (cs.drop 17).take 7)) := by
  have e1 : (cs.drop 17).take 7 = cs.drop 17 := List.take_of_length_le (by simp; omega)
  have e2 : (cs.drop 16).take 1 ++ cs.drop 17 = cs.drop 16 := by rw [show cs.drop 17 = (cs.drop 16).drop 1 from by simp, List.take_append_drop]
  have e3 : (cs.drop 11).take 5 ++ cs.drop 16 = cs.drop 11 := by rw [show cs.drop 16 = (cs.drop 11).drop 5 from by simp, List.take_append_drop]
  rw [e1, e2, e3, List.drop_zero, List.take_append_drop]
section
variable {H : Type} {enc : TypeId × Value → H} {w : World} {spare : Nat → Bool} {held : Bool}
theorem rd_out {fuel : Nat} {cs : List Value} {x : DataW H × List MemPlace} (h : DataW.trod enc Tryd.prog w 0 spare held fuel 43 cs = some x) : ∃ y : Oc, cs = ocC y ∧ OcOk (hOf w) y := by
  obtain ⟨hl, hf⟩ := rd_flds flO43 h
  rw [show Tryd.prog.cellsOf 43 = 24 by kernel_rfl] at hl
  obtain ⟨_, _, h0⟩ := hf 0 _ _ _ rfl
  obtain ⟨_, _, h1⟩ := hf 1 _ _ _ rfl
  obtain ⟨_, _, h2⟩ := hf 2 _ _ _ rfl
  obtain ⟨_, _, h3⟩ := hf 3 _ _ _ rfl
  obtain ⟨c, fl, e0, f1, f2, f3, f4⟩ := rd_cmd h0
  obtain ⟨a, e1, t1⟩ := rd_ans h1
  obtain ⟨wa, wc, why, e2, w1, w2, w3, _⟩ := rd_ints Tryd.underlying39 T.u_3 (by kernel_rfl) h2
  obtain ⟨m, e3, m1⟩ := rd_mtr h3
  refine ⟨⟨c, a, fl, why, wa, wc, m⟩, ?_, ⟨f1, f2, t1, w1, f3, w3, m1, f4⟩⟩
  rw [cut4 cs hl, e0, e1, e2, e3]
  rfl
end
end Go.Proofs.YtdmepoiijgejhaaDoor
