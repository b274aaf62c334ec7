/- PacketBack: what Bytes writes Read tells again, with anything behind it; each beginning is told as one: the call returns true for every input. No condition. -/
import Derived.Test.YtggmpaggmkfmoaaRow
import Derived.Test.YtggmpaggmkfmoaaA21
set_option maxRecDepth 100000
namespace Go.Proofs.Ytggmpaggmkfmoaa
open Go Go.Eng Go.ChangeShapes Go.WideShapes Go.ChangeAt Go.RowKit

theorem rd_back {H : Type} {enc : TypeId × Value → H} {w : World} {spare : Nat → Bool} {held : Bool} {fuel : Nat} {cs : List Value} {x : DataW H × List MemPlace} (h : DataW.trod enc Try.prog w 0 spare held fuel 70 cs = some x) :
    ∃ p ae ce av cv tail at' ct more cut, cs = backCells p ae ce av cv tail at' ct more cut ∧ p.ex.length ≤ ce ∧ p.val.length ≤ cv ∧ tail.length ≤ ct ∧ p.token < 18446744073709551616 ∧ -9223372036854775808 ≤ more ∧ more ≤ 9223372036854775807 ∧
      Rdl (hOf w) ae (bcells p.ex) ∧ Rdl (hOf w) av (bcells p.val) ∧ Rdl (hOf w) at' (bcells tail) := by
  obtain ⟨hl, hf⟩ := rd_flds Try.fl70 h
  rw [Try.ce70] at hl
  obtain ⟨_, _, h0⟩ := hf 0 _ _ _ rfl
  obtain ⟨_, _, h1⟩ := hf 1 _ _ _ rfl
  obtain ⟨_, _, h2⟩ := hf 2 _ _ _ rfl
  obtain ⟨_, _, h3⟩ := hf 3 _ _ _ rfl
  obtain ⟨p, ae, ce, av, cv, e0, q1, q2, q3, q4, q5, q6, _⟩ := rd_pkt h0
  obtain ⟨a, c, l, e1, r1, _, r3⟩ := rd_bytes Try.sl37 T.u_5 Try.ce5 h1
  obtain ⟨z2, e2, y2, x2⟩ := rd_int T.u_3 h2
  obtain ⟨z3, e3, y3, x3⟩ := rd_int T.u_3 h3
  refine ⟨p, ae, ce, av, cv, l, a, c, z2, z3, ?_, q1, q2, r1, q6, y2, x2, q3, q4, r3⟩
  have hs : cs = ((cs.drop 0).take 9) ++ (((cs.drop 9).take 1) ++ (((cs.drop 10).take 1) ++ ((cs.drop 11).take 1))) := by
    match cs, hl with
    | [c0, c1, c2, c3, c4, c5, c6, c7, c8, c9, c10, c11], _ => rfl
  rw [hs, e0, e1, e2, e3]
  rfl
theorem packetBack_lifted (os : Os) (started : os.Started) (H : Type) (enc : TypeId × Value → H) :
    ReturnsInHanded {} Try.checked os 6 .any (Rows.packetBackSpec.pre6 enc Try.prog Try.f6 Rows.packetBackRow.domain false) (Rows.packetBackSpec.post enc Try.prog Try.f6 false true false false) := by
  refine returnsInHanded_of_change (C := Try.checked) Try.own started (by kernel_rfl) Try.func6
    (ChangeSpec.witness6 (enc := enc) (C := Try.checked) false ⟨#[], #[.agg #[.bool false, .int .i64 0, .int .i64 0, .int .u64 0, .int .u64 0, .slice none 0 0, .string ⟨#[]⟩, .slice none 0 0, .bool false, .slice none 0 0, .int .i64 0, .int .i64 0]], []⟩ 12 (by kernel_rfl) (by kernel_rfl) (by kernel_rfl) (by kernel_rfl)) ?_
  intro W base args ds gs before hval0 hW hcnd _
  have hval : ∀ (j : Nat) t v, Try.f6.params[j]? = some t → args[j]? = some v → Value.okWide Try.prog W .any base t v := hval0
  have hW' := hW
  obtain ⟨p, q, hA0, hV, rfl, hfz, hnd⟩ := hW
  have hA : DataW.TrodAll enc Try.prog W 0 (fun _ => true) true Try.f6.params.toList args.toList ds p := hA0
  rw [Try.params6] at hA hval
  obtain ⟨v0, d0, rfl, rfl, h0⟩ := trodAll_one hA
  obtain ⟨rfl, rfl⟩ := trodVars_none hV
  have e0 := val_flds Try.fl70 (hval 0 70 v0 rfl rfl)
  obtain ⟨_, h0⟩ := h0
  obtain ⟨pk, ae, ce, av, cv, tail, at', ct, more, cut, ec, he, hv, ht, htok, q1, q2, r1, r2, r3⟩ := rd_back h0
  rw [ec] at e0
  have hc := law_done (back_fn pk ae ce av cv tail at' ct more cut he hv ht htok q1 q2) W ⟨⟨r1, r2⟩, r3⟩
  rw [← e0] at hc
  refine hc.mono fun e W' ⟨he, hb⟩ => ?_
  subst he
  exact ⟨_, rfl, law_post hW' rfl (by kernel_rfl) Try.bool4 rfl Try.laidOut (by rw [Try.params6]; decide +kernel) hb⟩

theorem packetBack_holds : Rows.PacketBackSaid :=
  OpenClaim.holds_of_wide 6 Try.f6 rfl rfl rfl rfl rfl rfl rfl ⟨rfl, rfl, rfl, rfl, rfl⟩ rfl rfl rfl rfl rfl (by kernel_rfl) Try.func6 (by kernel_rfl)
    (of_decide_eq_true (by kernel_rfl)) (by unfold Func.isWrapper; first | (rw [if_pos (by decide +kernel)]; kernel_rfl) | (rw [if_neg (by decide +kernel)]; exact ⟨rfl, rfl⟩))
    (fun os started H enc _ => packetBack_lifted os started H enc)
end Go.Proofs.Ytggmpaggmkfmoaa
