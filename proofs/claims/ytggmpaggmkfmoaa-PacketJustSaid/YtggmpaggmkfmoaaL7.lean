/- PacketJust: what Read takes Bytes writes just so; refused stays refused: the call returns true for every input. No condition. -/
import Derived.Test.YtggmpaggmkfmoaaRow
import Derived.Test.YtggmpaggmkfmoaaA20
set_option maxRecDepth 100000
namespace Go.Proofs.Ytggmpaggmkfmoaa
open Go Go.Eng Go.ChangeShapes Go.WideShapes Go.ChangeAt Go.RowKit

theorem packetJust_lifted (os : Os) (started : os.Started) (H : Type) (enc : TypeId × Value → H) :
    ReturnsInHanded {} Try.checked os 7 .any (Rows.packetJustSpec.pre6 enc Try.prog Try.f7 Rows.packetJustRow.domain false) (Rows.packetJustSpec.post enc Try.prog Try.f7 false true false false) := by
  refine returnsInHanded_of_change (C := Try.checked) Try.own started (by kernel_rfl) Try.func7
    (ChangeSpec.witness6 (enc := enc) (C := Try.checked) false ⟨#[], #[.slice none 0 0, .slice none 0 0], []⟩ 12 (by kernel_rfl) (by kernel_rfl) (by kernel_rfl) (by kernel_rfl)) ?_
  intro W base args ds gs before hval0 hW hcnd _
  have hval : ∀ (j : Nat) t v, Try.f7.params[j]? = some t → args[j]? = some v → Value.okWide Try.prog W .any base t v := hval0
  have hW' := hW
  obtain ⟨p, q, hA0, hV, rfl, hfz, hnd⟩ := hW
  have hA : DataW.TrodAll enc Try.prog W 0 (fun _ => true) true Try.f7.params.toList args.toList ds p := hA0
  rw [Try.params7] at hA hval
  obtain ⟨v0, v1, d0, d1, p0, p1, rfl, rfl, rfl, h0, h1⟩ := trodAll_two hA
  obtain ⟨rfl, rfl⟩ := trodVars_none hV
  obtain ⟨_, h0⟩ := h0
  obtain ⟨_, h1⟩ := h1
  obtain ⟨a, c, l, ec, hr, _, r1⟩ := rd_bytes Try.sl37 T.u_5 Try.ce5 h0
  obtain ⟨a2, c2, l2, ec2, hr2, _, r2⟩ := rd_bytes Try.sl37 T.u_5 Try.ce5 h1
  have e0 := val_slice Try.sl37 (hval 0 37 v0 rfl rfl) ec
  have e1 := val_slice Try.sl37 (hval 1 37 v1 rfl rfl) ec2
  have hc := law_done (just_fn l a c l2 a2 c2 hr hr2) W ⟨r1, r2⟩
  rw [← e0, ← e1] at hc
  refine hc.mono fun e W' ⟨he, hb⟩ => ?_
  subst he
  exact ⟨_, rfl, law_post hW' rfl (by kernel_rfl) Try.bool4 rfl Try.laidOut (by rw [Try.params7]; decide +kernel) hb⟩

theorem packetJust_holds : Rows.PacketJustSaid :=
  OpenClaim.holds_of_wide 7 Try.f7 rfl rfl rfl rfl rfl rfl rfl ⟨rfl, rfl, rfl, rfl, rfl⟩ rfl rfl rfl rfl rfl (by kernel_rfl) Try.func7 (by kernel_rfl)
    (of_decide_eq_true (by kernel_rfl)) (by unfold Func.isWrapper; first | (rw [if_pos (by decide +kernel)]; kernel_rfl) | (rw [if_neg (by decide +kernel)]; exact ⟨rfl, rfl⟩))
    (fun os started H enc _ => packetJust_lifted os started H enc)
end Go.Proofs.Ytggmpaggmkfmoaa
