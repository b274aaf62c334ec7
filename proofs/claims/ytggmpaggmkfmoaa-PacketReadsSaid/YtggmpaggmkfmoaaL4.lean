/- PacketReads: of any bytes and any limit, of each beginning of them: Read tells what the document tells, its own, whatever stands behind and whatever is written over: the call returns true for every input. No condition. -/
import Derived.Test.YtggmpaggmkfmoaaRow
import Derived.Test.YtggmpaggmkfmoaaD13
set_option maxRecDepth 100000
namespace Go.Proofs.Ytggmpaggmkfmoaa
open Go Go.Eng Go.ChangeShapes Go.WideShapes Go.ChangeAt Go.RowKit

theorem packetReads_lifted (os : Os) (started : os.Started) (H : Type) (enc : TypeId × Value → H) :
    ReturnsInHanded {} Try.checked os 4 .any (Rows.packetReadsSpec.pre6 enc Try.prog Try.f4 Rows.packetReadsRow.domain false) (Rows.packetReadsSpec.post enc Try.prog Try.f4 false true false false) := by
  refine returnsInHanded_of_change (C := Try.checked) Try.own started (by kernel_rfl) Try.func4
    (ChangeSpec.witness6 (enc := enc) (C := Try.checked) false ⟨#[], #[.slice none 0 0, .int .i64 0], []⟩ 12 (by kernel_rfl) (by kernel_rfl) (by kernel_rfl) (by kernel_rfl)) ?_
  intro W base args ds gs before hval0 hW hcnd _
  have hval : ∀ (j : Nat) t v, Try.f4.params[j]? = some t → args[j]? = some v → Value.okWide Try.prog W .any base t v := hval0
  have hW' := hW
  obtain ⟨p, q, hA0, hV, rfl, hfz, hnd⟩ := hW
  have hA : DataW.TrodAll enc Try.prog W 0 (fun _ => true) true Try.f4.params.toList args.toList ds p := hA0
  rw [Try.params4] at hA hval
  obtain ⟨v0, v1, d0, d1, p0, p1, rfl, rfl, rfl, h0, h1⟩ := trodAll_two hA
  obtain ⟨rfl, rfl⟩ := trodVars_none hV
  obtain ⟨_, h0⟩ := h0
  obtain ⟨_, h1⟩ := h1
  obtain ⟨a, c, l, ec, hr, _, r1⟩ := rd_bytes Try.sl37 T.u_5 Try.ce5 h0
  obtain ⟨z, ez, hz1, hz2⟩ := rd_int T.u_3 h1
  have e0 := val_slice Try.sl37 (hval 0 37 v0 rfl rfl) ec
  have e1 := val_int T.u_3 (hval 1 3 v1 rfl rfl) ez
  have hc := law_done (preadsLaw_fn l a c z hr hz1 hz2) W r1
  rw [← e0, ← e1] at hc
  refine hc.mono fun e W' ⟨he, hb⟩ => ?_
  subst he
  exact ⟨_, rfl, law_post hW' rfl (by kernel_rfl) Try.bool4 rfl Try.laidOut (by rw [Try.params4]; decide +kernel) hb⟩

theorem packetReads_holds : Rows.PacketReadsSaid :=
  OpenClaim.holds_of_wide 4 Try.f4 rfl rfl rfl rfl rfl rfl rfl ⟨rfl, rfl, rfl, rfl, rfl⟩ rfl rfl rfl rfl rfl (by kernel_rfl) Try.func4 (by kernel_rfl)
    (of_decide_eq_true (by kernel_rfl)) (by unfold Func.isWrapper; first | (rw [if_pos (by decide +kernel)]; kernel_rfl) | (rw [if_neg (by decide +kernel)]; exact ⟨rfl, rfl⟩))
    (fun os started H enc _ => packetReads_lifted os started H enc)
end Go.Proofs.Ytggmpaggmkfmoaa
