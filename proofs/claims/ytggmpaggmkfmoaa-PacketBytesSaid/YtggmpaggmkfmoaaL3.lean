/- PacketBytes: of any packets: refused just as the document says, or the document's bytes; what is handed in is neither changed nor kept, what is told is the caller's own: the call returns true for every input. No condition. -/
import Derived.Test.YtggmpaggmkfmoaaRow
import Derived.Test.YtggmpaggmkfmoaaD10
set_option maxRecDepth 100000
namespace Go.Proofs.Ytggmpaggmkfmoaa
open Go Go.Eng Go.ChangeShapes Go.WideShapes Go.ChangeAt Go.RowKit

theorem packetBytes_lifted (os : Os) (started : os.Started) (H : Type) (enc : TypeId × Value → H) :
    ReturnsInHanded {} Try.checked os 3 .any (Rows.packetBytesSpec.pre6 enc Try.prog Try.f3 Rows.packetBytesRow.domain false) (Rows.packetBytesSpec.post enc Try.prog Try.f3 false true false false) := by
  refine returnsInHanded_of_change (C := Try.checked) Try.own started (by kernel_rfl) Try.func3
    (ChangeSpec.witness6 (enc := enc) (C := Try.checked) false ⟨#[], #[.slice none 0 0], []⟩ 12 (by kernel_rfl) (by kernel_rfl) (by kernel_rfl) (by kernel_rfl)) ?_
  intro W base args ds gs before hval0 hW hcnd _
  have hval : ∀ (j : Nat) t v, Try.f3.params[j]? = some t → args[j]? = some v → Value.okWide Try.prog W .any base t v := hval0
  have hW' := hW
  obtain ⟨p, q, hA0, hV, rfl, hfz, hnd⟩ := hW
  have hA : DataW.TrodAll enc Try.prog W 0 (fun _ => true) true Try.f3.params.toList args.toList ds p := hA0
  rw [Try.params3] at hA hval
  obtain ⟨v0, vs1, d0, ds1, p0, q0, ea, rfl, rfl, ⟨_, h0⟩, hA⟩ := trodAll_cons hA
  obtain ⟨rfl, rfl, rfl⟩ := trodAll_nil hA
  obtain rfl : args = #[v0] := Array.toList_inj.1 ea
  obtain ⟨rfl, rfl⟩ := trodVars_none hV
  obtain ⟨a, cap, l, ec, hl1, hl2, hr, hok⟩ := rd_slice (en := pkC) (Q := PkOk (hOf W)) Try.sl22 (by rw [Try.ce39]; omega) (fun _ _ _ hx => by
    obtain ⟨p, ae, ce, av, cv, e, q1, q2, r1, r2, _, tk, _, _⟩ := rd_pkt hx
    exact ⟨⟨p, ae, ce, av, cv⟩, e, ⟨q1, q2, r1, r2, tk⟩⟩) h0
  have e0 := val_slice Try.sl22 (hval 0 22 v0 rfl rfl) ec
  unfold maxLen at hl2
  have hc := law_done (pbytesLaw_fn l (by omega) a l.length cap rfl) W ⟨hr, hok⟩
  rw [← e0] at hc
  refine hc.mono fun e W' ⟨he, hb⟩ => ?_
  subst he
  exact ⟨_, rfl, law_post hW' rfl (by kernel_rfl) Try.bool4 rfl Try.laidOut (by rw [Try.params3]; decide +kernel) hb⟩

theorem packetBytes_holds : Rows.PacketBytesSaid :=
  OpenClaim.holds_of_wide 3 Try.f3 rfl rfl rfl rfl rfl rfl rfl ⟨rfl, rfl, rfl, rfl, rfl⟩ rfl rfl rfl rfl rfl (by kernel_rfl) Try.func3 (by kernel_rfl)
    (of_decide_eq_true (by kernel_rfl)) (by unfold Func.isWrapper; first | (rw [if_pos (by decide +kernel)]; kernel_rfl) | (rw [if_neg (by decide +kernel)]; exact ⟨rfl, rfl⟩))
    (fun os started H enc _ => packetBytes_lifted os started H enc)
end Go.Proofs.Ytggmpaggmkfmoaa
