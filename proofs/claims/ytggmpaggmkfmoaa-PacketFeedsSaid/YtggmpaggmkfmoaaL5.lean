/- PacketFeeds: of any limit and any chunks: a Feeder tells what the document's Feeder tells, holds and has taken what it holds and has taken; what is told is the caller's own: the call returns true for every input. No condition. -/
import Derived.Test.YtggmpaggmkfmoaaRow
import Derived.Test.YtggmpaggmkfmoaaD19
set_option maxRecDepth 100000
namespace Go.Proofs.Ytggmpaggmkfmoaa
open Go Go.Eng Go.ChangeShapes Go.WideShapes Go.ChangeAt Go.RowKit

theorem packetFeeds_lifted (os : Os) (started : os.Started) (H : Type) (enc : TypeId × Value → H) :
    ReturnsInHanded {} Try.checked os 5 .any (Rows.packetFeedsSpec.pre6 enc Try.prog Try.f5 Rows.packetFeedsRow.domain false) (Rows.packetFeedsSpec.post enc Try.prog Try.f5 false true false false) := by
  refine returnsInHanded_of_change (C := Try.checked) Try.own started (by kernel_rfl) Try.func5
    (ChangeSpec.witness6 (enc := enc) (C := Try.checked) false ⟨#[], #[.int .i64 0, .slice none 0 0], []⟩ 12 (by kernel_rfl) (by kernel_rfl) (by kernel_rfl) (by kernel_rfl)) ?_
  intro W base args ds gs before hval0 hW hcnd _
  have hval : ∀ (j : Nat) t v, Try.f5.params[j]? = some t → args[j]? = some v → Value.okWide Try.prog W .any base t v := hval0
  have hW' := hW
  obtain ⟨p, q, hA0, hV, rfl, hfz, hnd⟩ := hW
  have hA : DataW.TrodAll enc Try.prog W 0 (fun _ => true) true Try.f5.params.toList args.toList ds p := hA0
  rw [Try.params5] at hA hval
  obtain ⟨v0, v1, d0, d1, p0, p1, rfl, rfl, rfl, h0, h1⟩ := trodAll_two hA
  obtain ⟨rfl, rfl⟩ := trodVars_none hV
  obtain ⟨_, h0⟩ := h0
  obtain ⟨_, h1⟩ := h1
  obtain ⟨z, ez, hz1, hz2⟩ := rd_int T.u_3 h0
  obtain ⟨a, c, l, ec, hl1, hl2, hr, hok⟩ := rd_slice (en := fun x : Ch => [.slice x.a x.b.length x.c]) (Q := fun x => Rdl (hOf W) x.a (bcells x.b) ∧ x.b.length ≤ x.c) Try.sl24 (by rw [Try.ce37]; omega) (fun _ _ _ hx => by
    obtain ⟨a, c, l, ec, hr, _, r1⟩ := rd_bytes Try.sl37 T.u_5 Try.ce5 hx
    exact ⟨⟨l, a, c⟩, ec, r1, hr⟩) h1
  have hfm : (l.flatMap fun x : Ch => [Value.slice x.a x.b.length x.c]) = chCells l := by
    clear hl1 hl2 hr hok ec
    induction l with
    | nil => rfl
    | cons y r ih => rw [List.flatMap_cons, ih]; rfl
  rw [hfm] at hr
  have e0 := val_int T.u_3 (hval 0 3 v0 rfl rfl) ez
  have e1 := val_slice Try.sl24 (hval 1 24 v1 rfl rfl) ec
  have hc := law_done (feedsLaw_fn l a c z hz1 hz2) W ⟨hr, fun x hx => (hok x hx).1, fun x hx => (hok x hx).2⟩
  rw [← e0, ← e1] at hc
  refine hc.mono fun e W' ⟨he, hb⟩ => ?_
  subst he
  exact ⟨_, rfl, law_post hW' rfl (by kernel_rfl) Try.bool4 rfl Try.laidOut (by rw [Try.params5]; decide +kernel) hb⟩

theorem packetFeeds_holds : Rows.PacketFeedsSaid :=
  OpenClaim.holds_of_wide 5 Try.f5 rfl rfl rfl rfl rfl rfl rfl ⟨rfl, rfl, rfl, rfl, rfl⟩ rfl rfl rfl rfl rfl (by kernel_rfl) Try.func5 (by kernel_rfl)
    (of_decide_eq_true (by kernel_rfl)) (by unfold Func.isWrapper; first | (rw [if_pos (by decide +kernel)]; kernel_rfl) | (rw [if_neg (by decide +kernel)]; exact ⟨rfl, rfl⟩))
    (fun os started H enc _ => packetFeeds_lifted os started H enc)
end Go.Proofs.Ytggmpaggmkfmoaa
