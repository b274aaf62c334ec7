/- CountTop: a number is the sum of what was added since it was laid, and stands still at the greatest; Reset leaves three: the call returns true for every input. No condition. -/
import Derived.Test.YtdmepoiijgejhaaDoorTab
import Derived.Test.YtdmepoiijgejhaaDoorOpn
import Derived.Test.YtdmepoiijgejhaaDoorK13
import Derived.Test.YtdmepoiijgejhaaDoorCards
import Derived.SevenTiedAt
set_option maxRecDepth 100000
namespace Go.Proofs.YtdmepoiijgejhaaDoor
open Go Go.Eng Go.ChangeShapes Go.WideShapes Go.ChangeAt Go.RowKit

theorem countTop_lifted (os : Os) (started : os.Started) (H : Type) (enc : TypeId × Value → H) :
    ReturnsInHanded {} Tryd.checked os 9 .any (fun w args => (Rows.countTopSpec.pre enc Tryd.prog Tryd.f9 [] false w args ∧ laidMetH Tryd.prog laidL w) ∧ sizedMet enc Tryd.prog Tryd.f9 (OpenSpec.ofChange Rows.countTopSpec) false w args)
      (Rows.countTopSpec.post enc Tryd.prog Tryd.f9 false true false false) := by
  refine returnsInHanded_of_change_and (C := Tryd.checked) (X := fun w _ => laidMetH Tryd.prog laidL w) (fun _ _ _ hh h => h.of_heap hh) Tryd.own started (by kernel_rfl) Tryd.func9
    (ChangeSpec.witness_shaped (enc := enc) (C := Tryd.checked) (os := os) (X := fun w _ => laidMetH Tryd.prog laidL w) false (World.doorLaid Tryd.prog 400 os) #[.int .i64 0, .int .u64 0, .slice none 0 0] 8 rfl (World.shaped_of_RefB (by kernel_rfl) (by kernel_rfl)) (by kernel_rfl) (by kernel_rfl) (by kernel_rfl) (door_met os _)) ?_
  intro W base args ds gs before hval0 hW _ _ hL _
  have hval : ∀ (j : Nat) t v, Tryd.f9.params[j]? = some t → args[j]? = some v → Value.okWide Tryd.prog W .any base t v := hval0
  have hW' := hW
  obtain ⟨p, q, hA0, hV, rfl, hfz, hnd⟩ := hW
  have hA : DataW.TrodAll enc Tryd.prog W 0 (fun _ => true) true Tryd.f9.params.toList args.toList ds p := hA0
  rw [Tryd.params9] at hA hval
  obtain ⟨v0, vs1, d0, ds1, p0, q0, ea, rfl, rfl, ⟨_, h0⟩, hA⟩ := trodAll_cons hA
  obtain ⟨v1, vs2, d1, ds2, p1, q1, rfl, rfl, rfl, ⟨_, h1⟩, hA⟩ := trodAll_cons hA
  obtain ⟨v2, vs3, d2, ds3, p2, q2, rfl, rfl, rfl, ⟨_, h2⟩, hA⟩ := trodAll_cons hA
  obtain ⟨rfl, rfl, rfl⟩ := trodAll_nil hA
  obtain rfl : args = #[v0, v1, v2] := Array.toList_inj.1 ea
  obtain ⟨rfl, rfl⟩ := trodVars_none hV
  obtain ⟨z, e0, hz1, hz2⟩ := rd_int Tryd.underlying3 h0
  obtain ⟨f, e1, hf1, hf2⟩ := rd_int Tryd.underlying30 h1
  obtain ⟨a, cap, l, e2, hl1, hl2, hr, hl3⟩ := rd_ints Tryd.underlying76 Tryd.underlying30 (by kernel_rfl) h2
  have w0 := val_int Tryd.underlying3 (hval 0 3 v0 rfl rfl) e0
  have w1 := val_int Tryd.underlying30 (hval 1 30 v1 rfl rfl) e1
  have w2 := val_slice Tryd.underlying76 (hval 2 76 v2 rfl rfl) e2
  have m1 : IntKind.i64.min = -9223372036854775808 := by rfl
  have m2 : IntKind.i64.max = 9223372036854775807 := by rfl
  have m3 : IntKind.u64.min = 0 := by rfl
  have m4 : IntKind.u64.max = 18446744073709551615 := by rfl
  rw [m1] at hz1; rw [m2] at hz2; rw [m3] at hf1; rw [m4] at hf2
  obtain ⟨k, rfl⟩ : ∃ k : Nat, f = (k : Int) := ⟨f.toNat, by omega⟩
  have hu : (l.map fun n => Value.int .u64 n) = ucells (l.map Int.toNat) := by
    unfold ucells
    rw [List.map_map]
    refine List.map_congr_left fun n hn => ?_
    have := (hl3 n hn).1
    rw [m3] at this
    exact congrArg (Value.int .u64) (Int.toNat_of_nonneg this).symm
  rw [hu] at hr
  unfold maxLen at hl2
  have hc := law_done (topLaw_fn z hz1 hz2 k (by omega) (l.map Int.toNat) (fun n hn => by
    obtain ⟨y, hy, rfl⟩ := List.mem_map.1 hn
    have := (hl3 y hy).2
    rw [m4] at this
    omega) (by rw [List.length_map]; omega) a l.length cap (by rw [List.length_map])) W ⟨tab_of_laid hL, hr⟩
  rw [← w0, ← w1, ← w2] at hc
  refine hc.mono fun e W' ⟨he, hb⟩ => ?_
  subst he
  exact ⟨_, rfl, law_post hW' rfl (by kernel_rfl) Tryd.underlying4 rfl Tryd.laidOut (by rw [Tryd.params9]; decide +kernel) hb⟩

theorem countTop_row : Rows.CountTopSaid :=
  OpenClaim.holds_of_wide 9 Tryd.f9 rfl rfl rfl rfl rfl rfl rfl ⟨rfl, rfl, rfl, rfl, rfl⟩ rfl rfl rfl rfl rfl (by kernel_rfl) Tryd.func9 (by kernel_rfl)
    (of_decide_eq_true (by kernel_rfl)) (by unfold Func.isWrapper; first | (rw [if_pos (by decide +kernel)]; kernel_rfl) | (rw [if_neg (by decide +kernel)]; exact ⟨rfl, rfl⟩))
    (fun os started H enc _ => countTop_lifted os started H enc)
theorem countTop_holds : Rows.CountTopCardSaid :=
  Claim7.holds_tied_plain_at .later [] [.listed, .data] true (true, "d80e222066e782261a7199b2540d60c438a63d24ff47e5c61f9e741a4c6c4625") false
    countTop_row (fun _ h => by cases h) (by kernel_rfl) (fun _ h => by cases h) countTop_row_tie rfl ⟨rfl, rfl⟩ (by kernel_rfl) rfl
    (fun f fn hf hfn => by
      obtain rfl : f = 9 := Option.some.inj ((show Tryd.prog.funcNamed "granary/granarylaw15.CountTop" = some 9 by kernel_rfl).symm.trans hf) |>.symm
      obtain rfl : fn = Tryd.f9 := (Option.some.inj (Tryd.func9.symm.trans hfn)).symm
      exact ⟨by kernel_rfl, fun j t ht => by
        rw [Tryd.params9] at ht
        have hm : t ∈ [3, 30, 76] := by simpa using Array.mem_of_getElem? ht
        have hall : ([3, 30, 76].all fun u => !Tryd.prog.wantsStandIn u) = true := by kernel_rfl
        exact (show Tryd.prog.wantsStandIn t = false by simpa using List.all_eq_true.1 hall t hm)⟩)
    (by kernel_rfl)
end Go.Proofs.YtdmepoiijgejhaaDoor
