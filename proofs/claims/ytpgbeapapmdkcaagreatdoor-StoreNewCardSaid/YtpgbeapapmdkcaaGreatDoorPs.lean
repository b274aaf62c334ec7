/- StoreNew: New and Paced take just what the document takes and refuse all else with its error, and twelve stores know nothing of each other: the call returns true for every configuration and pace. No condition. -/
import Derived.Test.YtpgbeapapmdkcaaGreatDoorPp
import Derived.Test.YtpgbeapapmdkcaaGreatDoorPr
import Derived.SevenTiedAt
import Derived.Test.YtpgbeapapmdkcaaGreatDoorCards
set_option maxRecDepth 100000
namespace Go.Proofs.YtpgbeapapmdkcaaGreatDoor
open Go Go.cQ Go.ChangeShapes Go.WideShapes Go.ChangeAt Go.RowKit
theorem qU (os : Os) (started : os.Started) (H : Type) (enc : TypeId × Value → H) :
  ReturnsInHanded {} Tryz.checked os 3 .any (fun w args => (Rows.storeNewSpec.pre enc Tryz.prog Tryz.f3 [] false w args ∧ laidMetH Tryz.prog yj w) ∧ sizedMet enc Tryz.prog Tryz.f3 (OpenSpec.ofChange Rows.storeNewSpec) false w args)
   (Rows.storeNewSpec.post enc Tryz.prog Tryz.f3 false true false false) := by
 refine returnsInHanded_of_change_and (C := Tryz.checked) (X := fun w _ => laidMetH Tryz.prog yj w) (fun _ _ _ hh h => h.of_heap hh) Tryz.own started (by kernel_rfl) Tryz.func3
  (ChangeSpec.witness_shaped (enc := enc) (C := Tryz.checked) (os := os) (X := fun w _ => laidMetH Tryz.prog yj w) false (World.doorLaid Tryz.prog 400 os) #[.agg #[.int .i64 0, .int .i64 0, .int .i64 0, .int .i64 0, .int .i64 0, .int .i64 0, .int .i64 0], .agg #[.int .i64 0, .int .i64 0, .int .i64 0, .int .i64 0]] 8 rfl (World.shaped_of_RefB (by kernel_rfl) (by kernel_rfl)) (by kernel_rfl) (by kernel_rfl) (by kernel_rfl) (Mu os _)) ?_
 intro W base args ds gs before Zg hW _ _ hL _
 have HM : ∀ (j : Nat) t v, Tryz.f3.params[j]? = some t → args[j]? = some v → Value.okWide Tryz.prog W .any base t v := Zg
 have hW' := hW
 obtain ⟨p, q, hA0, hV, rfl, hfz, uB⟩ := hW
 have hA : DataW.TrodAll enc Tryz.prog W 0 (fun _ => true) true Tryz.f3.params.toList args.toList ds p := hA0
 rw [Tryz.params3] at hA HM
 obtain ⟨v0, vs1, d0, ds1, p0, q0, ea, rfl, rfl, ⟨_, h0⟩, hA⟩ := trodAll_cons hA
 obtain ⟨v1, vs2, d1, ds2, p1, q1, rfl, rfl, rfl, ⟨_, h1⟩, hA⟩ := trodAll_cons hA
 obtain ⟨rfl, rfl, rfl⟩ := trodAll_nil hA
 obtain rfl : args = #[v0, v1] := Array.toList_inj.1 ea
 obtain ⟨rfl, rfl⟩ := trodVars_none hV
 have w0 := yx Yi (HM 0 23 v0 rfl rfl)
 have w1 := yx Yh (HM 1 25 v1 rfl rfl)
 obtain ⟨c, e0⟩ := Us h0
 obtain ⟨k, e1⟩ := OG h1
 rw [e0] at w0
 rw [e1] at w1
 have hc := LD (zr c k) W (uw hL)
 rw [← w0, ← w1] at hc
 refine hc.mono fun e W' ⟨he, hb⟩ => ?_
 subst he
 exact ⟨_, rfl, LC hW' rfl (by kernel_rfl) Tryz.underlying4 rfl Tryz.laidOut (by rw [Tryz.params3]; decide +kernel) hb⟩
theorem xr : Rows.StoreNewSaid :=
 OpenClaim.holds_of_wide 3 Tryz.f3 rfl rfl rfl rfl rfl rfl rfl ⟨rfl, rfl, rfl, rfl, rfl⟩ rfl rfl rfl rfl rfl (by kernel_rfl) Tryz.func3 (by kernel_rfl)
  (of_decide_eq_true (by kernel_rfl)) (by unfold Func.isWrapper; first | (rw [if_pos (by decide +kernel)]; kernel_rfl) | (rw [if_neg (by decide +kernel)]; exact ⟨rfl, rfl⟩))
  (fun os started H enc _ => qU os started H enc)
theorem storeNew_holds : Rows.StoreNewCardSaid :=
 Claim7.holds_tied_plain_at .later [] [.data] true (true, "5fcfe62cc8a79069df4c0977916c112b45882a772eafe8b9eb9f35a5a7ef5a57") true
  xr (fun _ h => by cases h) (by kernel_rfl) (fun _ h => by cases h) storeNew_row_tie rfl ⟨rfl, rfl⟩ (by kernel_rfl) rfl
  (fun f fn hf jw => by
   obtain rfl : f = 3 := Option.some.inj ((show Tryz.prog.funcNamed "granary/granarylaw10.StoreNew" = some 3 by kernel_rfl).symm.trans hf) |>.symm
   obtain rfl : fn = Tryz.f3 := (Option.some.inj (Tryz.func3.symm.trans jw)).symm
   exact ⟨by kernel_rfl, fun j t ht => by
    rw [Tryz.params3] at ht
    have hm : t ∈ [23, 25] := by simpa using Array.mem_of_getElem? ht
    have oz : ([23, 25].all fun u => !Tryz.prog.wantsStandIn u) = true := by kernel_rfl
    exact (show Tryz.prog.wantsStandIn t = false by simpa using List.all_eq_true.1 oz t hm)⟩)
  (by kernel_rfl)
end Go.Proofs.YtpgbeapapmdkcaaGreatDoor
