/- The library's table of white space, out of a row's condition; a world that meets the condition. -/
import Derived.Test.YtdmepoiijgejhaaDoorRows
import Derived.Test.YtdmepoiijgejhaaDoorTie
import Derived.Test.YtdmepoiijgejhaaDoorFin
import Derived.Test.YtdmepoiijgejhaaDoorK8
import Derived.LaidMore
import Derived.OpenShut
import Derived.Stop.Joined
import Derived.Lib.LaidTab
set_option maxRecDepth 100000
namespace Go.Proofs.YtdmepoiijgejhaaDoor
open Go Go.Eng Go.ChangeShapes Go.WideShapes Go.ChangeAt Go.RowKit

def laidL : List (String × DataW Unit) := [("unicode.White_Space", Rows.laid_unicode_White_Space), ("strings.asciiSpace", Rows.laid_strings_asciiSpace)]
theorem Tryd.own : ownKnob Tryd.prog.godebug = none := by kernel_rfl
theorem Tryd.laidOut : laidOutB Tryd.prog = true := by kernel_rfl
theorem g1T : Tryd.prog.globalNamed "strings.asciiSpace" = some 0 := by kernel_rfl
theorem ty1T : (Tryd.prog.globals[0]?).map (·.type) = some 117 := by kernel_rfl
theorem tabD : (Rows.laid_strings_asciiSpace : DataW Unit) = Lib.tabData .u8 Lib.asciiSpaceTab := by kernel_rfl
theorem tabC_is : tabC = Lib.asciiSpaceTab.map fun z => Value.int .u8 z := by kernel_rfl
theorem tab_of_laid {W : World} (h : laidMetH Tryd.prog laidL W) : Tab (hOf W) := by
  rw [MakeChecks.laidMetH_plain _ _ _ (by kernel_rfl)] at h
  obtain ⟨ps, ⟨g0, t0, cs0, f0, p0, q0, hg0, ht0, hv0, hd0, ⟨g1, t1, cs1, f1, p1, q1, hg1, ht1, hv1, hd1, _, _⟩, _⟩, _, _⟩ := h
  obtain rfl := Option.some.inj (g1T.symm.trans hg1)
  obtain rfl := Option.some.inj (ty1T.symm.trans ht1)
  rw [tabD] at hd1
  have hcs := Lib.cells_of_tab (n := 256) (e := 5) Tryd.underlying117 Tryd.underlying5 (by kernel_rfl) (by kernel_rfl) hd1
  intro k v hk
  have e : (⟨0, 0, none⟩ : Addr).add k = ⟨0, k, none⟩ := by unfold Addr.add; split <;> simp [*]
  refine ⟨_, rfl, ?_⟩
  rw [e, ← cell_hOf]
  have := World.var?_cell g1T hv1 k
  rw [this]
  rw [tabC_is, ← hcs] at hk
  simpa using hk
theorem door_met (os : Os) (args : Array Value) : laidMetH Tryd.prog laidL ((World.doorLaid Tryd.prog 400 os).forCall (fun _ _ => 0) ⟨#[], args, []⟩).memory :=
  laidMetH_of_parts3 (fuel := 8) (laidMet_of_run' 8 (by kernel_rfl) (by kernel_rfl)) (by kernel_rfl) (by kernel_rfl)
end Go.Proofs.YtdmepoiijgejhaaDoor
