/-
  DERIVED. GIVEN WITH THE SEED: THE CARDS: each row of YtdmepoiijgejhaaDoorRows.lean that lists a variable, with what it lists TIED to the program's text (the seventh form; the later family's looks); each row that meets fmt, with fmt's text TOLD by the authors' own Lean function (tested against real Go, not proved from fmt's source: count such statements apart). THE CARD IS WHAT COUNTS. Prove the row's statement (the work); the ties are given (YtdmepoiijgejhaaDoorTie.lean); close each card by the builder's one call (the guide's Derived/Test/ToyasCard.lean, 'card_holds'). Laid BY PROGRAM, IN A SANDBOX (cutbox-door.mjs). By AI agents, Wed Nov 11 2026. No macro, syntax, notation, axiom, sorry.
-/
import Derived.Test.YtdmepoiijgejhaaDoorRows
import GoSem.ClaimSeven
namespace Go.Proofs.YtdmepoiijgejhaaDoor
namespace Rows

/-- THE TIED CARD OF 'granarylaw15.CountTable'. -/
def countTableCard : Claim7 := { stood := { row := countTableRow, standIns := [], harness := (true, "d80e222066e782261a7199b2540d60c438a63d24ff47e5c61f9e741a4c6c4625"), looks := false }, kinds := [], alts := [], laidByText := true, laidKinds := [.listed, .data], laidTests := true, laidLooks := .later }
def CountTableCardSaid : Prop := Claim7.holds Tryd.pinned (.plain (OpenSpec.ofChange countTableSpec)) countTableCard

/-- THE TIED CARD OF 'granarylaw15.CountSplits'. -/
def countSplitsCard : Claim7 := { stood := { row := countSplitsRow, standIns := [], harness := (true, "d80e222066e782261a7199b2540d60c438a63d24ff47e5c61f9e741a4c6c4625"), looks := false }, kinds := [], alts := [], laidByText := true, laidKinds := [.listed, .data], laidTests := true, laidLooks := .later }
def CountSplitsCardSaid : Prop := Claim7.holds Tryd.pinned (.plain (OpenSpec.ofChange countSplitsSpec)) countSplitsCard

/-- THE TIED CARD OF 'granarylaw15.CountNames'. -/
def countNamesCard : Claim7 := { stood := { row := countNamesRow, standIns := [], harness := (true, "d80e222066e782261a7199b2540d60c438a63d24ff47e5c61f9e741a4c6c4625"), looks := false }, kinds := [], alts := [], laidByText := true, laidKinds := [.listed, .data], laidTests := true, laidLooks := .later }
def CountNamesCardSaid : Prop := Claim7.holds Tryd.pinned (.plain (OpenSpec.ofChange countNamesSpec)) countNamesCard

/-- THE TIED CARD OF 'granarylaw15.CountOwn'. -/
def countOwnCard : Claim7 := { stood := { row := countOwnRow, standIns := [], harness := (true, "d80e222066e782261a7199b2540d60c438a63d24ff47e5c61f9e741a4c6c4625"), looks := false }, kinds := [], alts := [], laidByText := true, laidKinds := [.listed, .data], laidTests := true, laidLooks := .later }
def CountOwnCardSaid : Prop := Claim7.holds Tryd.pinned (.plain (OpenSpec.ofChange countOwnSpec)) countOwnCard

/-- THE TIED CARD OF 'granarylaw15.CountOrder'. -/
def countOrderCard : Claim7 := { stood := { row := countOrderRow, standIns := [], harness := (true, "d80e222066e782261a7199b2540d60c438a63d24ff47e5c61f9e741a4c6c4625"), looks := false }, kinds := [], alts := [], laidByText := true, laidKinds := [.listed, .data], laidTests := true, laidLooks := .later }
def CountOrderCardSaid : Prop := Claim7.holds Tryd.pinned (.plain (OpenSpec.ofChange countOrderSpec)) countOrderCard

/-- THE TIED CARD OF 'granarylaw15.CountExact'. -/
def countExactCard : Claim7 := { stood := { row := countExactRow, standIns := [], harness := (true, "d80e222066e782261a7199b2540d60c438a63d24ff47e5c61f9e741a4c6c4625"), looks := false }, kinds := [], alts := [], laidByText := true, laidKinds := [.listed, .data], laidTests := true, laidLooks := .later }
def CountExactCardSaid : Prop := Claim7.holds Tryd.pinned (.plain (OpenSpec.ofChange countExactSpec)) countExactCard

/-- THE TIED CARD OF 'granarylaw15.CountTop'. -/
def countTopCard : Claim7 := { stood := { row := countTopRow, standIns := [], harness := (true, "d80e222066e782261a7199b2540d60c438a63d24ff47e5c61f9e741a4c6c4625"), looks := false }, kinds := [], alts := [], laidByText := true, laidKinds := [.listed, .data], laidTests := true, laidLooks := .later }
def CountTopCardSaid : Prop := Claim7.holds Tryd.pinned (.plain (OpenSpec.ofChange countTopSpec)) countTopCard

/-- THE SECOND FORM's CARD OF 'granarylaw15.CountTable'. -/
def countTableUptoCard : Claim7 := { stood := { row := countTableUptoRow, standIns := [], harness := (true, "d80e222066e782261a7199b2540d60c438a63d24ff47e5c61f9e741a4c6c4625"), looks := false }, kinds := [], alts := [], laidByText := true, laidKinds := [.listed, .data], laidTests := true, laidLooks := .later }
def CountTableUptoCardSaid : Prop := Claim7.holds Tryd.pinned (.plain (OpenSpec.upto countTableSpec)) countTableUptoCard

/-- THE SECOND FORM's CARD OF 'granarylaw15.CountSplits'. -/
def countSplitsUptoCard : Claim7 := { stood := { row := countSplitsUptoRow, standIns := [], harness := (true, "d80e222066e782261a7199b2540d60c438a63d24ff47e5c61f9e741a4c6c4625"), looks := false }, kinds := [], alts := [], laidByText := true, laidKinds := [.listed, .data], laidTests := true, laidLooks := .later }
def CountSplitsUptoCardSaid : Prop := Claim7.holds Tryd.pinned (.plain (OpenSpec.upto countSplitsSpec)) countSplitsUptoCard

/-- THE SECOND FORM's CARD OF 'granarylaw15.CountNames'. -/
def countNamesUptoCard : Claim7 := { stood := { row := countNamesUptoRow, standIns := [], harness := (true, "d80e222066e782261a7199b2540d60c438a63d24ff47e5c61f9e741a4c6c4625"), looks := false }, kinds := [], alts := [], laidByText := true, laidKinds := [.listed, .data], laidTests := true, laidLooks := .later }
def CountNamesUptoCardSaid : Prop := Claim7.holds Tryd.pinned (.plain (OpenSpec.upto countNamesSpec)) countNamesUptoCard

/-- THE SECOND FORM's CARD OF 'granarylaw15.CountOwn'. -/
def countOwnUptoCard : Claim7 := { stood := { row := countOwnUptoRow, standIns := [], harness := (true, "d80e222066e782261a7199b2540d60c438a63d24ff47e5c61f9e741a4c6c4625"), looks := false }, kinds := [], alts := [], laidByText := true, laidKinds := [.listed, .data], laidTests := true, laidLooks := .later }
def CountOwnUptoCardSaid : Prop := Claim7.holds Tryd.pinned (.plain (OpenSpec.upto countOwnSpec)) countOwnUptoCard

/-- THE SECOND FORM's CARD OF 'granarylaw15.CountOrder'. -/
def countOrderUptoCard : Claim7 := { stood := { row := countOrderUptoRow, standIns := [], harness := (true, "d80e222066e782261a7199b2540d60c438a63d24ff47e5c61f9e741a4c6c4625"), looks := false }, kinds := [], alts := [], laidByText := true, laidKinds := [.listed, .data], laidTests := true, laidLooks := .later }
def CountOrderUptoCardSaid : Prop := Claim7.holds Tryd.pinned (.plain (OpenSpec.upto countOrderSpec)) countOrderUptoCard

/-- THE SECOND FORM's CARD OF 'granarylaw15.CountExact'. -/
def countExactUptoCard : Claim7 := { stood := { row := countExactUptoRow, standIns := [], harness := (true, "d80e222066e782261a7199b2540d60c438a63d24ff47e5c61f9e741a4c6c4625"), looks := false }, kinds := [], alts := [], laidByText := true, laidKinds := [.listed, .data], laidTests := true, laidLooks := .later }
def CountExactUptoCardSaid : Prop := Claim7.holds Tryd.pinned (.plain (OpenSpec.upto countExactSpec)) countExactUptoCard

/-- THE SECOND FORM's CARD OF 'granarylaw15.CountTop'. -/
def countTopUptoCard : Claim7 := { stood := { row := countTopUptoRow, standIns := [], harness := (true, "d80e222066e782261a7199b2540d60c438a63d24ff47e5c61f9e741a4c6c4625"), looks := false }, kinds := [], alts := [], laidByText := true, laidKinds := [.listed, .data], laidTests := true, laidLooks := .later }
def CountTopUptoCardSaid : Prop := Claim7.holds Tryd.pinned (.plain (OpenSpec.upto countTopSpec)) countTopUptoCard
end Rows
end Go.Proofs.YtdmepoiijgejhaaDoor
