/-
  DERIVED. GIVEN WITH THE SEED: THE CARDS: each row of YtdolmecackmjdaaGreatDoorRows.lean that lists a variable, with what it lists TIED to the program's text (the seventh form; the later family's looks); each row that meets fmt, with fmt's text TOLD by the authors' own Lean function (tested against real Go, not proved from fmt's source: count such statements apart). THE CARD IS WHAT COUNTS. Prove the row's statement (the work); the ties are given (YtdolmecackmjdaaGreatDoorTie.lean); close each card by the builder's one call (the guide's Derived/Test/ToyasCard.lean, 'card_holds'). Laid BY PROGRAM, IN A SANDBOX (cutbox-door.mjs). By AI agents, Wed Nov 11 2026. No macro, syntax, notation, axiom, sorry.
-/
import Derived.Test.YtdolmecackmjdaaGreatDoorRows
import GoSem.ClaimSeven
namespace Go.Proofs.YtdolmecackmjdaaGreatDoor
namespace Rows

/-- THE TIED CARD OF 'granarylaw10.StoreNew'. -/
def storeNewCard : Claim7 := { stood := { row := storeNewRow, standIns := [], harness := (true, "5fcfe62cc8a79069df4c0977916c112b45882a772eafe8b9eb9f35a5a7ef5a57"), looks := true }, kinds := [], alts := [], laidByText := true, laidKinds := [.data], laidTests := true, laidLooks := .later }
def StoreNewCardSaid : Prop := Claim7.holds Tryz.pinned (.plain (OpenSpec.ofChange storeNewSpec)) storeNewCard

/-- THE TIED CARD OF 'granarylaw10.StoreMap'. -/
def storeMapCard : Claim7 := { stood := { row := storeMapRow, standIns := [], harness := (true, "5fcfe62cc8a79069df4c0977916c112b45882a772eafe8b9eb9f35a5a7ef5a57"), looks := true }, kinds := [], alts := [], laidByText := true, laidKinds := [.data], laidTests := true, laidLooks := .later }
def StoreMapCardSaid : Prop := Claim7.holds Tryz.pinned (.plain (OpenSpec.ofChange storeMapSpec)) storeMapCard

/-- THE TIED CARD OF 'granarylaw10.StorePace'. -/
def storePaceCard : Claim7 := { stood := { row := storePaceRow, standIns := [], harness := (true, "5fcfe62cc8a79069df4c0977916c112b45882a772eafe8b9eb9f35a5a7ef5a57"), looks := true }, kinds := [], alts := [], laidByText := true, laidKinds := [.data], laidTests := true, laidLooks := .later }
def StorePaceCardSaid : Prop := Claim7.holds Tryz.pinned (.plain (OpenSpec.ofChange storePaceSpec)) storePaceCard

/-- THE SECOND FORM's CARD OF 'granarylaw10.StoreNew'. -/
def storeNewUptoCard : Claim7 := { stood := { row := storeNewUptoRow, standIns := [], harness := (true, "5fcfe62cc8a79069df4c0977916c112b45882a772eafe8b9eb9f35a5a7ef5a57"), looks := true }, kinds := [], alts := [], laidByText := true, laidKinds := [.data], laidTests := true, laidLooks := .later }
def StoreNewUptoCardSaid : Prop := Claim7.holds Tryz.pinned (.plain (OpenSpec.upto storeNewSpec)) storeNewUptoCard

/-- THE SECOND FORM's CARD OF 'granarylaw10.StoreMap'. -/
def storeMapUptoCard : Claim7 := { stood := { row := storeMapUptoRow, standIns := [], harness := (true, "5fcfe62cc8a79069df4c0977916c112b45882a772eafe8b9eb9f35a5a7ef5a57"), looks := true }, kinds := [], alts := [], laidByText := true, laidKinds := [.data], laidTests := true, laidLooks := .later }
def StoreMapUptoCardSaid : Prop := Claim7.holds Tryz.pinned (.plain (OpenSpec.upto storeMapSpec)) storeMapUptoCard

/-- THE SECOND FORM's CARD OF 'granarylaw10.StorePace'. -/
def storePaceUptoCard : Claim7 := { stood := { row := storePaceUptoRow, standIns := [], harness := (true, "5fcfe62cc8a79069df4c0977916c112b45882a772eafe8b9eb9f35a5a7ef5a57"), looks := true }, kinds := [], alts := [], laidByText := true, laidKinds := [.data], laidTests := true, laidLooks := .later }
def StorePaceUptoCardSaid : Prop := Claim7.holds Tryz.pinned (.plain (OpenSpec.upto storePaceSpec)) storePaceUptoCard
end Rows
end Go.Proofs.YtdolmecackmjdaaGreatDoor
