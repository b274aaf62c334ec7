/-
  No cell of these rows narrows 'for every input' (looked for: loops, veiled, ifaces, maps, wideKeys, modest, calm, conditions, laid).
  DERIVED. THE GIVEN ROWS OF THIS SEAT. 4 by the template 'for every input the law returns true; each argument reads behind the call as it read before'; 0 by the template 'total and deterministic' (their statements: YtcbcjolpdljbiaaGreatTotals.lean).
  GIVEN WITH THE SEED: the statements are not yours to turn. If you find one false, say at which input.
  Laid BY PROGRAM, IN A SANDBOX (cutbox-rows.mjs): the forced cells as the released guide's own fill.sh prints them over the translation 315168c6d7173613… (all of the seat's roots in one cut). By AI agents, Wed Nov 11 2026. No macro, syntax, notation, axiom, sorry.
-/
import Derived.Test.YtcbcjolpdljbiaaGreatChecked
import GoSem.Claim
import GoSem.ClaimJoined
import GoSem.ClaimMapViews
import Derived.JoinedTies
import Derived.KernelRfl
namespace Go.Proofs.YtcbcjolpdljbiaaGreat
/- THE CELL 'sum', in the pinned program and in every row, IS THE sha256 OF THE DUMP (.gsa) THAT YtcbcjolpdljbiaaGreatProg.lean LOADS. Nothing in Lean hashes anything: it is a label: what it is worth is what the hold of that sum in a sandbox is worth. -/
noncomputable def Tryz.pinned : Pinned := { name := "ytcbcjolpdljbiaagreat", sum := "315168c6d7173613f9c112990b4ceed52f903c22ab2b17ba0ae2f95a0061c548", checked := Tryz.checked }
namespace Rows
def none {H : Type} : Left H := { results := [], args := [] }

/-- 'granarylaw10.StoreHits': WHATEVER THE INPUT: true; the input reads as it did. -/
def storeHitsSpec : ChangeSpec := { name := "storeHits", fn := fun _ => fun
  | [d] => { results := [.lit (.bool true)], args := [d] }
  | _ => none }
def storeHitsRow : OpenClaim := { program := "ytcbcjolpdljbiaagreat", sum := "315168c6d7173613f9c112990b4ceed52f903c22ab2b17ba0ae2f95a0061c548", func := "granary/granarylaw10.StoreHits", spec := "storeHits", unfollowed := true, recurses := true, apart := false }
def StoreHitsSaid : Prop := storeHitsRow.holds Tryz.pinned (OpenSpec.ofChange storeHitsSpec)

/-- ITS FALSE NEIGHBOUR: 'it returns false'. Refute it at one input. -/
def storeHitsWrong : ChangeSpec := { name := "storeHits", fn := fun _ => fun
  | [d] => { results := [.lit (.bool false)], args := [d] }
  | _ => none }
def StoreHitsWrongFalsely : Prop := storeHitsRow.holds Tryz.pinned (OpenSpec.ofChange storeHitsWrong)

/-- 'granarylaw10.StoreThaws': WHATEVER THE INPUT: true; the input reads as it did. -/
def storeThawsSpec : ChangeSpec := { name := "storeThaws", fn := fun _ => fun
  | [d] => { results := [.lit (.bool true)], args := [d] }
  | _ => none }
def storeThawsRow : OpenClaim := { program := "ytcbcjolpdljbiaagreat", sum := "315168c6d7173613f9c112990b4ceed52f903c22ab2b17ba0ae2f95a0061c548", func := "granary/granarylaw10.StoreThaws", spec := "storeThaws", unfollowed := true, recurses := true, apart := false }
def StoreThawsSaid : Prop := storeThawsRow.holds Tryz.pinned (OpenSpec.ofChange storeThawsSpec)

/-- ITS FALSE NEIGHBOUR: 'it returns false'. Refute it at one input. -/
def storeThawsWrong : ChangeSpec := { name := "storeThaws", fn := fun _ => fun
  | [d] => { results := [.lit (.bool false)], args := [d] }
  | _ => none }
def StoreThawsWrongFalsely : Prop := storeThawsRow.holds Tryz.pinned (OpenSpec.ofChange storeThawsWrong)

/-- 'granarylaw10.StoreRoom': WHATEVER THE INPUT: true; the input reads as it did. -/
def storeRoomSpec : ChangeSpec := { name := "storeRoom", fn := fun _ => fun
  | [d] => { results := [.lit (.bool true)], args := [d] }
  | _ => none }
def storeRoomRow : OpenClaim := { program := "ytcbcjolpdljbiaagreat", sum := "315168c6d7173613f9c112990b4ceed52f903c22ab2b17ba0ae2f95a0061c548", func := "granary/granarylaw10.StoreRoom", spec := "storeRoom", unfollowed := true, recurses := true, apart := false }
def StoreRoomSaid : Prop := storeRoomRow.holds Tryz.pinned (OpenSpec.ofChange storeRoomSpec)

/-- ITS FALSE NEIGHBOUR: 'it returns false'. Refute it at one input. -/
def storeRoomWrong : ChangeSpec := { name := "storeRoom", fn := fun _ => fun
  | [d] => { results := [.lit (.bool false)], args := [d] }
  | _ => none }
def StoreRoomWrongFalsely : Prop := storeRoomRow.holds Tryz.pinned (OpenSpec.ofChange storeRoomWrong)

/-- 'granarylaw10.StoreWhole': WHATEVER THE INPUT: true; the input reads as it did. -/
def storeWholeSpec : ChangeSpec := { name := "storeWhole", fn := fun _ => fun
  | [d] => { results := [.lit (.bool true)], args := [d] }
  | _ => none }
def storeWholeRow : OpenClaim := { program := "ytcbcjolpdljbiaagreat", sum := "315168c6d7173613f9c112990b4ceed52f903c22ab2b17ba0ae2f95a0061c548", func := "granary/granarylaw10.StoreWhole", spec := "storeWhole", unfollowed := true, recurses := true, apart := false }
def StoreWholeSaid : Prop := storeWholeRow.holds Tryz.pinned (OpenSpec.ofChange storeWholeSpec)

/-- ITS FALSE NEIGHBOUR: 'it returns false'. Refute it at one input. -/
def storeWholeWrong : ChangeSpec := { name := "storeWhole", fn := fun _ => fun
  | [d] => { results := [.lit (.bool false)], args := [d] }
  | _ => none }
def StoreWholeWrongFalsely : Prop := storeWholeRow.holds Tryz.pinned (OpenSpec.ofChange storeWholeWrong)

/- THE SECOND FORM. 'bulk': how many values and letters a reading holds, each counted each time it is reached (what is shared counts as often as it is met; a slice's spare places count too). A statement '..UptoSaid' is the law's where the arguments, and the package variables that the reading takes, are together of bulk at most 1048576: NARROWER than '..Said'. Prove '..Said' where nothing that the law and all that it calls make is longer than what came in: it says more and counts as full. Else prove '..UptoSaid'. A law counts once. -/
mutual
def uptoBulk {H : Type} : DataW H → Nat
  | .lit (.string bytes) => bytes.length + 1
  | .lit _ => 1
  | .nil => 1
  | .ptr d => uptoBulk d + 1
  | .slice elems spare => uptoBulkAll elems + uptoBulkAll spare + 1
  | .agg parts => uptoBulkAll parts + 1
  | .iface _ d => uptoBulk d + 1
  | .map entries => uptoBulkEntries entries + 1
  | .held _ => 1
def uptoBulkAll {H : Type} : List (DataW H) → Nat
  | [] => 0
  | d :: r => uptoBulk d + uptoBulkAll r
def uptoBulkEntries {H : Type} : List (Lit × DataW H) → Nat
  | [] => 0
  | x :: r => uptoBulkEntry x + uptoBulkEntries r
def uptoBulkEntry {H : Type} : Lit × DataW H → Nat
  | (.string bytes, d) => bytes.length + uptoBulk d + 1
  | (_, d) => uptoBulk d + 1
 end
def uptoSmall : (H : Type) → List (DataW H) → Bool := fun _ ds => decide (uptoBulkAll ds ≤ 1048576)
def OpenSpec.upto (s : _root_.Go.ChangeSpec) : _root_.Go.OpenSpec := { _root_.Go.OpenSpec.ofChange s with cond := some uptoSmall }

/-- 'granarylaw10.StoreHits', WHERE WHAT IT READS IS OF BULK AT MOST 1048576: true; the input reads as it did. -/
def storeHitsUptoRow : OpenClaim := { program := "ytcbcjolpdljbiaagreat", sum := "315168c6d7173613f9c112990b4ceed52f903c22ab2b17ba0ae2f95a0061c548", func := "granary/granarylaw10.StoreHits", spec := "storeHits", unfollowed := true, recurses := true, apart := false, narrowed := true }
def StoreHitsUptoSaid : Prop := storeHitsUptoRow.holds Tryz.pinned (OpenSpec.upto storeHitsSpec)

/-- 'granarylaw10.StoreThaws', WHERE WHAT IT READS IS OF BULK AT MOST 1048576: true; the input reads as it did. -/
def storeThawsUptoRow : OpenClaim := { program := "ytcbcjolpdljbiaagreat", sum := "315168c6d7173613f9c112990b4ceed52f903c22ab2b17ba0ae2f95a0061c548", func := "granary/granarylaw10.StoreThaws", spec := "storeThaws", unfollowed := true, recurses := true, apart := false, narrowed := true }
def StoreThawsUptoSaid : Prop := storeThawsUptoRow.holds Tryz.pinned (OpenSpec.upto storeThawsSpec)

/-- 'granarylaw10.StoreRoom', WHERE WHAT IT READS IS OF BULK AT MOST 1048576: true; the input reads as it did. -/
def storeRoomUptoRow : OpenClaim := { program := "ytcbcjolpdljbiaagreat", sum := "315168c6d7173613f9c112990b4ceed52f903c22ab2b17ba0ae2f95a0061c548", func := "granary/granarylaw10.StoreRoom", spec := "storeRoom", unfollowed := true, recurses := true, apart := false, narrowed := true }
def StoreRoomUptoSaid : Prop := storeRoomUptoRow.holds Tryz.pinned (OpenSpec.upto storeRoomSpec)

/-- 'granarylaw10.StoreWhole', WHERE WHAT IT READS IS OF BULK AT MOST 1048576: true; the input reads as it did. -/
def storeWholeUptoRow : OpenClaim := { program := "ytcbcjolpdljbiaagreat", sum := "315168c6d7173613f9c112990b4ceed52f903c22ab2b17ba0ae2f95a0061c548", func := "granary/granarylaw10.StoreWhole", spec := "storeWhole", unfollowed := true, recurses := true, apart := false, narrowed := true }
def StoreWholeUptoSaid : Prop := storeWholeUptoRow.holds Tryz.pinned (OpenSpec.upto storeWholeSpec)

end Rows
end Go.Proofs.YtcbcjolpdljbiaaGreat
