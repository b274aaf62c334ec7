/-
  No cell of these rows narrows 'for every input' (looked for: loops, veiled, ifaces, maps, wideKeys, modest, calm, conditions, laid).
  DERIVED. THE GIVEN ROWS OF THIS SEAT. 10 by the template 'for every input the law returns true; each argument reads behind the call as it read before'; 0 by the template 'total and deterministic' (their statements: YtggmpaggmkfmoaaTotals.lean).
  GIVEN WITH THE SEED: the statements are not yours to turn. If you find one false, say at which input.
  Laid BY PROGRAM, IN A SANDBOX (cutbox-rows.mjs): the forced cells as the released guide's own fill.sh prints them over the translation 104492174c1486fb… (all of the seat's roots in one cut). By AI agents, Wed Nov 11 2026. No macro, syntax, notation, axiom, sorry.
-/
import Derived.Test.YtggmpaggmkfmoaaChecked
import GoSem.Claim
import GoSem.ClaimJoined
import GoSem.ClaimMapViews
import Derived.JoinedTies
import Derived.KernelRfl
namespace Go.Proofs.Ytggmpaggmkfmoaa
/- THE CELL 'sum', in the pinned program and in every row, IS THE sha256 OF THE DUMP (.gsa) THAT YtggmpaggmkfmoaaProg.lean LOADS. Nothing in Lean hashes anything: it is a label: what it is worth is what the hold of that sum in a sandbox is worth. -/
noncomputable def Try.pinned : Pinned := { name := "ytggmpaggmkfmoaa", sum := "104492174c1486fb91b1a2785edd2e068b3d3624ceb015b68a88ef4081cb4864", checked := Try.checked }
namespace Rows
def none {H : Type} : Left H := { results := [], args := [] }

/-- 'granarylaw22.PacketBytes': WHATEVER THE INPUT: true; the input reads as it did. -/
def packetBytesSpec : ChangeSpec := { name := "packetBytes", fn := fun _ => fun
  | [d] => { results := [.lit (.bool true)], args := [d] }
  | _ => none }
def packetBytesRow : OpenClaim := { program := "ytggmpaggmkfmoaa", sum := "104492174c1486fb91b1a2785edd2e068b3d3624ceb015b68a88ef4081cb4864", func := "granary/granarylaw22.PacketBytes", spec := "packetBytes", recurses := true, apart := false }
def PacketBytesSaid : Prop := packetBytesRow.holds Try.pinned (OpenSpec.ofChange packetBytesSpec)

/-- ITS FALSE NEIGHBOUR: 'it returns false'. Refute it at one input. -/
def packetBytesWrong : ChangeSpec := { name := "packetBytes", fn := fun _ => fun
  | [d] => { results := [.lit (.bool false)], args := [d] }
  | _ => none }
def PacketBytesWrongFalsely : Prop := packetBytesRow.holds Try.pinned (OpenSpec.ofChange packetBytesWrong)

/-- 'granarylaw22.PacketReads': WHATEVER THE INPUT: true; the input reads as it did. -/
def packetReadsSpec : ChangeSpec := { name := "packetReads", fn := fun _ => fun
  | [d1, d2] => { results := [.lit (.bool true)], args := [d1, d2] }
  | _ => none }
def packetReadsRow : OpenClaim := { program := "ytggmpaggmkfmoaa", sum := "104492174c1486fb91b1a2785edd2e068b3d3624ceb015b68a88ef4081cb4864", func := "granary/granarylaw22.PacketReads", spec := "packetReads", recurses := true, apart := false }
def PacketReadsSaid : Prop := packetReadsRow.holds Try.pinned (OpenSpec.ofChange packetReadsSpec)

/-- ITS FALSE NEIGHBOUR: 'it returns false'. Refute it at one input. -/
def packetReadsWrong : ChangeSpec := { name := "packetReads", fn := fun _ => fun
  | [d1, d2] => { results := [.lit (.bool false)], args := [d1, d2] }
  | _ => none }
def PacketReadsWrongFalsely : Prop := packetReadsRow.holds Try.pinned (OpenSpec.ofChange packetReadsWrong)

/-- 'granarylaw22.PacketFeeds': WHATEVER THE INPUT: true; the input reads as it did. -/
def packetFeedsSpec : ChangeSpec := { name := "packetFeeds", fn := fun _ => fun
  | [d1, d2] => { results := [.lit (.bool true)], args := [d1, d2] }
  | _ => none }
def packetFeedsRow : OpenClaim := { program := "ytggmpaggmkfmoaa", sum := "104492174c1486fb91b1a2785edd2e068b3d3624ceb015b68a88ef4081cb4864", func := "granary/granarylaw22.PacketFeeds", spec := "packetFeeds", recurses := true, apart := false }
def PacketFeedsSaid : Prop := packetFeedsRow.holds Try.pinned (OpenSpec.ofChange packetFeedsSpec)

/-- ITS FALSE NEIGHBOUR: 'it returns false'. Refute it at one input. -/
def packetFeedsWrong : ChangeSpec := { name := "packetFeeds", fn := fun _ => fun
  | [d1, d2] => { results := [.lit (.bool false)], args := [d1, d2] }
  | _ => none }
def PacketFeedsWrongFalsely : Prop := packetFeedsRow.holds Try.pinned (OpenSpec.ofChange packetFeedsWrong)

/-- 'granarylaw22.PacketBack': WHATEVER THE INPUT: true; the input reads as it did. -/
def packetBackSpec : ChangeSpec := { name := "packetBack", fn := fun _ => fun
  | [d] => { results := [.lit (.bool true)], args := [d] }
  | _ => none }
def packetBackRow : OpenClaim := { program := "ytggmpaggmkfmoaa", sum := "104492174c1486fb91b1a2785edd2e068b3d3624ceb015b68a88ef4081cb4864", func := "granary/granarylaw22.PacketBack", spec := "packetBack", apart := false }
def PacketBackSaid : Prop := packetBackRow.holds Try.pinned (OpenSpec.ofChange packetBackSpec)

/-- ITS FALSE NEIGHBOUR: 'it returns false'. Refute it at one input. -/
def packetBackWrong : ChangeSpec := { name := "packetBack", fn := fun _ => fun
  | [d] => { results := [.lit (.bool false)], args := [d] }
  | _ => none }
def PacketBackWrongFalsely : Prop := packetBackRow.holds Try.pinned (OpenSpec.ofChange packetBackWrong)

/-- 'granarylaw22.PacketJust': WHATEVER THE INPUT: true; the input reads as it did. -/
def packetJustSpec : ChangeSpec := { name := "packetJust", fn := fun _ => fun
  | [d1, d2] => { results := [.lit (.bool true)], args := [d1, d2] }
  | _ => none }
def packetJustRow : OpenClaim := { program := "ytggmpaggmkfmoaa", sum := "104492174c1486fb91b1a2785edd2e068b3d3624ceb015b68a88ef4081cb4864", func := "granary/granarylaw22.PacketJust", spec := "packetJust", apart := false }
def PacketJustSaid : Prop := packetJustRow.holds Try.pinned (OpenSpec.ofChange packetJustSpec)

/-- ITS FALSE NEIGHBOUR: 'it returns false'. Refute it at one input. -/
def packetJustWrong : ChangeSpec := { name := "packetJust", fn := fun _ => fun
  | [d1, d2] => { results := [.lit (.bool false)], args := [d1, d2] }
  | _ => none }
def PacketJustWrongFalsely : Prop := packetJustRow.holds Try.pinned (OpenSpec.ofChange packetJustWrong)

/-- 'granarylaw22.PacketCuts': WHATEVER THE INPUT: true; the input reads as it did. -/
def packetCutsSpec : ChangeSpec := { name := "packetCuts", fn := fun _ => fun
  | [d] => { results := [.lit (.bool true)], args := [d] }
  | _ => none }
def packetCutsRow : OpenClaim := { program := "ytggmpaggmkfmoaa", sum := "104492174c1486fb91b1a2785edd2e068b3d3624ceb015b68a88ef4081cb4864", func := "granary/granarylaw22.PacketCuts", spec := "packetCuts", apart := false }
def PacketCutsSaid : Prop := packetCutsRow.holds Try.pinned (OpenSpec.ofChange packetCutsSpec)

/-- ITS FALSE NEIGHBOUR: 'it returns false'. Refute it at one input. -/
def packetCutsWrong : ChangeSpec := { name := "packetCuts", fn := fun _ => fun
  | [d] => { results := [.lit (.bool false)], args := [d] }
  | _ => none }
def PacketCutsWrongFalsely : Prop := packetCutsRow.holds Try.pinned (OpenSpec.ofChange packetCutsWrong)

/-- 'granarylaw22.PacketWhole': WHATEVER THE INPUT: true; the input reads as it did. -/
def packetWholeSpec : ChangeSpec := { name := "packetWhole", fn := fun _ => fun
  | [d] => { results := [.lit (.bool true)], args := [d] }
  | _ => none }
def packetWholeRow : OpenClaim := { program := "ytggmpaggmkfmoaa", sum := "104492174c1486fb91b1a2785edd2e068b3d3624ceb015b68a88ef4081cb4864", func := "granary/granarylaw22.PacketWhole", spec := "packetWhole", apart := false }
def PacketWholeSaid : Prop := packetWholeRow.holds Try.pinned (OpenSpec.ofChange packetWholeSpec)

/-- ITS FALSE NEIGHBOUR: 'it returns false'. Refute it at one input. -/
def packetWholeWrong : ChangeSpec := { name := "packetWhole", fn := fun _ => fun
  | [d] => { results := [.lit (.bool false)], args := [d] }
  | _ => none }
def PacketWholeWrongFalsely : Prop := packetWholeRow.holds Try.pinned (OpenSpec.ofChange packetWholeWrong)

/-- 'granarylaw22.PacketHolds': WHATEVER THE INPUT: true; the input reads as it did. -/
def packetHoldsSpec : ChangeSpec := { name := "packetHolds", fn := fun _ => fun
  | [d] => { results := [.lit (.bool true)], args := [d] }
  | _ => none }
def packetHoldsRow : OpenClaim := { program := "ytggmpaggmkfmoaa", sum := "104492174c1486fb91b1a2785edd2e068b3d3624ceb015b68a88ef4081cb4864", func := "granary/granarylaw22.PacketHolds", spec := "packetHolds", apart := false }
def PacketHoldsSaid : Prop := packetHoldsRow.holds Try.pinned (OpenSpec.ofChange packetHoldsSpec)

/-- ITS FALSE NEIGHBOUR: 'it returns false'. Refute it at one input. -/
def packetHoldsWrong : ChangeSpec := { name := "packetHolds", fn := fun _ => fun
  | [d] => { results := [.lit (.bool false)], args := [d] }
  | _ => none }
def PacketHoldsWrongFalsely : Prop := packetHoldsRow.holds Try.pinned (OpenSpec.ofChange packetHoldsWrong)

/-- 'granarylaw22.PacketApart': WHATEVER THE INPUT: true; the input reads as it did. -/
def packetApartSpec : ChangeSpec := { name := "packetApart", fn := fun _ => fun
  | [d1, d2] => { results := [.lit (.bool true)], args := [d1, d2] }
  | _ => none }
def packetApartRow : OpenClaim := { program := "ytggmpaggmkfmoaa", sum := "104492174c1486fb91b1a2785edd2e068b3d3624ceb015b68a88ef4081cb4864", func := "granary/granarylaw22.PacketApart", spec := "packetApart", apart := false }
def PacketApartSaid : Prop := packetApartRow.holds Try.pinned (OpenSpec.ofChange packetApartSpec)

/-- ITS FALSE NEIGHBOUR: 'it returns false'. Refute it at one input. -/
def packetApartWrong : ChangeSpec := { name := "packetApart", fn := fun _ => fun
  | [d1, d2] => { results := [.lit (.bool false)], args := [d1, d2] }
  | _ => none }
def PacketApartWrongFalsely : Prop := packetApartRow.holds Try.pinned (OpenSpec.ofChange packetApartWrong)

/-- 'granarylaw22.PacketLimits': WHATEVER THE INPUT: true; the input reads as it did. -/
def packetLimitsSpec : ChangeSpec := { name := "packetLimits", fn := fun _ => fun
  | [] => { results := [.lit (.bool true)], args := [] }
  | _ => none }
def packetLimitsRow : OpenClaim := { program := "ytggmpaggmkfmoaa", sum := "104492174c1486fb91b1a2785edd2e068b3d3624ceb015b68a88ef4081cb4864", func := "granary/granarylaw22.PacketLimits", spec := "packetLimits", apart := false }
def PacketLimitsSaid : Prop := packetLimitsRow.holds Try.pinned (OpenSpec.ofChange packetLimitsSpec)

/-- ITS FALSE NEIGHBOUR: 'it returns false'. Refute it at one input. -/
def packetLimitsWrong : ChangeSpec := { name := "packetLimits", fn := fun _ => fun
  | [] => { results := [.lit (.bool false)], args := [] }
  | _ => none }
def PacketLimitsWrongFalsely : Prop := packetLimitsRow.holds Try.pinned (OpenSpec.ofChange packetLimitsWrong)

/- THE SECOND FORM. 'bulk': how many values and letters a reading holds, each counted each time it is reached (what is shared counts as often as it is met; a slice's spare places count too). A statement '..UptoSaid' is the law's where the arguments, and the package variables that the reading takes, are together of bulk at most 1048576: NARROWER than '..Said'. Prove '..Said' where nothing that the law and all that it calls make is longer than what came in: it says more and counts as full. Else prove '..UptoSaid'. A law counts once. -/
mutual
def uptoBulk {H : Type} : DataW H → Nat
  | .lit (.string bytes) => bytes.length + 1
  | .lit _ => 1
  | .nil => 1
  | .ptr d => uptoBulk d + 1
  | .slice elems spare => uptoBulkAll elems + uptoBulkAll spare + 1
  | .agg parts => uptoBulkAll parts + 1
  | .iface _ d => uptoBulk d + 1
  | .map entries => uptoBulkEntries entries + 1
  | .held _ => 1
def uptoBulkAll {H : Type} : List (DataW H) → Nat
  | [] => 0
  | d :: r => uptoBulk d + uptoBulkAll r
def uptoBulkEntries {H : Type} : List (Lit × DataW H) → Nat
  | [] => 0
  | x :: r => uptoBulkEntry x + uptoBulkEntries r
def uptoBulkEntry {H : Type} : Lit × DataW H → Nat
  | (.string bytes, d) => bytes.length + uptoBulk d + 1
  | (_, d) => uptoBulk d + 1
 end
def uptoSmall : (H : Type) → List (DataW H) → Bool := fun _ ds => decide (uptoBulkAll ds ≤ 1048576)
def OpenSpec.upto (s : _root_.Go.ChangeSpec) : _root_.Go.OpenSpec := { _root_.Go.OpenSpec.ofChange s with cond := some uptoSmall }

/-- 'granarylaw22.PacketBytes', WHERE WHAT IT READS IS OF BULK AT MOST 1048576: true; the input reads as it did. -/
def packetBytesUptoRow : OpenClaim := { program := "ytggmpaggmkfmoaa", sum := "104492174c1486fb91b1a2785edd2e068b3d3624ceb015b68a88ef4081cb4864", func := "granary/granarylaw22.PacketBytes", spec := "packetBytes", recurses := true, apart := false, narrowed := true }
def PacketBytesUptoSaid : Prop := packetBytesUptoRow.holds Try.pinned (OpenSpec.upto packetBytesSpec)

/-- 'granarylaw22.PacketReads', WHERE WHAT IT READS IS OF BULK AT MOST 1048576: true; the input reads as it did. -/
def packetReadsUptoRow : OpenClaim := { program := "ytggmpaggmkfmoaa", sum := "104492174c1486fb91b1a2785edd2e068b3d3624ceb015b68a88ef4081cb4864", func := "granary/granarylaw22.PacketReads", spec := "packetReads", recurses := true, apart := false, narrowed := true }
def PacketReadsUptoSaid : Prop := packetReadsUptoRow.holds Try.pinned (OpenSpec.upto packetReadsSpec)

/-- 'granarylaw22.PacketFeeds', WHERE WHAT IT READS IS OF BULK AT MOST 1048576: true; the input reads as it did. -/
def packetFeedsUptoRow : OpenClaim := { program := "ytggmpaggmkfmoaa", sum := "104492174c1486fb91b1a2785edd2e068b3d3624ceb015b68a88ef4081cb4864", func := "granary/granarylaw22.PacketFeeds", spec := "packetFeeds", recurses := true, apart := false, narrowed := true }
def PacketFeedsUptoSaid : Prop := packetFeedsUptoRow.holds Try.pinned (OpenSpec.upto packetFeedsSpec)

/-- 'granarylaw22.PacketBack', WHERE WHAT IT READS IS OF BULK AT MOST 1048576: true; the input reads as it did. -/
def packetBackUptoRow : OpenClaim := { program := "ytggmpaggmkfmoaa", sum := "104492174c1486fb91b1a2785edd2e068b3d3624ceb015b68a88ef4081cb4864", func := "granary/granarylaw22.PacketBack", spec := "packetBack", apart := false, narrowed := true }
def PacketBackUptoSaid : Prop := packetBackUptoRow.holds Try.pinned (OpenSpec.upto packetBackSpec)

/-- 'granarylaw22.PacketJust', WHERE WHAT IT READS IS OF BULK AT MOST 1048576: true; the input reads as it did. -/
def packetJustUptoRow : OpenClaim := { program := "ytggmpaggmkfmoaa", sum := "104492174c1486fb91b1a2785edd2e068b3d3624ceb015b68a88ef4081cb4864", func := "granary/granarylaw22.PacketJust", spec := "packetJust", apart := false, narrowed := true }
def PacketJustUptoSaid : Prop := packetJustUptoRow.holds Try.pinned (OpenSpec.upto packetJustSpec)

/-- 'granarylaw22.PacketCuts', WHERE WHAT IT READS IS OF BULK AT MOST 1048576: true; the input reads as it did. -/
def packetCutsUptoRow : OpenClaim := { program := "ytggmpaggmkfmoaa", sum := "104492174c1486fb91b1a2785edd2e068b3d3624ceb015b68a88ef4081cb4864", func := "granary/granarylaw22.PacketCuts", spec := "packetCuts", apart := false, narrowed := true }
def PacketCutsUptoSaid : Prop := packetCutsUptoRow.holds Try.pinned (OpenSpec.upto packetCutsSpec)

/-- 'granarylaw22.PacketWhole', WHERE WHAT IT READS IS OF BULK AT MOST 1048576: true; the input reads as it did. -/
def packetWholeUptoRow : OpenClaim := { program := "ytggmpaggmkfmoaa", sum := "104492174c1486fb91b1a2785edd2e068b3d3624ceb015b68a88ef4081cb4864", func := "granary/granarylaw22.PacketWhole", spec := "packetWhole", apart := false, narrowed := true }
def PacketWholeUptoSaid : Prop := packetWholeUptoRow.holds Try.pinned (OpenSpec.upto packetWholeSpec)

/-- 'granarylaw22.PacketHolds', WHERE WHAT IT READS IS OF BULK AT MOST 1048576: true; the input reads as it did. -/
def packetHoldsUptoRow : OpenClaim := { program := "ytggmpaggmkfmoaa", sum := "104492174c1486fb91b1a2785edd2e068b3d3624ceb015b68a88ef4081cb4864", func := "granary/granarylaw22.PacketHolds", spec := "packetHolds", apart := false, narrowed := true }
def PacketHoldsUptoSaid : Prop := packetHoldsUptoRow.holds Try.pinned (OpenSpec.upto packetHoldsSpec)

/-- 'granarylaw22.PacketApart', WHERE WHAT IT READS IS OF BULK AT MOST 1048576: true; the input reads as it did. -/
def packetApartUptoRow : OpenClaim := { program := "ytggmpaggmkfmoaa", sum := "104492174c1486fb91b1a2785edd2e068b3d3624ceb015b68a88ef4081cb4864", func := "granary/granarylaw22.PacketApart", spec := "packetApart", apart := false, narrowed := true }
def PacketApartUptoSaid : Prop := packetApartUptoRow.holds Try.pinned (OpenSpec.upto packetApartSpec)

/-- 'granarylaw22.PacketLimits', WHERE WHAT IT READS IS OF BULK AT MOST 1048576: true; the input reads as it did. -/
def packetLimitsUptoRow : OpenClaim := { program := "ytggmpaggmkfmoaa", sum := "104492174c1486fb91b1a2785edd2e068b3d3624ceb015b68a88ef4081cb4864", func := "granary/granarylaw22.PacketLimits", spec := "packetLimits", apart := false, narrowed := true }
def PacketLimitsUptoSaid : Prop := packetLimitsUptoRow.holds Try.pinned (OpenSpec.upto packetLimitsSpec)

end Rows
end Go.Proofs.Ytggmpaggmkfmoaa
