/-
  NARROWER THAN 'FOR EVERY INPUT', by the rows' own cells (each row's printed sentence says how): StoreNew: laid · StoreMap: laid · StorePace: laid.
  DERIVED. THE GIVEN ROWS OF THIS SEAT. 3 by the template 'for every input the law returns true; each argument reads behind the call as it read before'; 0 by the template 'total and deterministic' (their statements: YtdolmecackmjdaaGreatDoorTotals.lean).
  GIVEN WITH THE SEED: the statements are not yours to turn. If you find one false, say at which input.
  Laid BY PROGRAM, IN A SANDBOX (cutbox-rows.mjs): the forced cells as the released guide's own fill.sh prints them over the translation 9b213df4c11914e6… (all of the seat's roots in one cut). By AI agents, Wed Nov 11 2026. No macro, syntax, notation, axiom, sorry.
-/
import Derived.Test.YtdolmecackmjdaaGreatDoorChecked
import GoSem.Claim
import GoSem.ClaimJoined
import GoSem.ClaimMapViews
import Derived.JoinedTies
import Derived.KernelRfl
namespace Go.Proofs.YtdolmecackmjdaaGreatDoor
/- THE CELL 'sum', in the pinned program and in every row, IS THE sha256 OF THE DUMP (.gsa) THAT YtdolmecackmjdaaGreatDoorProg.lean LOADS. Nothing in Lean hashes anything: it is a label: what it is worth is what the hold of that sum in a sandbox is worth. -/
noncomputable def Tryz.pinned : Pinned := { name := "ytdolmecackmjdaagreatdoor", sum := "9b213df4c11914e6932ff8084df89251aab1f583abac02df41ed1ac9b9c4b658", checked := Tryz.checked }
namespace Rows
def none {H : Type} : Left H := { results := [], args := [] }

/- WHAT THE LISTED PACKAGE-LEVEL VARIABLES READ AS WHEN THE CALL BEGINS. Each datum BY PROGRAM (the guide's laid-datum.mjs) off the statement by which the dump's own 'gosem.cut.vars' lays the variable. In a bare row this is a premise. The card (YtdolmecackmjdaaGreatDoorCards.lean) ties it to the program's text. -/
def laid_granary_granarylaw10_ample {H : Type} : DataW H := .agg [.lit (.int .i64 4096), .lit (.int .i64 64), .lit (.int .i64 200), .lit (.int .i64 64), .lit (.int .i64 512), .lit (.int .i64 30), .lit (.int .i64 30)]

/-- 'granarylaw10.StoreNew': WHATEVER THE INPUT: true; the input reads as it did. -/
def storeNewSpec : ChangeSpec := { name := "storeNew", fn := fun _ => fun
  | [d1, d2] => { results := [.lit (.bool true)], args := [d1, d2] }
  | _ => none }
def storeNewRow : OpenClaim := { program := "ytdolmecackmjdaagreatdoor", sum := "9b213df4c11914e6932ff8084df89251aab1f583abac02df41ed1ac9b9c4b658", func := "granary/granarylaw10.StoreNew", spec := "storeNew", unfollowed := true, recurses := true, named := ["granary/granarylaw10.ample"], apart := false, laid := [("granary/granarylaw10.ample", laid_granary_granarylaw10_ample)] }
def StoreNewSaid : Prop := storeNewRow.holds Tryz.pinned (OpenSpec.ofChange storeNewSpec)

/-- ITS FALSE NEIGHBOUR: 'it returns false'. Refute it at one input. -/
def storeNewWrong : ChangeSpec := { name := "storeNew", fn := fun _ => fun
  | [d1, d2] => { results := [.lit (.bool false)], args := [d1, d2] }
  | _ => none }
def StoreNewWrongFalsely : Prop := storeNewRow.holds Tryz.pinned (OpenSpec.ofChange storeNewWrong)

/-- 'granarylaw10.StoreMap': WHATEVER THE INPUT: true; the input reads as it did. -/
def storeMapSpec : ChangeSpec := { name := "storeMap", fn := fun _ => fun
  | [d1, d2] => { results := [.lit (.bool true)], args := [d1, d2] }
  | _ => none }
def storeMapRow : OpenClaim := { program := "ytdolmecackmjdaagreatdoor", sum := "9b213df4c11914e6932ff8084df89251aab1f583abac02df41ed1ac9b9c4b658", func := "granary/granarylaw10.StoreMap", spec := "storeMap", unfollowed := true, recurses := true, named := ["granary/granarylaw10.ample"], apart := false, laid := [("granary/granarylaw10.ample", laid_granary_granarylaw10_ample)] }
def StoreMapSaid : Prop := storeMapRow.holds Tryz.pinned (OpenSpec.ofChange storeMapSpec)

/-- ITS FALSE NEIGHBOUR: 'it returns false'. Refute it at one input. -/
def storeMapWrong : ChangeSpec := { name := "storeMap", fn := fun _ => fun
  | [d1, d2] => { results := [.lit (.bool false)], args := [d1, d2] }
  | _ => none }
def StoreMapWrongFalsely : Prop := storeMapRow.holds Tryz.pinned (OpenSpec.ofChange storeMapWrong)

/-- 'granarylaw10.StorePace': WHATEVER THE INPUT: true; the input reads as it did. -/
def storePaceSpec : ChangeSpec := { name := "storePace", fn := fun _ => fun
  | [d1, d2, d3] => { results := [.lit (.bool true)], args := [d1, d2, d3] }
  | _ => none }
def storePaceRow : OpenClaim := { program := "ytdolmecackmjdaagreatdoor", sum := "9b213df4c11914e6932ff8084df89251aab1f583abac02df41ed1ac9b9c4b658", func := "granary/granarylaw10.StorePace", spec := "storePace", unfollowed := true, recurses := true, named := ["granary/granarylaw10.ample"], apart := false, laid := [("granary/granarylaw10.ample", laid_granary_granarylaw10_ample)] }
def StorePaceSaid : Prop := storePaceRow.holds Tryz.pinned (OpenSpec.ofChange storePaceSpec)

/-- ITS FALSE NEIGHBOUR: 'it returns false'. Refute it at one input. -/
def storePaceWrong : ChangeSpec := { name := "storePace", fn := fun _ => fun
  | [d1, d2, d3] => { results := [.lit (.bool false)], args := [d1, d2, d3] }
  | _ => none }
def StorePaceWrongFalsely : Prop := storePaceRow.holds Tryz.pinned (OpenSpec.ofChange storePaceWrong)

/- THE SECOND FORM. 'bulk': how many values and letters a reading holds, each counted each time it is reached (what is shared counts as often as it is met; a slice's spare places count too). A statement '..UptoSaid' is the law's where the arguments, and the package variables that the reading takes, are together of bulk at most 1048576: NARROWER than '..Said'. Prove '..Said' where nothing that the law and all that it calls make is longer than what came in: it says more and counts as full. Else prove '..UptoSaid'. A law counts once. -/
mutual
def uptoBulk {H : Type} : DataW H → Nat
  | .lit (.string bytes) => bytes.length + 1
  | .lit _ => 1
  | .nil => 1
  | .ptr d => uptoBulk d + 1
  | .slice elems spare => uptoBulkAll elems + uptoBulkAll spare + 1
  | .agg parts => uptoBulkAll parts + 1
  | .iface _ d => uptoBulk d + 1
  | .map entries => uptoBulkEntries entries + 1
  | .held _ => 1
def uptoBulkAll {H : Type} : List (DataW H) → Nat
  | [] => 0
  | d :: r => uptoBulk d + uptoBulkAll r
def uptoBulkEntries {H : Type} : List (Lit × DataW H) → Nat
  | [] => 0
  | x :: r => uptoBulkEntry x + uptoBulkEntries r
def uptoBulkEntry {H : Type} : Lit × DataW H → Nat
  | (.string bytes, d) => bytes.length + uptoBulk d + 1
  | (_, d) => uptoBulk d + 1
 end
def uptoSmall : (H : Type) → List (DataW H) → Bool := fun _ ds => decide (uptoBulkAll ds ≤ 1048576)
def OpenSpec.upto (s : _root_.Go.ChangeSpec) : _root_.Go.OpenSpec := { _root_.Go.OpenSpec.ofChange s with cond := some uptoSmall }

/-- 'granarylaw10.StoreNew', WHERE WHAT IT READS IS OF BULK AT MOST 1048576: true; the input reads as it did. -/
def storeNewUptoRow : OpenClaim := { program := "ytdolmecackmjdaagreatdoor", sum := "9b213df4c11914e6932ff8084df89251aab1f583abac02df41ed1ac9b9c4b658", func := "granary/granarylaw10.StoreNew", spec := "storeNew", unfollowed := true, recurses := true, named := ["granary/granarylaw10.ample"], apart := false, laid := [("granary/granarylaw10.ample", laid_granary_granarylaw10_ample)], narrowed := true }
def StoreNewUptoSaid : Prop := storeNewUptoRow.holds Tryz.pinned (OpenSpec.upto storeNewSpec)

/-- 'granarylaw10.StoreMap', WHERE WHAT IT READS IS OF BULK AT MOST 1048576: true; the input reads as it did. -/
def storeMapUptoRow : OpenClaim := { program := "ytdolmecackmjdaagreatdoor", sum := "9b213df4c11914e6932ff8084df89251aab1f583abac02df41ed1ac9b9c4b658", func := "granary/granarylaw10.StoreMap", spec := "storeMap", unfollowed := true, recurses := true, named := ["granary/granarylaw10.ample"], apart := false, laid := [("granary/granarylaw10.ample", laid_granary_granarylaw10_ample)], narrowed := true }
def StoreMapUptoSaid : Prop := storeMapUptoRow.holds Tryz.pinned (OpenSpec.upto storeMapSpec)

/-- 'granarylaw10.StorePace', WHERE WHAT IT READS IS OF BULK AT MOST 1048576: true; the input reads as it did. -/
def storePaceUptoRow : OpenClaim := { program := "ytdolmecackmjdaagreatdoor", sum := "9b213df4c11914e6932ff8084df89251aab1f583abac02df41ed1ac9b9c4b658", func := "granary/granarylaw10.StorePace", spec := "storePace", unfollowed := true, recurses := true, named := ["granary/granarylaw10.ample"], apart := false, laid := [("granary/granarylaw10.ample", laid_granary_granarylaw10_ample)], narrowed := true }
def StorePaceUptoSaid : Prop := storePaceUptoRow.holds Tryz.pinned (OpenSpec.upto storePaceSpec)

end Rows
end Go.Proofs.YtdolmecackmjdaaGreatDoor
