/- Counts: a list of outcomes that came in, opened. -/
import Derived.Test.YtdmepoiijgejhaaDoorOpnO
set_option maxRecDepth 100000
namespace Go.Proofs.YtdmepoiijgejhaaDoor
open Go Go.Eng Go.ChangeShapes Go.WideShapes Go.ChangeAt Go.RowKit
def ocsC (l : List Oc) : List Value := l.flatMap ocC
theorem ocC_len (x : Oc) : (ocC x).length = 24 := rfl
theorem ocsC_at (l : List Oc) (i : Nat) (x : Oc) (h : l[i]? = some x) : ((ocsC l).drop (i * 24)).take 24 = ocC x := flatMap_at ocC 24 ocC_len l i x h
theorem ocsC_len (l : List Oc) : (ocsC l).length = l.length * 24 := flatMap_len ocC 24 ocC_len l
theorem OcOk.mono {h k : Hp} {x : Oc} (o : OcOk h x) (le : Le h k) : OcOk k x := ⟨o.fm, o.flb, o.txt, o.wcb, o.fls.mono le, o.whs.mono le, o.mok, o.fcb⟩
section
variable {H : Type} {enc : TypeId × Value → H} {w : World} {spare : Nat → Bool} {held : Bool}
theorem rd_outs {t : TypeId} {fuel : Nat} {cs : List Value} {x : DataW H × List MemPlace} (ht : Tryd.prog.underlying t = some (.slice 43)) (h : DataW.trod enc Tryd.prog w 0 spare held fuel t cs = some x) :
    ∃ a cap, ∃ l : List Oc, cs = [.slice a l.length cap] ∧ l.length ≤ cap ∧ cap ≤ maxLen ∧ Rdl (hOf w) a (ocsC l) ∧ ∀ y ∈ l, OcOk (hOf w) y := by
  obtain ⟨a, cap, ys, h1, h2, h3, h4, h5⟩ := rd_slice (en := ocC) (Q := OcOk (hOf w)) ht (by rw [show Tryd.prog.cellsOf 43 = 24 by kernel_rfl]; omega) (fun _ _ _ hx => rd_out hx) h
  exact ⟨a, cap, ys, h1, h2, h3, h4, h5⟩
end
end Go.Proofs.YtdmepoiijgejhaaDoor
