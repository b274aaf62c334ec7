/- What the rows of this seat share. -/
import Derived.Test.YtggmpaggmkfmoaaFin
import Derived.Test.YtggmpaggmkfmoaaRows
set_option maxRecDepth 100000
namespace Go.Proofs.Ytggmpaggmkfmoaa
open Go Go.Eng Go.ChangeShapes Go.WideShapes Go.ChangeAt Go.RowKit
theorem Try.own : ownKnob Try.prog.godebug = none := by kernel_rfl
theorem Try.laidOut : laidOutB Try.prog = true := by kernel_rfl
theorem Try.bool4 : Try.prog.underlying 4 = some .bool := by kernel_rfl
end Go.Proofs.Ytggmpaggmkfmoaa
