/- Part Pb1 of the proof. -/
import Derived.Test.YtdolmecackmjdaaGreatDoorPc
set_option maxRecDepth 100000
namespace Go.Proofs.YtdolmecackmjdaaGreatDoor.T
open Go Go.cV
theorem yu:wC Tryz.prog 194=some (117,(.int .u64),3,(.int .i64 0)):=by kernel_rfl
theorem XQ:wC Tryz.prog 222=some (3,(.int .i64),163,(.int .u32 0)):=by kernel_rfl
theorem fF:qk Tryz.prog 113=true:=by kernel_rfl
theorem U1:isIface Tryz.prog 20=true:=by kernel_rfl
end Go.Proofs.YtdolmecackmjdaaGreatDoor.T
