/- Part Pb1 of the proof. -/
import Derived.Test.YtdolmecackmjdaaGreatDoorPc
set_option maxRecDepth 100000
namespace Go.Proofs.YtdolmecackmjdaaGreatDoor.T
open Go Go.dL
theorem Ar:yn Tryz.prog 194=some (117,(.int .u64),3,(.int .i64 0)):=by kernel_rfl
theorem aaA:yn Tryz.prog 222=some (3,(.int .i64),163,(.int .u32 0)):=by kernel_rfl
theorem gn:rS Tryz.prog 113=true:=by kernel_rfl
theorem XY:isIface Tryz.prog 20=true:=by kernel_rfl
end Go.Proofs.YtdolmecackmjdaaGreatDoor.T
