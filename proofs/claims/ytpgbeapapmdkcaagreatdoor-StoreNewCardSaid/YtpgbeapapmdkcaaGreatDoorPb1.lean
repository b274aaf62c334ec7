/- Part Pb1 of the proof. -/
import Derived.Test.YtpgbeapapmdkcaaGreatDoorPc
set_option maxRecDepth 100000
namespace Go.Proofs.YtpgbeapapmdkcaaGreatDoor.T
open Go Go.cQ
theorem wz : ue Tryz.prog 194 = some (117, (.int .u64), 3, (.int .i64 0)) := by kernel_rfl
theorem UH : ue Tryz.prog 222 = some (3, (.int .i64), 163, (.int .u32 0)) := by kernel_rfl
theorem ko : oH Tryz.prog 113 = true := by kernel_rfl
theorem Rf : isIface Tryz.prog 20 = true := by kernel_rfl
end Go.Proofs.YtpgbeapapmdkcaaGreatDoor.T
