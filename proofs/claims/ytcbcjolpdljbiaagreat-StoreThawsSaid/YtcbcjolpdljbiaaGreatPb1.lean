/- Part Pb1 of the proof. -/
import Derived.Test.YtcbcjolpdljbiaaGreatPc
set_option maxRecDepth 100000
namespace Go.Proofs.YtcbcjolpdljbiaaGreat.T
open Go Go.dC
theorem p9:xH Tryz.prog 198=some (104,(.int .u64),3,(.int .i64 0)):=by kernel_rfl
theorem BV:xH Tryz.prog 225=some (3,(.int .i64),149,(.int .u32 0)):=by kernel_rfl
theorem gP:tz Tryz.prog 102=true:=by kernel_rfl
theorem aaJ:isIface Tryz.prog 20=true:=by kernel_rfl
end Go.Proofs.YtcbcjolpdljbiaaGreat.T
