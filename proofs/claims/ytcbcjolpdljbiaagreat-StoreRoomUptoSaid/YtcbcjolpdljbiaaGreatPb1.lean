/- Part Pb1 of the proof. -/
import Derived.Test.YtcbcjolpdljbiaaGreatPc
set_option maxRecDepth 100000
namespace Go.Proofs.YtcbcjolpdljbiaaGreat.T
open Go Go.dQ
theorem qJ:xU Tryz.prog 198=some (104,(.int .u64),3,(.int .i64 0)):=by kernel_rfl
theorem Cj:xU Tryz.prog 225=some (3,(.int .i64),149,(.int .u32 0)):=by kernel_rfl
theorem ia:ug Tryz.prog 102=true:=by kernel_rfl
theorem abR:isIface Tryz.prog 20=true:=by kernel_rfl
end Go.Proofs.YtcbcjolpdljbiaaGreat.T
