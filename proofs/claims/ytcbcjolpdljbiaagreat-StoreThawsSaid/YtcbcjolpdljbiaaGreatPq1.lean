/- Part Pq1 of the proof. -/
import Derived.Test.YtcbcjolpdljbiaaGreatPo1
set_option maxRecDepth 100000
namespace Go.dC
open Go
end Go.dC
namespace Go.Proofs.YtcbcjolpdljbiaaGreat
open Go Go.dC Go.Proofs.YtcbcjolpdljbiaaGreat.Cs
end Go.Proofs.YtcbcjolpdljbiaaGreat
