/- The examples of the chapter on brakes have the results given there: no condition. -/
import Derived.Test.YtfibbdbpclkbgaaLBrakeKnown
namespace Go.Proofs.Ytfibbdbpclkbgaa.Pure
open Go.RowKit Go.Proofs.Ytfibbdbpclkbgaa.P Go.Proofs.YtfibbdbpclkbgaaW.PrintWords Go.Proofs.YtfibbdbpclkbgaaW.PrintLast

theorem BrakeKnown : tipstafflaw10_BrakeKnown.Pure := ⟨40, by decide +kernel⟩

end Go.Proofs.Ytfibbdbpclkbgaa.Pure
