/- The chapter's examples have the results given there. No argument. -/
import Derived.Test.YtmjmdnpenpdmhaaLCycleKnown
namespace Go.Proofs.Ytmjmdnpenpdmhaa.Pure
open Go.RowKit Go.Proofs.Ytmjmdnpenpdmhaa.P Go.Proofs.YtmjmdnpenpdmhaaW.PrintWords Go.Proofs.YtmjmdnpenpdmhaaW.PrintLast
theorem CycleKnown : q_CycleKnown.Pure := ⟨40, by decide +kernel⟩
end Go.Proofs.Ytmjmdnpenpdmhaa.Pure
