/- The law's code is walked by hand (text Pd): nothing is left here. -/
import Derived.Test.YtmjmdnpenpdmhaaLCyclePads
namespace Go.Proofs.Ytmjmdnpenpdmhaa.Pure
open Go.RowKit Go.Proofs.Ytmjmdnpenpdmhaa.P
theorem CyclePads : q_CyclePads.Pure := True.intro
end Go.Proofs.Ytmjmdnpenpdmhaa.Pure
