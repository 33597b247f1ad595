/- The law's code is walked by hand (text Ps): nothing is left here. -/
import Derived.Test.YtmjmdnpenpdmhaaLCyclePasses
namespace Go.Proofs.Ytmjmdnpenpdmhaa.Pure
open Go.RowKit Go.Proofs.Ytmjmdnpenpdmhaa.P
theorem CyclePasses : q_CyclePasses.Pure := True.intro
end Go.Proofs.Ytmjmdnpenpdmhaa.Pure
