/- The chapter's examples: all is shown by the walk, which has the values at hand. -/
import Derived.Test.YtofffhnhinolnaaLDoorKnown
namespace Go.Proofs.Ytofffhnhinolnaa.Pure
open Go.RowKit Go.Proofs.Ytofffhnhinolnaa.P
theorem DoorKnown : q_DoorKnown.Pure := trivial
end Go.Proofs.Ytofffhnhinolnaa.Pure
