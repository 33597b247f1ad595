/- A vote does not depend on the order of the readings, and is valid. (The law's code is walked by hand in the text Lo: nothing is left here.) -/
import Derived.Test.YtlkphdcfgaolnaaLSensorOrder
namespace Go.Proofs.Ytlkphdcfgaolnaa.Pure
open Go.RowKit Go.Proofs.Ytlkphdcfgaolnaa.P
theorem SensorOrder : q_SensorOrder.Pure := True.intro
end Go.Proofs.Ytlkphdcfgaolnaa.Pure
