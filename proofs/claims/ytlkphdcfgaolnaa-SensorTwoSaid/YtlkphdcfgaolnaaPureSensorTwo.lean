/- Where two of three readings are what a working sensor reads at a floor, the vote is this reading. (The law's code is walked by hand in the text Lt: nothing is left here.) -/
import Derived.Test.YtlkphdcfgaolnaaLSensorTwo
namespace Go.Proofs.Ytlkphdcfgaolnaa.Pure
open Go.RowKit Go.Proofs.Ytlkphdcfgaolnaa.P
theorem SensorTwo : q_SensorTwo.Pure := True.intro
end Go.Proofs.Ytlkphdcfgaolnaa.Pure
