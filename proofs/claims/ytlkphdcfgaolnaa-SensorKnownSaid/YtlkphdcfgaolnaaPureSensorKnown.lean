/- The chapter's examples have the results given there. No argument. -/
import Derived.Test.YtlkphdcfgaolnaaLSensorKnown
namespace Go.Proofs.Ytlkphdcfgaolnaa.Pure
open Go.RowKit Go.Proofs.Ytlkphdcfgaolnaa.P Go.Proofs.YtlkphdcfgaolnaaW.PrintWords Go.Proofs.YtlkphdcfgaolnaaW.PrintLast
theorem SensorKnown : q_SensorKnown.Pure := ⟨60, by decide +kernel⟩
end Go.Proofs.Ytlkphdcfgaolnaa.Pure
