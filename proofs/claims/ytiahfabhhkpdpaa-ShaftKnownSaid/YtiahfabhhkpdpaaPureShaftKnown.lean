/- The examples of the chapter on shafts have the results given there: no condition. -/
import Derived.Test.YtiahfabhhkpdpaaLShaftKnown
import Derived.Test.YtiahfabhhkpdpaaV
namespace Go.Proofs.Ytiahfabhhkpdpaa.Pure
open Go.RowKit Go.Proofs.Ytiahfabhhkpdpaa.P Go.Proofs.YtiahfabhhkpdpaaW.PrintWords Go.Proofs.YtiahfabhhkpdpaaW.PrintLast
set_option linter.unusedSimpArgs false
set_option linter.unusedVariables false

theorem ShaftKnown : tipstafflaw07_ShaftKnown.Pure := ⟨40, by decide +kernel⟩

end Go.Proofs.Ytiahfabhhkpdpaa.Pure
