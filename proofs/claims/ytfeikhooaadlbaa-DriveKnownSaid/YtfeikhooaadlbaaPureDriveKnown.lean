/- The chapter's examples: the values are reckoned by the kernel. No argument. -/
import Derived.Test.YtfeikhooaadlbaaLDriveKnown
namespace Go.Proofs.Ytfeikhooaadlbaa.Pure
open Go.RowKit Go.Proofs.Ytfeikhooaadlbaa.P Go.Proofs.YtfeikhooaadlbaaW.PrintWords Go.Proofs.YtfeikhooaadlbaaW.PrintLast
theorem DriveKnown : q_DriveKnown.Pure := ⟨30, by decide +kernel⟩
end Go.Proofs.Ytfeikhooaadlbaa.Pure
