/- The chapter's examples: the values are reckoned by the kernel. No argument. -/
import Derived.Test.YtckaofgkepcibaaLMoveKnown
namespace Go.Proofs.Ytckaofgkepcibaa.Pure
open Go.RowKit Go.Proofs.Ytckaofgkepcibaa.P Go.Proofs.YtckaofgkepcibaaW.PrintWords Go.Proofs.YtckaofgkepcibaaW.PrintLast
theorem MoveKnown : q_MoveKnown.Pure := ⟨30, by decide +kernel⟩
end Go.Proofs.Ytckaofgkepcibaa.Pure
