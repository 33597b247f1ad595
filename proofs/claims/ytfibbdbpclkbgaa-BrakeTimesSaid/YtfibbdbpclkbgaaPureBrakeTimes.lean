/- A brake is open after its time from Release on, and closed after its time from Apply on, and not before: for every time. No condition. -/
import Derived.Test.YtfibbdbpclkbgaaLBrakeTimes
import Derived.Test.YtfibbdbpclkbgaaQ
namespace Go.Proofs.Ytfibbdbpclkbgaa.Pure
open Go.RowKit Go.Proofs.Ytfibbdbpclkbgaa.P Go.Proofs.YtfibbdbpclkbgaaW.PrintWords Go.Proofs.YtfibbdbpclkbgaaW.PrintLast
set_option linter.unusedSimpArgs false

theorem BrakeTimes : tipstafflaw10_BrakeTimes.Pure := by
  intro a _
  obtain ⟨n, hn, hn0, hn1⟩ := mod_eq a 6 (by omega) (by omega)
  refine ⟨60, ?_⟩
  unfold tipstafflaw10_BrakeTimes.f
  rw [hn]
  simp only [Option.bind_some]
  clear hn
  obtain rfl | rfl | rfl | rfl | rfl | rfl : n = 0 ∨ n = 1 ∨ n = 2 ∨ n = 3 ∨ n = 4 ∨ n = 5 := by omega
  all_goals decide +kernel

end Go.Proofs.Ytfibbdbpclkbgaa.Pure
