/- For every brake and any two numbers the program answers as the reference: what a brake is after some ticks, where and when it ends, through which states it goes, or which errors. No condition. -/
import Derived.Test.YtfibbdbpclkbgaaLBrakeRuns
import Derived.Test.YtfibbdbpclkbgaaQ
namespace Go.Proofs.Ytfibbdbpclkbgaa.Pure
open Go.RowKit Go.Proofs.Ytfibbdbpclkbgaa.P Go.Proofs.YtfibbdbpclkbgaaW.PrintWords Go.Proofs.YtfibbdbpclkbgaaW.PrintLast
set_option linter.unusedSimpArgs false

theorem BrakeRuns : tipstafflaw10_BrakeRuns.Pure := by
  intro s l n t _ _ _ _
  refine ⟨3000 + 1105 + 1, ?_⟩
  obtain ⟨a, b, c, h1⟩ := brun_some s l n t
  obtain ⟨a2, b2, h2, h2l⟩ := bstates_some n t
  have r1 := ref_Run_eq (3000 + 101) s l n t
  have r2 := ref_Ends_eq (3000 + 100) s l n
  have r3 := ref_States_eq (3000 + 5) n t
  have r4 := same_refl a2 (by omega) (3000 + 1105 - a2.length - 1)
  have r5 := awake_true (3000 + 1095)
  rw [show 3000 + 1105 - a2.length - 1 + a2.length + 1 = 3000 + 1105 from by omega] at r4
  obtain ⟨x, y, z, u, h3⟩ : ∃ x y z u, brake_Ends.f (3000 + 1105) s l n = some (x, y, z, u) := by
    unfold brake_Ends.f
    rw [show 3000 + 1105 = 4103 + 2 from rfl, brake_Check_eq]
    simp only [Option.bind_some]
    split
    · obtain ⟨x, y, z, h⟩ := brun_some s l n l
      exact ⟨_, _, _, _, by rw [h]; rfl⟩
    · exact ⟨_, _, _, _, rfl⟩
  rw [h1] at r1
  rw [show 3000 + 100 + 1005 = 3000 + 1105 from rfl, h3] at r2
  rw [h2] at r3
  unfold tipstafflaw10_BrakeRuns.f
  rw [h1, show 3000 + 1105 + 1 = 3000 + 101 + 1005 from rfl, r1]
  simp only [Option.bind_some, beq_self_eq_true, Bool.not_true, Bool.or_self, Bool.false_eq_true, if_false, bne_self_eq_false]
  rw [show 3000 + 101 + 1005 = (3000 + 1105) + 1 from rfl, tipstafflaw10_BrakeRuns.j0, if_neg (by simp), h3, r2]
  simp only [Option.bind_some]
  rw [h2, show 3000 + 1105 = 3000 + 5 + 1100 from rfl, r3]
  simp only [Option.bind_some, beq_self_eq_true, Bool.and_self, if_true]
  rw [show 3000 + 5 + 1100 = 3000 + 1105 from rfl, r4, show 3000 + 1105 = 3000 + 1095 + 10 from rfl, r5]
  rfl

end Go.Proofs.Ytfibbdbpclkbgaa.Pure
