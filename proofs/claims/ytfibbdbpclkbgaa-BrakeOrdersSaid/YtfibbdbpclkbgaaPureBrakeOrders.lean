/- For every brake and every time the program answers as the reference: which brakes are valid, and what release, apply, a tick, force and free make of one, or which errors. No condition. -/
import Derived.Test.YtfibbdbpclkbgaaLBrakeOrders
import Derived.Test.YtfibbdbpclkbgaaQ
namespace Go.Proofs.Ytfibbdbpclkbgaa.Pure
open Go.RowKit Go.Proofs.Ytfibbdbpclkbgaa.P Go.Proofs.YtfibbdbpclkbgaaW.PrintWords Go.Proofs.YtfibbdbpclkbgaaW.PrintLast

set_option linter.unusedSimpArgs false
theorem BrakeOrders : tipstafflaw10_BrakeOrders.Pure := by
  intro s l n _ _ _
  refine ⟨12, ?_⟩
  obtain ⟨a, b, c, h1⟩ := release_some s l n
  obtain ⟨a2, b2, c2, h2⟩ := apply_some s l n
  obtain ⟨a3, b3, c3, h3⟩ := bstep_some s l n
  have r1 := ref_Release_eq 7 s l n
  have r2 := ref_Apply_eq 6 s l n
  have r3 := ref_Step_eq 7 s l n
  have r4 := ref_Free_eq 7 s l n
  have r5 := ref_Check_eq 9 s l n
  have r6 := brake_Check_eq 10 s l n
  have r7 := awake_true 0
  have r8 : brake_Free.f 10 s l n = some (if bchk s l n = 0 then (s == 2, bchk s l n) else (false, bchk s l n)) := by
    unfold brake_Free.f
    rw [show 10 = 8 + 2 from rfl, brake_Check_eq]
    simp only [Option.bind_some]
    split <;> rfl
  rw [h1] at r1; rw [h2] at r2; rw [h3] at r3; rw [r8] at r4
  simp only [Nat.reduceAdd] at r1 r2 r3 r4 r5 r6 r7
  unfold tipstafflaw10_BrakeOrders.f
  rw [h1, r1]
  simp only [Option.bind_some, brake_New.f, tipstaffref10_New.f, r5, r6, beq_self_eq_true, Bool.not_true, Bool.or_self, Bool.false_eq_true, if_false, if_true, bne_self_eq_false]
  rw [tipstafflaw10_BrakeOrders.j0, if_neg (by simp), h2, r2]
  simp only [Option.bind_some, beq_self_eq_true, Bool.not_true, Bool.or_self, Bool.false_eq_true, if_false, if_true, bne_self_eq_false]
  rw [tipstafflaw10_BrakeOrders.j1, if_neg (by simp), h3, r3, r8, r4]
  simp only [Option.bind_some, beq_self_eq_true, Bool.and_self, if_true, brake_Force.f, brake_New.f, tipstaffref10_Force.f, r7]

end Go.Proofs.Ytfibbdbpclkbgaa.Pure
