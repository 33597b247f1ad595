/- Valid cycles, ticks, forcing and what is left: the program answers as the reference. No condition. -/
import Derived.Test.YtmjmdnpenpdmhaaLCycleSteps
import Derived.Test.YtmjmdnpenpdmhaaQ
namespace Go.Proofs.Ytmjmdnpenpdmhaa.Pure
open Go.RowKit Go.Proofs.Ytmjmdnpenpdmhaa.P Go.Proofs.YtmjmdnpenpdmhaaW.PrintWords Go.Proofs.YtmjmdnpenpdmhaaW.PrintLast
set_option linter.unusedSimpArgs false

theorem awake_true (k : Nat) : q_awake.f (k + 40) = some true := by
  have h : q_awake.f 40 = some true := by decide +kernel
  induction k with
  | zero => exact h
  | succ k ih => exact q_awake.mono _ _ ih
theorem CycleSteps : q_CycleSteps.Pure := by
  intro p x l t a ps w dw rt o _ _ _ _ _ _ _ _
  refine ⟨1000, ?_⟩
  unfold q_CycleSteps.f
  rw [show 1000 = 998 + 2 from rfl, cycle_Begin_eq, ref_Begin_eq, Option.bind_some, Option.bind_some, show 998 + 2 = 995 + 5 from rfl, cycle_Check_eq, Option.bind_some, show 995 + 5 = 290 + 710 from rfl, ref_Check_eq, Option.bind_some]
  simp only [beq_self_eq_true, Bool.not_true, Bool.or_self, Bool.false_eq_true, if_false, bne_self_eq_false, if_true]
  rw [show 290 + 710 = 999 + 1 from rfl, q_CycleSteps.j0, if_neg (by decide), show 999 = 994 + 5 from rfl, cycle_Step_eq, Option.bind_some, show 994 + 5 = 289 + 710 from rfl, ref_Step_eq, Option.bind_some]
  simp only [beq_self_eq_true, Bool.not_true, Bool.or_self, Bool.false_eq_true, if_false, bne_self_eq_false, if_true]
  rw [show 289 + 710 = 998 + 1 from rfl, q_CycleSteps.j1, if_neg (by decide), show 998 = 993 + 5 from rfl, cycle_Force_eq, Option.bind_some, cycle_Left_eq, show 993 + 5 = 288 + 710 from rfl, ref_Force_eq, ref_Left_eq, Option.bind_some, Option.bind_some, Option.bind_some]
  simp only [beq_self_eq_true, Bool.and_self, if_true]
  rw [show 288 + 710 = 958 + 40 from rfl, awake_true, Option.bind_some, if_pos rfl]
end Go.Proofs.Ytmjmdnpenpdmhaa.Pure
