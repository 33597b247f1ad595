/- Valid rules and doors, ticks, opening and forcing: the program answers as the reference. No condition. -/
import Derived.Test.YtofffhnhinolnaaLDoorSteps
import Derived.Test.YtofffhnhinolnaaQ
namespace Go.Proofs.Ytofffhnhinolnaa.Pure
open Go.RowKit Go.Proofs.Ytofffhnhinolnaa.P Go.Proofs.YtofffhnhinolnaaW.PrintWords Go.Proofs.YtofffhnhinolnaaW.PrintLast
set_option linter.unusedSimpArgs false

theorem DoorSteps : q_DoorSteps.Pure := by
  intro p x l t w dw rt o _ _ _ _ _ _ _
  refine ⟨100, ?_⟩
  obtain ⟨a1, b1, c1, d1, e1, h1, g1⟩ := Open_eq 97 p x l t w dw rt
  obtain ⟨a2, b2, c2, d2, e2, h2, g2⟩ := Force_eq 96 p x l t w dw rt
  unfold q_DoorSteps.f
  rw [show 100 = 98 + 2 from rfl, door_Step_eq, ref_Step_eq, Rule_eq, ref_Rule_eq, Option.bind_some, Option.bind_some, Option.bind_some, Option.bind_some, if_pos rfl, door_Check_eq, ref_Check_eq, Option.bind_some, Option.bind_some, if_pos rfl]
  simp only [beq_self_eq_true, Bool.not_true, Bool.or_self, Bool.false_eq_true, if_false, bne_self_eq_false]
  rw [show 98 + 2 = 99 + 1 from rfl, q_DoorSteps.j0, if_neg (by decide), show 99 = 97 + 2 from rfl, h1, g1, Option.bind_some, Option.bind_some]
  simp only [beq_self_eq_true, Bool.not_true, Bool.or_self, Bool.false_eq_true, if_false, bne_self_eq_false]
  rw [show 97 + 2 = 98 + 1 from rfl, q_DoorSteps.j1, if_neg (by decide), show 98 = 96 + 2 from rfl, h2, g2, Option.bind_some, Option.bind_some]
  simp only [beq_self_eq_true, Bool.and_self, if_true]
  rw [show 96 + 2 = 88 + 10 from rfl, awake_true, Option.bind_some, if_pos rfl]

end Go.Proofs.Ytofffhnhinolnaa.Pure
