/- What the program computes for doors, in closed form: plain Lean, no program. -/
import Derived.Test.YtofffhnhinolnaaDoorQ
import Derived.Test.YtofffhnhinolnaaP0doora
import Derived.Test.YtofffhnhinolnaaP1door
import Derived.Test.YtofffhnhinolnaaP1tipstafflaw18
namespace Go.Proofs.Ytofffhnhinolnaa.P
open Go.RowKit Go.Proofs.YtofffhnhinolnaaW.PrintWords Go.Proofs.YtofffhnhinolnaaW.PrintLast Go.Proofs.YtofffhnhinolnaaW.PrintMore
set_option linter.unusedSimpArgs false
set_option linter.unusedVariables false

theorem awake_true (k : Nat) : q_awake.f (k + 10) = some true := by
  have h : q_awake.f 10 = some true := by decide +kernel
  induction k with
  | zero => exact h
  | succ k ih => exact q_awake.mono _ _ ih

/-- Whether a door becomes open in a tick. -/
def dop (p x w : Int) : Bool := decide (p = 1 ∧ x + 1 = w)

theorem dop_eq {p x l t w dw rt : Int} (o : Bool) (hp : p = 1) : ((dtk p x l t w dw rt o).1 == 2) = dop p x w := by
  subst hp
  unfold dtk dop
  by_cases q : x + 1 = w
  · simp [q]
  · simp [q]

theorem door_Step_eq (k : Nat) (p x l t w dw rt : Int) (o : Bool) : door_Step.f (k + 2) p x l t w dw rt o =
    some (if dchk p x l t w dw rt = 0 then ((dtk p x l t w dw rt o).1, (dtk p x l t w dw rt o).2.1, (dtk p x l t w dw rt o).2.2.1, (dtk p x l t w dw rt o).2.2.2, dop p x w, 0) else (0, 0, 0, 0, false, dchk p x l t w dw rt)) := by
  unfold door_Step.f
  rw [door_Check_eq, Option.bind_some]
  by_cases h : dchk p x l t w dw rt = 0
  · rw [if_pos h, if_pos h, door_tick_eq p x l t w dw rt o (dchk_zero.1 h), Option.bind_some]
    by_cases hp : p = 1
    · rw [if_pos hp, dop_eq o hp]
    · rw [if_neg hp, show dop p x w = false from decide_eq_false (fun q => hp q.1)]
  · rw [if_neg h, if_neg h]
end Go.Proofs.Ytofffhnhinolnaa.P
