/- What a tick and the forcing of a cycle compute, and the panels of a whole cycle, in closed form: plain Lean, no program. -/
import Derived.Test.YtmjmdnpenpdmhaaDoorQ
import Derived.Test.YtmjmdnpenpdmhaaP0cycle
import Derived.Test.YtmjmdnpenpdmhaaP1cycle
namespace Go.Proofs.Ytmjmdnpenpdmhaa.P
open Go.RowKit Go.Proofs.YtmjmdnpenpdmhaaW.PrintWords Go.Proofs.YtmjmdnpenpdmhaaW.PrintLast Go.Proofs.YtmjmdnpenpdmhaaW.PrintMore
set_option linter.unusedVariables false
set_option linter.unusedSimpArgs false

/-- Whether a door becomes open in a tick. -/
def dop (p x w : Int) : Bool := decide (p = 1 ∧ x + 1 = w)
theorem dop_eq {p x l t w dw rt : Int} (o : Bool) (hp : p = 1) : ((dtk p x l t w dw rt o).1 == 2) = dop p x w := by
  subst hp
  unfold dtk dop
  by_cases q : x + 1 = w
  · simp [q]
  · simp [q]
theorem door_Step_eq (k : Nat) (p x l t w dw rt : Int) (o : Bool) : door_Step.f (k + 2) p x l t w dw rt o =
    some (if dchk p x l t w dw rt = 0 then ((dtk p x l t w dw rt o).1, (dtk p x l t w dw rt o).2.1, (dtk p x l t w dw rt o).2.2.1, (dtk p x l t w dw rt o).2.2.2, dop p x w, 0) else (0, 0, 0, 0, false, dchk p x l t w dw rt)) := by
  unfold door_Step.f
  rw [door_Check_eq, Option.bind_some]
  by_cases h : dchk p x l t w dw rt = 0
  · rw [if_pos h, if_pos h, door_tick_eq p x l t w dw rt o (dchk_zero.1 h), Option.bind_some]
    by_cases hp : p = 1
    · rw [if_pos hp, dop_eq o hp]
    · rw [if_neg hp, show dop p x w = false from decide_eq_false (fun q => hp q.1)]
  · rw [if_neg h, if_neg h]
theorem Open_closed (k : Nat) (w dw rt : Int) (h : dRule w dw rt) : door_Open.f (k + 2) 0 0 0 0 w dw rt = some (1, 0, 0, 0, 0) := by
  have hV : dV 0 0 0 0 w dw rt := ⟨h, by omega, by omega, by omega⟩
  unfold door_Open.f
  rw [door_Check_eq, dchk_zero.2 hV, Option.bind_some, if_pos rfl, door_Open.j0]
  rfl
/-- A door that is forced. -/
def dfc (p x l t : Int) : Int × Int × Int × Int := if x = 0 then (0, 0, 0, 0) else (5, x, 0, 0)
theorem dfc_ok {p x l t w dw rt : Int} (h : dV p x l t w dw rt) : dV (dfc p x l t).1 (dfc p x l t).2.1 (dfc p x l t).2.2.1 (dfc p x l t).2.2.2 w dw rt := by
  obtain ⟨h1, h2, h3, h4⟩ := h
  unfold dfc
  split
  all_goals refine ⟨h1, ?_, ?_, ?_⟩ <;> dsimp only <;> omega
theorem Force_ok (k : Nat) {p x l t w dw rt : Int} (h : dV p x l t w dw rt) : door_Force.f (k + 2) p x l t w dw rt = some ((dfc p x l t).1, (dfc p x l t).2.1, (dfc p x l t).2.2.1, (dfc p x l t).2.2.2, 0) := by
  unfold door_Force.f dfc
  rw [door_Check_eq, dchk_zero.2 h, Option.bind_some, if_pos rfl]
  by_cases c : x = 0
  · rw [if_pos c, if_pos c]
  · rw [if_neg c, if_neg c]
theorem forced_ok (k : Nat) {p x l t w dw rt : Int} (a : Int) (ps : Bool) (h : dV p x l t w dw rt) : cycle_forced.f (k + 2) p x l t a ps w dw rt = some ((dfc p x l t).1, (dfc p x l t).2.1, (dfc p x l t).2.2.1, (dfc p x l t).2.2.2, a, if (dfc p x l t).1 = 0 then true else ps) := by
  unfold cycle_forced.f
  rw [Force_ok k h, Option.bind_some]
  dsimp only
  by_cases c : (dfc p x l t).1 = 0
  · rw [if_pos c, if_pos c]
  · rw [if_neg c, if_neg c]
theorem ctick_ok (k : Nat) {p x l t w dw rt : Int} (a : Int) (ps o : Bool) (h : dV p x l t w dw rt) (ha : 0 ≤ a ∧ a ≤ 100000) :
    cycle_tick.f (k + 2) p x l t a ps w dw rt o = some ((dtk p x l t w dw rt o).1, (dtk p x l t w dw rt o).2.1, (dtk p x l t w dw rt o).2.2.1, (dtk p x l t w dw rt o).2.2.2, a + 1, ps, dop p x w) := by
  unfold cycle_tick.f
  rw [door_Step_eq, if_pos (dchk_zero.2 h), Option.bind_some, wsm (a + 1) (by omega) (by omega)]
/-- How many ticks a rule's cycle takes. -/
def cwst (w dw rt : Int) : Int := 2 * w + dw + rt * (2 * w - 1 + dw)
theorem cwst_bound {w dw rt : Int} (h : dRule w dw rt) : 3 ≤ cwst w dw rt ∧ cwst w dw rt ≤ 600 := by
  have b : 0 ≤ rt * (2 * w - 1 + dw) ∧ rt * (2 * w - 1 + dw) ≤ 445 := by
    constructor
    · exact Int.mul_nonneg (by omega) (by omega)
    · exact Int.le_trans (Int.mul_le_mul (show rt ≤ 5 by omega) (show 2 * w - 1 + dw ≤ 89 by omega) (by omega) (by omega)) (by decide)
  unfold cwst
  omega
theorem worst_eq (w dw rt : Int) : cycle_worst.f w dw rt = some (if dRule w dw rt then (cwst w dw rt, 0) else (0, 2)) := by
  unfold cycle_worst.f door_Worst.f
  rw [Rule_eq, Option.bind_some]
  by_cases h : dRule w dw rt
  · rw [if_pos h, if_pos rfl, Option.bind_some, if_pos rfl, Worst_in w dw rt h, if_pos h]
    rfl
  · rw [if_neg h, if_neg (by decide), if_neg h]
theorem Begin_ok (k : Nat) (w dw rt : Int) (h : dRule w dw rt) (b : Bool) : cycle_Begin.f (k + 2) w dw rt b = some (if b = true then (1, 0, 0, 0, 0, false, 0) else (0, 0, 0, 0, 0, true, 0)) := by
  unfold cycle_Begin.f
  rw [worst_eq, if_pos h, Option.bind_some, if_pos rfl, Open_closed k w dw rt h]
  cases b
  · rfl
  · rfl

/-- The door in tick k, before it: forced, if it is to be. -/
def cfo (q : Int × Int × Int × Int) (c : Bool) : Int × Int × Int × Int := if c = true then dfc q.1 q.2.1 q.2.2.1 q.2.2.2 else q
/-- The door after k ticks of a cycle that opens, and its panels. -/
def cst (w dw rt : Int) (l : List Bool) (at_ : Int) (f : Bool) : Nat → Int × Int × Int × Int
  | 0 => (1, 0, 0, 0)
  | k + 1 => dtk (cfo (cst w dw rt l at_ f k) (f && ((k : Int) == at_))).1 (cfo (cst w dw rt l at_ f k) (f && ((k : Int) == at_))).2.1 (cfo (cst w dw rt l at_ f k) (f && ((k : Int) == at_))).2.2.1 (cfo (cst w dw rt l at_ f k) (f && ((k : Int) == at_))).2.2.2 w dw rt (rdOf false l k)
def cpl (w dw rt : Int) (l : List Bool) (at_ : Int) (f : Bool) : Nat → List Int
  | 0 => []
  | k + 1 => cpl w dw rt l at_ f k ++ [(cst w dw rt l at_ f (k + 1)).2.1]
theorem cfo_ok {q : Int × Int × Int × Int} {w dw rt : Int} (c : Bool) (h : dV q.1 q.2.1 q.2.2.1 q.2.2.2 w dw rt) : dV (cfo q c).1 (cfo q c).2.1 (cfo q c).2.2.1 (cfo q c).2.2.2 w dw rt := by
  unfold cfo
  split
  · exact dfc_ok h
  · exact h
theorem cst_ok {w dw rt : Int} (h : dRule w dw rt) (l : List Bool) (at_ : Int) (f : Bool) : ∀ k, dV (cst w dw rt l at_ f k).1 (cst w dw rt l at_ f k).2.1 (cst w dw rt l at_ f k).2.2.1 (cst w dw rt l at_ f k).2.2.2 w dw rt
  | 0 => by
    show dV 1 0 0 0 w dw rt
    exact ⟨h, by omega, by omega, by omega⟩
  | k + 1 => dtk_ok _ (cfo_ok _ (cst_ok h l at_ f k))
theorem cpl_len (w dw rt : Int) (l : List Bool) (at_ : Int) (f : Bool) : ∀ k, (cpl w dw rt l at_ f k).length = k
  | 0 => rfl
  | k + 1 => by rw [cpl, List.length_append, cpl_len w dw rt l at_ f k]; rfl
def cycle_panels.f (a0_0 : Int) (a0_1 : Int) (a0_2 : Int) (l1 : List Bool) (a2 : Int) (a3 : Bool) : Option (List Int × Int) :=
  if dRule a0_0 a0_1 a0_2 then
    (if (l1.length : Int) > cwst a0_0 a0_1 a0_2 then (if l1.length < 1000000000000000000 then some ([], 4) else none)
     else if a3 = true ∧ (a2 < 0 ∨ a2 ≥ cwst a0_0 a0_1 a0_2) then some ([], 2)
     else some (cpl a0_0 a0_1 a0_2 l1 a2 a3 (cwst a0_0 a0_1 a0_2).toNat, 0))
  else some ([], 2)
end Go.Proofs.Ytmjmdnpenpdmhaa.P
