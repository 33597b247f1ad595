/- What the program computes for cycles: Check, Left, Step, Force, in closed form: plain Lean, no program. -/
import Derived.Test.YtmjmdnpenpdmhaaYc
import Derived.Test.YtmjmdnpenpdmhaaRa
import Derived.Test.YtmjmdnpenpdmhaaP2cycle
import Derived.Test.YtmjmdnpenpdmhaaP2cyclea
namespace Go.Proofs.Ytmjmdnpenpdmhaa.P
open Go.RowKit Go.Proofs.YtmjmdnpenpdmhaaW.PrintWords Go.Proofs.YtmjmdnpenpdmhaaW.PrintLast Go.Proofs.YtmjmdnpenpdmhaaW.PrintMore
set_option linter.unusedSimpArgs false
set_option linter.unusedVariables false

/-- Whether a cycle is of the right form. -/
def cform (p x l t a : Int) (ps : Bool) (w dw rt : Int) : Prop :=
  (ps = true → p = 0) ∧ (ps = false → a = 0 → p = 1 ∧ x = 0 ∧ l = 0 ∧ t = 0) ∧ dmost p x l t w dw rt ≤ cwst w dw rt - a
instance (p x l t a : Int) (ps : Bool) (w dw rt : Int) : Decidable (cform p x l t a ps w dw rt) := by unfold cform; infer_instance
def cchk (p x l t a : Int) (ps : Bool) (w dw rt : Int) : Int :=
  if dchk p x l t w dw rt = 0 then (if 0 ≤ a ∧ a ≤ cwst w dw rt then (if cform p x l t a ps w dw rt then 0 else 3) else 2) else dchk p x l t w dw rt
/-- A cycle that is valid. -/
structure CV (p x l t a : Int) (ps : Bool) (w dw rt : Int) : Prop where
  door : dV p x l t w dw rt
  at_ : 0 ≤ a ∧ a ≤ cwst w dw rt
  form : cform p x l t a ps w dw rt
theorem cchk_zero {p x l t a : Int} {ps : Bool} {w dw rt : Int} : cchk p x l t a ps w dw rt = 0 ↔ CV p x l t a ps w dw rt := by
  unfold cchk
  constructor
  · intro h
    by_cases h1 : dchk p x l t w dw rt = 0
    · rw [if_pos h1] at h
      by_cases h2 : 0 ≤ a ∧ a ≤ cwst w dw rt
      · rw [if_pos h2] at h
        by_cases h3 : cform p x l t a ps w dw rt
        · exact ⟨dchk_zero.1 h1, h2, h3⟩
        · rw [if_neg h3] at h; exact absurd h (by decide)
      · rw [if_neg h2] at h; exact absurd h (by decide)
    · rw [if_neg h1] at h; exact absurd h h1
  · intro h
    rw [if_pos (dchk_zero.2 h.door), if_pos h.at_, if_pos h.form]
theorem dchk_rule {p x l t w dw rt : Int} (h : ¬ dRule w dw rt) : dchk p x l t w dw rt = 2 := by unfold dchk; rw [if_neg h]
theorem cycle_Check_eq (k : Nat) (p x l t a : Int) (ps : Bool) (w dw rt : Int) : cycle_Check.f (k + 5) p x l t a ps w dw rt = some (cchk p x l t a ps w dw rt) := by
  unfold cycle_Check.f
  rw [worst_eq]
  by_cases hR : dRule w dw rt
  · have hb := cwst_bound hR
    rw [if_pos hR, Option.bind_some, if_pos rfl, show k + 5 = (k + 3) + 2 from rfl, door_Check_eq, Option.bind_some, show k + 3 + 2 = (k + 4) + 1 from rfl, cycle_Check.j0]
    by_cases hd : dchk p x l t w dw rt = 0
    · have hV := dchk_zero.1 hd
      rw [hd, if_pos rfl]
      unfold cchk
      rw [if_pos hd]
      by_cases ha : 0 ≤ a ∧ a ≤ cwst w dw rt
      · rw [if_pos ha, if_neg (by omega), decide_eq_false (by omega), show k + 4 = (k + 3) + 1 from rfl, cycle_Check.j1, if_neg (by decide)]
        cases ps
        · rw [if_neg (by decide), show k + 3 = (k + 1) + 2 from rfl, Open_closed (k + 1) w dw rt hR, Option.bind_some]
          unfold door_Rest.f
          rw [if_pos hd, Option.bind_some, wsm (cwst w dw rt - a) (by omega) (by omega)]
          dsimp only
          by_cases hc : cform p x l t a false w dw rt
          · rw [if_pos hc]
            obtain ⟨c1, c2, c3⟩ := hc
            by_cases h0 : a = 0
            · obtain ⟨e1, e2, e3, e4⟩ := c2 rfl h0
              subst e1; subst e2; subst e3; subst e4
              rw [if_pos h0, if_neg (by decide), if_neg (by omega)]
            · rw [if_neg h0, if_neg (by omega)]
          · rw [if_neg hc]
            by_cases h0 : a = 0
            · rw [if_pos h0]
              by_cases h1 : p = 1 ∧ x = 0 ∧ l = 0 ∧ t = 0
              · obtain ⟨e1, e2, e3, e4⟩ := h1
                subst e1; subst e2; subst e3; subst e4
                rw [if_neg (by decide), if_pos]
                apply Int.lt_of_not_ge
                intro q
                exact hc ⟨fun h => (by cases h), fun _ _ => ⟨rfl, rfl, rfl, rfl⟩, q⟩
              · rw [if_pos]
                simp
                omega
            · rw [if_neg h0, if_pos]
              apply Int.lt_of_not_ge
              intro q
              exact hc ⟨fun h => (by cases h), fun _ h => absurd h h0, q⟩
        · rw [if_pos rfl]
          by_cases hp : p = 0
          · subst hp
            rw [if_pos rfl, if_pos ⟨fun _ => rfl, fun h => (by cases h), by rw [dmost_eq0]; omega⟩]
          · rw [if_neg hp, if_neg (fun h => hp (h.1 rfl))]
      · rw [if_neg ha]
        have e : ∀ k, cycle_Check.j1 (k + 1) (cwst w dw rt) true p x l t a ps w dw rt = some 2 := fun k => by rw [cycle_Check.j1, if_pos rfl]
        by_cases h0 : a < 0
        · rw [if_pos h0]; exact e _
        · rw [if_neg h0, decide_eq_true (by omega)]; exact e _
    · rw [if_neg hd]
      unfold cchk
      rw [if_neg hd]
  · rw [if_neg hR, Option.bind_some, if_neg (by decide), show k + 5 = (k + 4) + 1 from rfl, cycle_Check.j0, if_neg (by decide)]
    unfold cchk
    rw [dchk_rule hR, if_neg (by decide)]
theorem cycle_Left_eq (k : Nat) (p x l t a : Int) (ps : Bool) (w dw rt : Int) : cycle_Left.f (k + 5) p x l t a ps w dw rt = some (if cchk p x l t a ps w dw rt = 0 then (cwst w dw rt - a, 0) else (0, cchk p x l t a ps w dw rt)) := by
  unfold cycle_Left.f
  rw [cycle_Check_eq, Option.bind_some]
  by_cases h : cchk p x l t a ps w dw rt = 0
  · have hV := cchk_zero.1 h
    have hb := cwst_bound hV.door.rule
    have ha := hV.at_
    rw [if_pos h, if_pos h, worst_eq, if_pos hV.door.rule, Option.bind_some, wsm (cwst w dw rt - a) (by omega) (by omega)]
  · rw [if_neg h, if_neg h]
/-- A cycle after a tick, or the error. -/
def cstep (p x l t a : Int) (ps : Bool) (w dw rt : Int) (o : Bool) : Int × Int × Int × Int × Int × Bool × Bool × Int :=
  if cchk p x l t a ps w dw rt = 0 then (if a = cwst w dw rt then (0, 0, 0, 0, 0, false, false, 9) else ((dtk p x l t w dw rt o).1, (dtk p x l t w dw rt o).2.1, (dtk p x l t w dw rt o).2.2.1, (dtk p x l t w dw rt o).2.2.2, a + 1, ps, dop p x w, 0)) else (0, 0, 0, 0, 0, false, false, cchk p x l t a ps w dw rt)
theorem cycle_Step_eq (k : Nat) (p x l t a : Int) (ps : Bool) (w dw rt : Int) (o : Bool) : cycle_Step.f (k + 5) p x l t a ps w dw rt o = some (cstep p x l t a ps w dw rt o) := by
  unfold cycle_Step.f cstep
  rw [cycle_Check_eq, Option.bind_some]
  by_cases h : cchk p x l t a ps w dw rt = 0
  · have hV := cchk_zero.1 h
    have hb := cwst_bound hV.door.rule
    have ha := hV.at_
    rw [if_pos h, if_pos h, worst_eq, if_pos hV.door.rule, Option.bind_some]
    by_cases h2 : a = cwst w dw rt
    · rw [if_pos h2, if_pos h2]
    · rw [if_neg h2, if_neg h2, show k + 5 = (k + 3) + 2 from rfl, ctick_ok (k + 3) a ps o hV.door (by omega), Option.bind_some]
  · rw [if_neg h, if_neg h]
def cforce (p x l t a : Int) (ps : Bool) (w dw rt : Int) : Int × Int × Int × Int × Int × Bool × Int :=
  if cchk p x l t a ps w dw rt = 0 then ((dfc p x l t).1, (dfc p x l t).2.1, (dfc p x l t).2.2.1, (dfc p x l t).2.2.2, a, (if (dfc p x l t).1 = 0 then true else ps), 0) else (0, 0, 0, 0, 0, false, cchk p x l t a ps w dw rt)
theorem cycle_Force_eq (k : Nat) (p x l t a : Int) (ps : Bool) (w dw rt : Int) : cycle_Force.f (k + 5) p x l t a ps w dw rt = some (cforce p x l t a ps w dw rt) := by
  unfold cycle_Force.f cforce
  rw [cycle_Check_eq, Option.bind_some]
  by_cases h : cchk p x l t a ps w dw rt = 0
  · rw [if_pos h, if_pos h, show k + 5 = (k + 3) + 2 from rfl, forced_ok (k + 3) a ps (cchk_zero.1 h).door, Option.bind_some]
  · rw [if_neg h, if_neg h]
/-- A tick of a valid cycle leaves a valid one. -/
theorem dmost_tick {p x l t w dw rt : Int} (o : Bool) (h : dV p x l t w dw rt) : dmostT (dtk p x l t w dw rt o) w dw rt ≤ (if p = 0 then 0 else dmost p x l t w dw rt - 1) := by
  by_cases hp : p = 0
  · subst hp
    rw [if_pos rfl, show dtk 0 x l t w dw rt o = (0, x, l, t) from by unfold dtk; rfl, dmostT_mk, dmost_eq0]
    exact Int.le_refl _
  · rw [if_neg hp]
    have hs := dmost_step h hp
    by_cases h3 : p = 3
    · cases o
      · exact (hs.2.1 h3).1
      · exact (hs.2.1 h3).2
    · have e : dtk p x l t w dw rt o = dtk p x l t w dw rt false := by
        unfold dtk
        rw [if_neg h3, if_neg h3]
      rw [e]
      exact Int.le_of_eq (hs.1 h3)
theorem dtk_zero {p x l t w dw rt : Int} (o : Bool) (hp : p = 0) : dtk p x l t w dw rt o = (p, x, l, t) := by subst hp; rfl
theorem cv_tick {p x l t a : Int} {ps : Bool} {w dw rt : Int} (o : Bool) (h : CV p x l t a ps w dw rt) (ha : a ≠ cwst w dw rt) :
    CV (dtk p x l t w dw rt o).1 (dtk p x l t w dw rt o).2.1 (dtk p x l t w dw rt o).2.2.1 (dtk p x l t w dw rt o).2.2.2 (a + 1) ps w dw rt := by
  obtain ⟨h1, h2, h3, h4, h5⟩ := h
  refine ⟨dtk_ok o h1, by omega, fun q => ?_, fun _ q => by omega, ?_⟩
  · rw [dtk_zero o (h3 q)]; exact h3 q
  · have hm := dmost_tick o h1
    unfold dmostT at hm
    split at hm <;> omega
theorem panel_most {p x l t w dw rt : Int} (hV : dV p x l t w dw rt) : 0 ≤ x ∧ x ≤ dmost p x l t w dw rt := by
  obtain ⟨h1, h2, h3, h4⟩ := hV
  have hb := dprod h1 h3.2.2.2.2.1 h3.2.2.2.2.2
  unfold dmost
  repeat' split
  all_goals omega
theorem cv_force {p x l t a : Int} {ps : Bool} {w dw rt : Int} (h : CV p x l t a ps w dw rt) :
    CV (dfc p x l t).1 (dfc p x l t).2.1 (dfc p x l t).2.2.1 (dfc p x l t).2.2.2 a (if (dfc p x l t).1 = 0 then true else ps) w dw rt := by
  obtain ⟨h1, h2, h3, h4, h5⟩ := h
  have hp := panel_most h1
  have hd := h1.form
  refine ⟨dfc_ok h1, h2, ?_, ?_, ?_⟩
  · unfold dfc
    split
    · intro _; rfl
    · intro q
      dsimp only at q
      rw [if_neg (by decide)] at q
      have := h3 q
      subst this
      omega
  · unfold dfc
    split
    · intro q
      rw [if_pos rfl] at q
      cases q
    · rename_i hx
      intro q q0
      dsimp only at q
      rw [if_neg (by decide)] at q
      have := h4 q q0
      exact absurd this.2.1 hx
  · unfold dfc
    split
    · dsimp only; rw [dmost_eq0]; omega
    · dsimp only; rw [dmost_eq5]; omega
theorem cv_begin {w dw rt : Int} (h : dRule w dw rt) : CV 1 0 0 0 0 false w dw rt := by
  have hb := cwst_bound h
  refine ⟨⟨h, by omega, by omega, by omega⟩, by omega, fun q => (by cases q), fun _ _ => ⟨rfl, rfl, rfl, rfl⟩, ?_⟩
  rw [dmost_eq1, Int.sub_zero rt]
  unfold cwst
  omega
theorem cv_pass {w dw rt : Int} (h : dRule w dw rt) : CV 0 0 0 0 0 true w dw rt := by
  have hb := cwst_bound h
  exact ⟨⟨h, by omega, by omega, by omega⟩, by omega, fun _ => rfl, fun q => (by cases q), by rw [dmost_eq0]; omega⟩

end Go.Proofs.Ytmjmdnpenpdmhaa.P
