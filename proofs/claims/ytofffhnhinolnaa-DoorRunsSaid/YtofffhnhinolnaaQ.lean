/- What the program and the reference compute for doors, in closed form: plain Lean, no program. -/
import Derived.Test.YtofffhnhinolnaaQ0
import Derived.Test.YtofffhnhinolnaaP0doora
import Derived.Test.YtofffhnhinolnaaP1door
import Derived.Test.YtofffhnhinolnaaP0tipstaffref18
import Derived.Test.YtofffhnhinolnaaP0tipstaffref18b
import Derived.Test.YtofffhnhinolnaaP1tipstafflaw18
namespace Go.Proofs.Ytofffhnhinolnaa.P
open Go.RowKit Go.Proofs.YtofffhnhinolnaaW.PrintWords Go.Proofs.YtofffhnhinolnaaW.PrintLast Go.Proofs.YtofffhnhinolnaaW.PrintMore
set_option linter.unusedSimpArgs false
set_option linter.unusedVariables false

theorem ref_Rule_eq (w dw rt : Int) : ref_Rule.f w dw rt = some (if dRule w dw rt then 0 else 2) := by
  rw [← Rule_eq]
  rfl

theorem ref_Check_eq (k : Nat) (p x l t w dw rt : Int) : ref_Check.f (k + 2) p x l t w dw rt = some (dchk p x l t w dw rt) := by
  unfold ref_Check.f dchk
  rw [ref_Rule_eq, Option.bind_some]
  by_cases h1 : dRule w dw rt
  · rw [if_pos h1, if_pos rfl, if_pos h1]
    by_cases h2 : 0 ≤ p ∧ p ≤ 5
    · rw [if_pos h2, if_neg (by omega), decide_eq_false (by omega), ref_Check.j0, if_neg (by decide)]
      by_cases h3 : dRange x l t w dw rt
      · rw [if_pos h3, if_neg (by omega), if_neg (by omega), if_neg (by omega), if_neg (by omega), if_neg (by omega), decide_eq_false (by omega), ref_Check.j1, if_neg (by decide)]
        have hf : ref_fits.f p x l t w dw rt = some (decide (dForm p x l t w dw rt)) := by
          unfold ref_fits.f
          have e1 : (p == 2) = decide (p = 2) := rfl
          rw [e1]
          by_cases hp : p = 2
          · subst hp
            by_cases hl : l > 0
            · rw [decide_eq_true hl, decide_eq_true rfl, if_neg (by decide)]
              by_cases hx : x = w
              · rw [decide_eq_true (show dForm 2 x l t w dw rt by omega)]; simp [hx]
              · rw [decide_eq_false (show ¬ dForm 2 x l t w dw rt by omega)]; simp [hx]
            · rw [decide_eq_false hl, decide_eq_true rfl, if_pos (by decide), decide_eq_false (show ¬ dForm 2 x l t w dw rt by omega)]
          · by_cases hl : l > 0
            · rw [decide_eq_true hl, decide_eq_false hp, if_pos (by decide), decide_eq_false (show ¬ dForm p x l t w dw rt by omega)]
            · rw [decide_eq_false hl, decide_eq_false hp, if_neg (by decide)]
              have e3 : (t == 0) = decide (t = 0) := rfl
              have e4 : (t == rt) = decide (t = rt) := rfl
              have e5 : (x == w) = decide (x = w) := rfl
              rw [e3, e4, e5]
              repeat' split
              all_goals
                congr 1
                by_cases hd : dForm p x l t w dw rt
                · refine Eq.trans ?_ (decide_eq_true hd).symm
                  first | exact decide_eq_true (by omega) | (exfalso; omega) | rfl
                · refine Eq.trans ?_ (decide_eq_false hd).symm
                  first | rfl | exact decide_eq_false (by omega)
        rw [hf, Option.bind_some]
        by_cases h4 : dForm p x l t w dw rt
        · rw [if_pos h4, decide_eq_true h4, if_pos rfl]
        · rw [if_neg h4, decide_eq_false h4, if_neg (by decide)]
      · rw [if_neg h3]
        have e : ∀ k, ref_Check.j1 (k + 1) true p x l t w dw rt = some 2 := fun k => by rw [ref_Check.j1, if_pos rfl]
        repeat' split
        all_goals first | exact e _ | (rw [decide_eq_true (by omega)]; exact e _)
    · rw [if_neg h2]
      have e : ∀ k, ref_Check.j0 (k + 1) true p x l t w dw rt = some 11 := fun k => by rw [ref_Check.j0, if_pos rfl]
      split
      · exact e _
      · rw [decide_eq_true (by omega)]; exact e _
  · rw [if_neg h1, if_neg (by decide), if_neg h1]

theorem ref_fall_eq (p x l t : Int) (h : 0 ≤ x ∧ x ≤ 1000) : ref_fall.f p x l t = some (if x - 1 = 0 then (0, 0, 0, 0) else (p, x - 1, l, t)) := by
  unfold ref_fall.f
  rw [wsm (x - 1) (by omega) (by omega)]
  split <;> rfl

theorem ref_step_eq (p x l t w dw rt : Int) (o : Bool) (h : dV p x l t w dw rt) :
    ref_step.f p x l t w dw rt o = some ((dtk p x l t w dw rt o).1, (dtk p x l t w dw rt o).2.1, (dtk p x l t w dw rt o).2.2.1, (dtk p x l t w dw rt o).2.2.2, dop p x w) := by
  obtain ⟨h1, h2, h3, h4⟩ := h
  unfold ref_step.f
  rw [wsm (x + 1) (by omega) (by omega), wsm (l - 1) (by omega) (by omega), wsm (t + 1) (by omega) (by omega)]
  by_cases p1 : p = 1
  · subst p1
    rw [if_pos rfl]
    by_cases q : x + 1 = w
    · rw [if_pos q]; simp [dtk, dop, q]
    · rw [if_neg q]; simp [dtk, dop, q]
  have hd : dop p x w = false := decide_eq_false (fun q => p1 q.1)
  rw [if_neg p1, hd]
  by_cases p2 : p = 2
  · subst p2
    rw [if_pos rfl]
    by_cases q : l - 1 = 0
    · rw [if_pos q]; simp [dtk, q]
    · rw [if_neg q]; simp [dtk, q]
  rw [if_neg p2]
  by_cases p3 : p = 3
  · subst p3
    rw [if_pos rfl, ref_fall_eq _ _ _ _ (by omega), ref_fall_eq _ _ _ _ (by omega), Option.bind_some, Option.bind_some]
    cases o
    · rw [if_neg (by decide)]
      by_cases q : x - 1 = 0
      · simp [dtk, q]
      · simp [dtk, q]
    · rw [if_pos rfl]
      by_cases q : t = rt
      · rw [if_pos q]
        subst q
        by_cases q : x - 1 = 0
        · simp [dtk, q]
        · simp [dtk, q]
      · rw [if_neg q]
        have ht : t < rt := by omega
        by_cases q2 : x = w
        · rw [if_pos q2]; simp [dtk, ht, q2]
        · rw [if_neg q2]
          have hl : l = 0 := by omega
          simp [dtk, ht, q2]
  rw [if_neg p3]
  by_cases p4 : p = 4
  · subst p4
    rw [if_pos rfl, ref_fall_eq _ _ _ _ (by omega), Option.bind_some]
    by_cases q : x - 1 = 0
    · simp [dtk, q]
    · simp [dtk, q]
  rw [if_neg p4]
  by_cases p5 : p = 5
  · subst p5
    rw [if_pos rfl, ref_fall_eq _ _ _ _ (by omega), Option.bind_some]
    by_cases q : x - 1 = 0
    · simp [dtk, q]
    · simp [dtk, q]
  rw [if_neg p5]
  simp [dtk, p1, p2, p3, p4, p5]

end Go.Proofs.Ytofffhnhinolnaa.P
