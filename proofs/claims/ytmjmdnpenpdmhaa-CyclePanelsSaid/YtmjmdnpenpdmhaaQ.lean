/- What the reference and the program compute for doors and cycles, in closed form: plain Lean, no program. -/
import Derived.Test.YtmjmdnpenpdmhaaP0tipstaffref18
import Derived.Test.YtmjmdnpenpdmhaaP0tipstaffref18a
import Derived.Test.YtmjmdnpenpdmhaaP0tipstaffref18b
import Derived.Test.YtmjmdnpenpdmhaaP0tipstaffref18c
import Derived.Test.YtmjmdnpenpdmhaaP0tipstaffref18d
import Derived.Test.YtmjmdnpenpdmhaaP0tipstaffref19
import Derived.Test.YtmjmdnpenpdmhaaP0tipstaffref19a
import Derived.Test.YtmjmdnpenpdmhaaP0tipstaffref19b
import Derived.Test.YtmjmdnpenpdmhaaQp
namespace Go.Proofs.Ytmjmdnpenpdmhaa.P
open Go.RowKit Go.Proofs.YtmjmdnpenpdmhaaW.PrintWords Go.Proofs.YtmjmdnpenpdmhaaW.PrintLast Go.Proofs.YtmjmdnpenpdmhaaW.PrintMore
set_option linter.unusedSimpArgs false
set_option linter.unusedVariables false

theorem r18_Rule_eq (w dw rt : Int) : r18_Rule.f w dw rt = some (if dRule w dw rt then 0 else 2) := by
  rw [← Rule_eq]
  rfl

theorem r18_Check_eq (k : Nat) (p x l t w dw rt : Int) : r18_Check.f (k + 2) p x l t w dw rt = some (dchk p x l t w dw rt) := by
  unfold r18_Check.f dchk
  rw [r18_Rule_eq, Option.bind_some]
  by_cases h1 : dRule w dw rt
  · rw [if_pos h1, if_pos rfl, if_pos h1]
    by_cases h2 : 0 ≤ p ∧ p ≤ 5
    · rw [if_pos h2, if_neg (by omega), decide_eq_false (by omega), r18_Check.j0, if_neg (by decide)]
      by_cases h3 : dRange x l t w dw rt
      · rw [if_pos h3, if_neg (by omega), if_neg (by omega), if_neg (by omega), if_neg (by omega), if_neg (by omega), decide_eq_false (by omega), r18_Check.j1, if_neg (by decide)]
        have hf : r18_fits.f p x l t w dw rt = some (decide (dForm p x l t w dw rt)) := by
          unfold r18_fits.f
          have e1 : (p == 2) = decide (p = 2) := rfl
          rw [e1]
          by_cases hp : p = 2
          · subst hp
            by_cases hl : l > 0
            · rw [decide_eq_true hl, decide_eq_true rfl, if_neg (by decide)]
              by_cases hx : x = w
              · rw [decide_eq_true (show dForm 2 x l t w dw rt by omega)]; simp [hx]
              · rw [decide_eq_false (show ¬ dForm 2 x l t w dw rt by omega)]; simp [hx]
            · rw [decide_eq_false hl, decide_eq_true rfl, if_pos (by decide), decide_eq_false (show ¬ dForm 2 x l t w dw rt by omega)]
          · by_cases hl : l > 0
            · rw [decide_eq_true hl, decide_eq_false hp, if_pos (by decide), decide_eq_false (show ¬ dForm p x l t w dw rt by omega)]
            · rw [decide_eq_false hl, decide_eq_false hp, if_neg (by decide)]
              have e3 : (t == 0) = decide (t = 0) := rfl
              have e4 : (t == rt) = decide (t = rt) := rfl
              have e5 : (x == w) = decide (x = w) := rfl
              rw [e3, e4, e5]
              repeat' split
              all_goals
                congr 1
                by_cases hd : dForm p x l t w dw rt
                · refine Eq.trans ?_ (decide_eq_true hd).symm
                  first | exact decide_eq_true (by omega) | (exfalso; omega) | rfl
                · refine Eq.trans ?_ (decide_eq_false hd).symm
                  first | rfl | exact decide_eq_false (by omega)
        rw [hf, Option.bind_some]
        by_cases h4 : dForm p x l t w dw rt
        · rw [if_pos h4, decide_eq_true h4, if_pos rfl]
        · rw [if_neg h4, decide_eq_false h4, if_neg (by decide)]
      · rw [if_neg h3]
        have e : ∀ k, r18_Check.j1 (k + 1) true p x l t w dw rt = some 2 := fun k => by rw [r18_Check.j1, if_pos rfl]
        repeat' split
        all_goals first | exact e _ | (rw [decide_eq_true (by omega)]; exact e _)
    · rw [if_neg h2]
      have e : ∀ k, r18_Check.j0 (k + 1) true p x l t w dw rt = some 11 := fun k => by rw [r18_Check.j0, if_pos rfl]
      split
      · exact e _
      · rw [decide_eq_true (by omega)]; exact e _
  · rw [if_neg h1, if_neg (by decide), if_neg h1]

theorem r18_fall_eq (p x l t : Int) (h : 0 ≤ x ∧ x ≤ 1000) : r18_fall.f p x l t = some (if x - 1 = 0 then (0, 0, 0, 0) else (p, x - 1, l, t)) := by
  unfold r18_fall.f
  rw [wsm (x - 1) (by omega) (by omega)]
  split <;> rfl

theorem r18_step_eq (p x l t w dw rt : Int) (o : Bool) (h : dV p x l t w dw rt) :
    r18_step.f p x l t w dw rt o = some ((dtk p x l t w dw rt o).1, (dtk p x l t w dw rt o).2.1, (dtk p x l t w dw rt o).2.2.1, (dtk p x l t w dw rt o).2.2.2, dop p x w) := by
  obtain ⟨h1, h2, h3, h4⟩ := h
  unfold r18_step.f
  rw [wsm (x + 1) (by omega) (by omega), wsm (l - 1) (by omega) (by omega), wsm (t + 1) (by omega) (by omega)]
  by_cases p1 : p = 1
  · subst p1
    rw [if_pos rfl]
    by_cases q : x + 1 = w
    · rw [if_pos q]; simp [dtk, dop, q]
    · rw [if_neg q]; simp [dtk, dop, q]
  have hd : dop p x w = false := decide_eq_false (fun q => p1 q.1)
  rw [if_neg p1, hd]
  by_cases p2 : p = 2
  · subst p2
    rw [if_pos rfl]
    by_cases q : l - 1 = 0
    · rw [if_pos q]; simp [dtk, q]
    · rw [if_neg q]; simp [dtk, q]
  rw [if_neg p2]
  by_cases p3 : p = 3
  · subst p3
    rw [if_pos rfl, r18_fall_eq _ _ _ _ (by omega), r18_fall_eq _ _ _ _ (by omega), Option.bind_some, Option.bind_some]
    cases o
    · rw [if_neg (by decide)]
      by_cases q : x - 1 = 0
      · simp [dtk, q]
      · simp [dtk, q]
    · rw [if_pos rfl]
      by_cases q : t = rt
      · rw [if_pos q]
        subst q
        by_cases q : x - 1 = 0
        · simp [dtk, q]
        · simp [dtk, q]
      · rw [if_neg q]
        have ht : t < rt := by omega
        by_cases q2 : x = w
        · rw [if_pos q2]; simp [dtk, ht, q2]
        · rw [if_neg q2]
          have hl : l = 0 := by omega
          simp [dtk, ht, q2]
  rw [if_neg p3]
  by_cases p4 : p = 4
  · subst p4
    rw [if_pos rfl, r18_fall_eq _ _ _ _ (by omega), Option.bind_some]
    by_cases q : x - 1 = 0
    · simp [dtk, q]
    · simp [dtk, q]
  rw [if_neg p4]
  by_cases p5 : p = 5
  · subst p5
    rw [if_pos rfl, r18_fall_eq _ _ _ _ (by omega), Option.bind_some]
    by_cases q : x - 1 = 0
    · simp [dtk, q]
    · simp [dtk, q]
  rw [if_neg p5]
  simp [dtk, p1, p2, p3, p4, p5]

theorem least_ok (w dw rt : Int) : ∀ (n k : Nat) (p x l t i : Int), dV p x l t w dw rt → dleast p x l w dw = n → 0 ≤ i → i + n ≤ 1000 →
    r18_least.l0 (k + n + 1) i p x l t w dw rt = some (i + n) := by
  intro n
  induction n with
  | zero =>
    intro k p x l t i hV hn hi hi2
    have := dleast_bound hV
    have hp : p = 0 := this.2.2.1 (by omega)
    rw [show k + 0 + 1 = (k + 0) + 1 from rfl, r18_least.l0, if_pos hp]
    congr 1; omega
  | succ n ih =>
    intro k p x l t i hV hn hi hi2
    have hb := dleast_bound hV
    have hp : p ≠ 0 := fun q => by have := hb.2.2.2 q; omega
    have hs := dleast_step hV hp
    rw [show k + (n + 1) + 1 = (k + n + 1) + 1 from by omega, r18_least.l0, if_neg hp, r18_step_eq p x l t w dw rt false hV, Option.bind_some]
    dsimp only
    rw [wsm (i + 1) (by omega) (by omega), ih k _ _ _ _ (i + 1) (dtk_ok false hV) (by omega) (by omega) (by omega)]
    congr 1; omega

theorem most_ok (w dw rt : Int) : ∀ (n k : Nat) (p x l t i : Int), dV p x l t w dw rt → dmost p x l t w dw rt = n → 0 ≤ i → i + n ≤ 1000 →
    r18_most.l0 (k + n + 1) i p x l t w dw rt = some (i + n) := by
  intro n
  induction n with
  | zero =>
    intro k p x l t i hV hn hi hi2
    have := dmost_bound hV
    have hp : p = 0 := this.2.2.1 (by omega)
    rw [show k + 0 + 1 = (k + 0) + 1 from rfl, r18_most.l0, if_pos hp]
    congr 1; omega
  | succ n ih =>
    intro k p x l t i hV hn hi hi2
    have hb := dmost_bound hV
    have hp : p ≠ 0 := fun q => by have := hb.2.2.2 q; omega
    have hs := dmost_step hV hp
    have fin : ∀ o : Bool, dmostT (dtk p x l t w dw rt o) w dw rt = dmost p x l t w dw rt - 1 →
        ((r18_step.f p x l t w dw rt o).bind fun bt => r18_most.l0 (k + n + 1) (wrap64 (i + 1)) bt.1 bt.2.1 bt.2.2.1 bt.2.2.2.1 w dw rt) = some (i + ((n + 1 : Nat) : Int)) := fun o ho => by
      unfold dmostT at ho
      rw [r18_step_eq p x l t w dw rt o hV, Option.bind_some]
      dsimp only
      rw [wsm (i + 1) (by omega) (by omega), ih k _ _ _ _ (i + 1) (dtk_ok o hV) (by omega) (by omega) (by omega)]
      congr 1; omega
    rw [show k + (n + 1) + 1 = (k + n + 1) + 1 from by omega, r18_most.l0, if_neg hp]
    by_cases h3 : p = 3
    · rw [if_pos h3]
      have hf := hs.2.2 h3
      by_cases hx : x = 1
      · rw [if_pos hx]
        rw [show decide (x = 1 ∧ t < rt) = decide (t < rt) from by simp [hx]] at hf
        exact fin _ hf
      · rw [if_neg hx]
        rw [show decide (x = 1 ∧ t < rt) = false from by simp [hx]] at hf
        exact fin _ hf
    · rw [if_neg h3]
      exact fin _ (hs.1 h3)


theorem r18_Rest_eq (k : Nat) (p x l t w dw rt : Int) (h : dV p x l t w dw rt) : r18_Rest.f (k + 700) p x l t w dw rt = some (dleast p x l w dw, dmost p x l t w dw rt, 0) := by
  unfold r18_Rest.f
  rw [show k + 700 = (k + 698) + 2 from rfl, r18_Check_eq, dchk_zero.2 h, Option.bind_some, if_pos rfl]
  have b1 := dleast_bound h
  have b2 := dmost_bound h
  obtain ⟨n, hn⟩ : ∃ n : Nat, dleast p x l w dw = n := ⟨(dleast p x l w dw).toNat, by omega⟩
  obtain ⟨m, hm⟩ : ∃ m : Nat, dmost p x l t w dw rt = m := ⟨(dmost p x l t w dw rt).toNat, by omega⟩
  have e1 := least_ok w dw rt n (k + 698 + 2 - n - 1) p x l t 0 h hn (by omega) (by omega)
  have e2 := most_ok w dw rt m (k + 698 + 2 - m - 1) p x l t 0 h hm (by omega) (by omega)
  rw [show k + 698 + 2 - n - 1 + n + 1 = k + 698 + 2 from by omega] at e1
  rw [show k + 698 + 2 - m - 1 + m + 1 = k + 698 + 2 from by omega] at e2
  unfold r18_least.f r18_most.f
  rw [e1, Option.bind_some, e2, Option.bind_some, hn, hm, Int.zero_add, Int.zero_add]
theorem r18_Open_closed (k : Nat) (w dw rt : Int) (h : dRule w dw rt) : r18_Open.f (k + 2) 0 0 0 0 w dw rt = some (1, 0, 0, 0, 0) := by
  have hV : dV 0 0 0 0 w dw rt := ⟨h, by omega, by omega, by omega⟩
  unfold r18_Open.f
  rw [r18_Check_eq, dchk_zero.2 hV, Option.bind_some, if_pos rfl, r18_Open.j0]
  rfl
theorem r18_Step_eq (k : Nat) (p x l t w dw rt : Int) (o : Bool) (h : dV p x l t w dw rt) : r18_Step.f (k + 2) p x l t w dw rt o =
    some ((dtk p x l t w dw rt o).1, (dtk p x l t w dw rt o).2.1, (dtk p x l t w dw rt o).2.2.1, (dtk p x l t w dw rt o).2.2.2, dop p x w, 0) := by
  unfold r18_Step.f
  rw [r18_Check_eq, dchk_zero.2 h, Option.bind_some, if_pos rfl, r18_step_eq p x l t w dw rt o h, Option.bind_some]
theorem r18_Force_ok (k : Nat) {p x l t w dw rt : Int} (h : dV p x l t w dw rt) : r18_Force.f (k + 2) p x l t w dw rt = some ((dfc p x l t).1, (dfc p x l t).2.1, (dfc p x l t).2.2.1, (dfc p x l t).2.2.2, 0) := by
  unfold r18_Force.f dfc
  rw [r18_Check_eq, dchk_zero.2 h, Option.bind_some, if_pos rfl]
  by_cases c : x = 0
  · rw [if_pos c, if_pos c]
  · rw [if_neg c, if_neg c]
theorem r18_Worst_eq (w dw rt : Int) : r18_Worst.f w dw rt = some (if dRule w dw rt then (cwst w dw rt, 0) else (0, 2)) := by
  unfold r18_Worst.f
  rw [r18_Rule_eq, Option.bind_some]
  by_cases h : dRule w dw rt
  · rw [if_pos h, if_pos rfl, Worst_in w dw rt h, if_pos h]
    rfl
  · rw [if_neg h, if_neg (by decide), if_neg h]

theorem ref_Begin_eq (k : Nat) (w dw rt : Int) (b : Bool) : ref_Begin.f (k + 2) w dw rt b = some (if dRule w dw rt then (if b = true then (1, 0, 0, 0, 0, false, 0) else (0, 0, 0, 0, 0, true, 0)) else (0, 0, 0, 0, 0, false, 2)) := by
  unfold ref_Begin.f
  rw [r18_Rule_eq, Option.bind_some]
  by_cases h : dRule w dw rt
  · rw [if_pos h, if_pos rfl, if_pos h, r18_Open_closed k w dw rt h]
    cases b
    · rfl
    · rfl
  · rw [if_neg h, if_neg (by decide), if_neg h]
theorem cycle_Begin_eq (k : Nat) (w dw rt : Int) (b : Bool) : cycle_Begin.f (k + 2) w dw rt b = some (if dRule w dw rt then (if b = true then (1, 0, 0, 0, 0, false, 0) else (0, 0, 0, 0, 0, true, 0)) else (0, 0, 0, 0, 0, false, 2)) := by
  by_cases h : dRule w dw rt
  · rw [if_pos h, Begin_ok k w dw rt h b]
  · unfold cycle_Begin.f
    rw [worst_eq, if_neg h, if_neg h, Option.bind_some, if_neg (by decide)]
theorem ref_Check_eq (k : Nat) (p x l t a : Int) (ps : Bool) (w dw rt : Int) : ref_Check.f (k + 710) p x l t a ps w dw rt = some (cchk p x l t a ps w dw rt) := by
  unfold ref_Check.f
  rw [r18_Worst_eq]
  by_cases hR : dRule w dw rt
  · have hb := cwst_bound hR
    rw [if_pos hR, Option.bind_some, if_pos rfl, show k + 710 = (k + 708) + 2 from rfl, r18_Check_eq, Option.bind_some, show k + 708 + 2 = (k + 709) + 1 from rfl, ref_Check.j0]
    by_cases hd : dchk p x l t w dw rt = 0
    · have hV := dchk_zero.1 hd
      rw [hd, if_pos rfl]
      unfold cchk
      rw [if_pos hd]
      by_cases ha : 0 ≤ a ∧ a ≤ cwst w dw rt
      · rw [if_pos ha, if_neg (by omega), decide_eq_false (by omega), show k + 709 = (k + 708) + 1 from rfl, ref_Check.j1, if_neg (by decide), show k + 708 = (k + 706) + 2 from rfl, ref_Begin_eq, if_pos hR, if_pos rfl, Option.bind_some, show k + 706 + 2 = (k + 8) + 700 from rfl, r18_Rest_eq (k + 8) p x l t w dw rt hV, Option.bind_some, wsm (cwst w dw rt - a) (by omega) (by omega)]
        dsimp only
        cases ps
        · rw [if_neg (by decide)]
          by_cases hc : cform p x l t a false w dw rt
          · rw [if_pos hc]
            obtain ⟨c1, c2, c3⟩ := hc
            by_cases h0 : a = 0
            · obtain ⟨e1, e2, e3, e4⟩ := c2 rfl h0
              subst e1; subst e2; subst e3; subst e4
              rw [if_pos h0, if_neg (by decide), if_neg (by omega)]
            · rw [if_neg h0, if_neg (by omega)]
          · rw [if_neg hc]
            by_cases h0 : a = 0
            · rw [if_pos h0]
              by_cases h1 : p = 1 ∧ x = 0 ∧ l = 0 ∧ t = 0
              · obtain ⟨e1, e2, e3, e4⟩ := h1
                subst e1; subst e2; subst e3; subst e4
                rw [if_neg (by decide), if_pos]
                apply Int.lt_of_not_ge
                intro q
                exact hc ⟨fun h => (by cases h), fun _ _ => ⟨rfl, rfl, rfl, rfl⟩, q⟩
              · rw [if_pos]
                simp
                omega
            · rw [if_neg h0, if_pos]
              apply Int.lt_of_not_ge
              intro q
              exact hc ⟨fun h => (by cases h), fun _ h => absurd h h0, q⟩
        · rw [if_pos rfl]
          by_cases hp : p = 0
          · subst hp
            rw [if_pos rfl, dmost_eq0, if_neg (by omega), if_pos ⟨fun _ => rfl, fun h => (by cases h), by rw [dmost_eq0]; omega⟩]
          · rw [if_neg hp, if_neg (fun h => hp (h.1 rfl))]
      · rw [if_neg ha]
        have e : ∀ k, ref_Check.j1 (k + 1) (cwst w dw rt) true p x l t a ps w dw rt = some 2 := fun k => by rw [ref_Check.j1, if_pos rfl]
        by_cases h0 : a < 0
        · rw [if_pos h0]; exact e _
        · rw [if_neg h0, decide_eq_true (by omega)]; exact e _
    · rw [if_neg hd]
      unfold cchk
      rw [if_neg hd]
  · rw [if_neg hR, Option.bind_some, if_neg (by decide), show k + 710 = (k + 709) + 1 from rfl, ref_Check.j0, if_neg (by decide)]
    unfold cchk
    rw [dchk_rule hR, if_neg (by decide)]
theorem ref_Left_eq (k : Nat) (p x l t a : Int) (ps : Bool) (w dw rt : Int) : ref_Left.f (k + 710) p x l t a ps w dw rt = some (if cchk p x l t a ps w dw rt = 0 then (cwst w dw rt - a, 0) else (0, cchk p x l t a ps w dw rt)) := by
  unfold ref_Left.f
  rw [ref_Check_eq, Option.bind_some]
  by_cases h : cchk p x l t a ps w dw rt = 0
  · have hV := cchk_zero.1 h
    have hb := cwst_bound hV.door.rule
    have ha := hV.at_
    rw [if_pos h, if_pos h, r18_Worst_eq, if_pos hV.door.rule, Option.bind_some, wsm (cwst w dw rt - a) (by omega) (by omega)]
  · rw [if_neg h, if_neg h]
theorem ref_Step_eq (k : Nat) (p x l t a : Int) (ps : Bool) (w dw rt : Int) (o : Bool) : ref_Step.f (k + 710) p x l t a ps w dw rt o = some (cstep p x l t a ps w dw rt o) := by
  unfold ref_Step.f cstep
  rw [ref_Left_eq, Option.bind_some]
  by_cases h : cchk p x l t a ps w dw rt = 0
  · have hV := cchk_zero.1 h
    have hb := cwst_bound hV.door.rule
    have ha := hV.at_
    rw [if_pos h, if_pos h]
    dsimp only
    rw [if_pos rfl, show k + 710 = (k + 709) + 1 from rfl, ref_Step.j0]
    by_cases h2 : a = cwst w dw rt
    · rw [if_pos h2, if_pos (by rw [beq_iff_eq]; omega)]
    · rw [if_neg h2, if_neg (by rw [beq_iff_eq]; omega), if_pos rfl, show k + 709 = (k + 707) + 2 from rfl, r18_Step_eq (k + 707) p x l t w dw rt o hV.door, Option.bind_some, wsm (a + 1) (by omega) (by omega)]
  · rw [if_neg h, if_neg h]
    dsimp only
    rw [if_neg h, show k + 710 = (k + 709) + 1 from rfl, ref_Step.j0, if_neg (by decide), if_neg h]
theorem ref_Force_eq (k : Nat) (p x l t a : Int) (ps : Bool) (w dw rt : Int) : ref_Force.f (k + 710) p x l t a ps w dw rt = some (cforce p x l t a ps w dw rt) := by
  unfold ref_Force.f cforce
  rw [ref_Check_eq, Option.bind_some]
  by_cases h : cchk p x l t a ps w dw rt = 0
  · rw [if_pos h, if_pos h, show k + 710 = (k + 708) + 2 from rfl, r18_Force_ok (k + 708) (cchk_zero.1 h).door, Option.bind_some]
    dsimp only
    by_cases c : (dfc p x l t).1 = 0
    · rw [if_pos c, if_pos c]
    · rw [if_neg c, if_neg c]
  · rw [if_neg h, if_neg h]
end Go.Proofs.Ytmjmdnpenpdmhaa.P
