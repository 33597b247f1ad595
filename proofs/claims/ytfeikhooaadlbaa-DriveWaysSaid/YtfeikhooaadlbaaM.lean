/- What the program computes for valid drives, in closed form: plain Lean, no program. -/
import Derived.Test.YtfeikhooaadlbaaDrQ
import Derived.Test.YtfeikhooaadlbaaP0drivea
import Derived.Test.YtfeikhooaadlbaaP1driveb
import Derived.Test.YtfeikhooaadlbaaP0tipstafflaw13
import Derived.Test.YtfeikhooaadlbaaP0tipstaffkit
namespace Go.Proofs.Ytfeikhooaadlbaa.P
open Go.RowKit Go.Proofs.YtfeikhooaadlbaaW.PrintWords Go.Proofs.YtfeikhooaadlbaaW.PrintLast Go.Proofs.YtfeikhooaadlbaaW.PrintMore
set_option linter.unusedSimpArgs false
set_option linter.unusedVariables false

theorem mod_eq (a m : Int) (hm : 1 ≤ m) (hm2 : m ≤ 10000000) : ∃ r, kit_Mod.f a m = some r ∧ 0 ≤ r ∧ r < m := by
  unfold kit_Mod.f
  rw [if_neg (by omega), if_neg (by omega)]
  have h1 := Int.tmod_lt_of_pos a (show 0 < m by omega)
  have h2 : -m < Int.tmod a m := by
    have h3 := Int.tmod_lt_of_pos (-a) (show 0 < m by omega)
    rw [Int.neg_tmod] at h3
    omega
  by_cases h : Int.tmod a m < 0
  · rw [if_pos h]
    exact ⟨_, rfl, by rw [wsm _ (by omega) (by omega)]; omega, by rw [wsm _ (by omega) (by omega)]; omega⟩
  · rw [if_neg h]
    exact ⟨_, rfl, by omega, by omega⟩
theorem made_ok (a b n : Int) : ∃ p g sp br, q_made.f a b n = some (p, g, sp, br) ∧ 0 ≤ p ∧ p < 400 ∧ 0 ≤ g ∧ g < 400 ∧ 1 ≤ sp ∧ sp ≤ 20 ∧ 0 ≤ br ∧ br ≤ 5 := by
  obtain ⟨k, hk, h0, h1⟩ := mod_eq n 1000 (by omega) (by omega)
  obtain ⟨p, hp, h2, h3⟩ := mod_eq a 400 (by omega) (by omega)
  obtain ⟨g, hg, h4, h5⟩ := mod_eq b 400 (by omega) (by omega)
  unfold q_made.f
  rw [hk, hp, hg, Option.bind_some, Option.bind_some, Option.bind_some]
  have e1 : Int.tmod k 20 = k % 20 := Int.tmod_eq_emod_of_nonneg h0
  have e2 : Int.tdiv k 20 = k / 20 := Int.tdiv_eq_ediv_of_nonneg h0
  rw [e1, e2, wsm (k / 20) (by omega) (by omega), wsm (1 + k % 20) (by omega) (by omega)]
  have e3 : Int.tmod (k / 20) 6 = (k / 20) % 6 := Int.tmod_eq_emod_of_nonneg (by omega)
  rw [e3]
  exact ⟨_, _, _, _, rfl, by omega, by omega, by omega, by omega, by omega, by omega, by omega, by omega⟩
theorem at_eq (a : Int) : drive_at.f a = some (decide (0 ≤ a ∧ a ≤ 63000)) := by
  unfold drive_at.f
  by_cases h : a ≥ 0
  · rw [if_pos h]
    by_cases h2 : a ≤ 63000
    · rw [decide_eq_true h2, decide_eq_true ⟨h, h2⟩]
    · rw [decide_eq_false h2, decide_eq_false (fun q => h2 q.2)]
  · rw [if_neg h, decide_eq_false (fun q => h q.1)]
theorem dleft_eq (p g s part left : Int) (h : 0 ≤ p ∧ p ≤ 63000 ∧ 0 ≤ g ∧ g ≤ 63000) : drive_left.f p g s part left = some (lf p g) := by
  unfold drive_left.f
  rw [mx_lf p g h]
theorem halves (s : Int) (h : 0 ≤ s) (h2 : s ≤ 20) : wrap64 (Int.tdiv (wrap64 (s * (wrap64 (s - 1)))) 2) = ptri (s - 1) := by
  have hb : 0 ≤ s * (s - 1) ∧ s * (s - 1) ≤ 20 * 20 := by
    by_cases h0 : s = 0
    · subst h0; decide
    · exact ⟨Int.mul_nonneg h (by omega), Int.mul_le_mul h2 (by omega) (by omega) (by omega)⟩
  rw [wsm (s - 1) (by omega) (by omega), wsm (s * (s - 1)) (by omega) (by omega), Int.tdiv_eq_ediv_of_nonneg hb.1, wsm _ (by omega) (by omega)]
  unfold ptri
  rw [show s - 1 + 1 = s from by omega, Int.mul_comm]
theorem formed_ok (k : Nat) {sp br p g s part left : Int} (h : DV sp br p g s part left) : drive_formed.f (k + 2) p g s part left = some true := by
  obtain ⟨hr, hpl, hf⟩ := h
  have hl := lf_le hpl
  have hz : lf p p = 0 := by unfold lf; rw [if_pos (Int.le_refl _)]; omega
  unfold drive_formed.f
  have hm : ptri (0 - 1) = 0 := by decide
  rcases hf with ⟨rfl, rfl, rfl, rfl⟩ | ⟨rfl, e2, rfl, e4, e5⟩ | ⟨rfl, e2, rfl, e4, e5, e6⟩ | ⟨rfl, rfl, rfl, e4, e5⟩
  · rw [if_neg (by decide), drive_formed.j0, if_neg (by decide), if_pos rfl, drive_formed.j1, dleft_eq g g 0 0 0 hpl, Option.bind_some, hz, if_neg (by decide), if_neg (by decide), if_pos rfl, Option.bind_some, halves 0 (by decide) (by decide), hm]
    rfl
  · have := hl.2.2 e2
    rw [if_pos rfl, drive_formed.j0, decide_eq_true e4, if_neg (by decide), if_neg (by decide), drive_formed.j1, dleft_eq p g 0 1 left hpl, Option.bind_some, show (lf p g == 0) = false from beq_eq_false_iff_ne.mpr (by omega), if_neg (by decide), if_neg (by decide), if_pos rfl, Option.bind_some, halves 0 (by decide) (by decide), hm, decide_eq_true hl.1]
  · have := hl.2.2 e2
    rw [if_neg (by decide), drive_formed.j0, if_neg (by decide), if_neg (by decide), drive_formed.j1, dleft_eq p g s 2 0 hpl, Option.bind_some, show (lf p g == 0) = false from beq_eq_false_iff_ne.mpr (by omega), if_neg (by decide), if_pos rfl, Option.bind_some, halves s e4 (by omega), decide_eq_true e6]
  · rw [if_neg (by decide), drive_formed.j0, decide_eq_true e4, if_neg (by decide), if_neg (by decide), drive_formed.j1, dleft_eq g g 0 3 left hpl, Option.bind_some, hz, if_neg (by decide), if_neg (by decide), if_pos rfl, Option.bind_some, halves 0 (by decide) (by decide), hm]
    rfl
theorem check_ok (k : Nat) {sp br p g s part left : Int} (h : DV sp br p g s part left) (hb : br ≤ 5) : drive_Check.f (k + 3) p g s part left = some 0 := by
  have hr := h.rule
  have hpl := h.place
  have hf := h.form
  unfold drive_Check.f
  rw [at_eq, at_eq, decide_eq_true (show 0 ≤ p ∧ p ≤ 63000 by omega), decide_eq_true (show 0 ≤ g ∧ g ≤ 63000 by omega), Option.bind_some, if_pos rfl, Option.bind_some, if_pos rfl, if_neg (by omega), if_neg (by omega), if_neg (by omega), if_neg (by omega), if_neg (by omega), decide_eq_false (by omega), drive_Check.j0, if_neg (by decide), formed_ok k h, Option.bind_some, if_pos rfl]
theorem checked_ok (k : Nat) {sp br p g s part left n : Int} (h : DV sp br p g s part left) (hb : br ≤ 5) (hn : 0 ≤ n ∧ n ≤ 200000) : drive_rule_checked.f (k + 3) sp br p g s part left n = some 0 := by
  have hr := h.rule
  have hf := h.form
  unfold drive_rule_checked.f drive_rule_valid.f
  rw [check_ok k h hb, Option.bind_some, if_pos rfl, if_pos (by omega), if_pos (by omega), if_pos (by omega), decide_eq_true hb, Option.bind_some, if_pos rfl, if_neg (by omega), decide_eq_false (by omega), drive_rule_checked.j0, if_neg (by decide), if_neg (by omega), if_neg (by omega)]
theorem Step_ok (k : Nat) {sp br p g s part left : Int} (h : DV sp br p g s part left) (hb : br ≤ 5) (hp : part ≠ 0) :
    drive_Step.f (k + 3) p g s part left sp br = some ((tk sp br p g s part left).1, (tk sp br p g s part left).2.1, (tk sp br p g s part left).2.2.1, (tk sp br p g s part left).2.2.2.1, (tk sp br p g s part left).2.2.2.2.1, (tk sp br p g s part left).2.2.2.2.2, 0) := by
  unfold drive_Step.f
  rw [checked_ok k h hb (by omega), Option.bind_some, if_pos rfl, show k + 3 = (k + 2) + 1 from rfl, tick_eq (k + 2) h hp, Option.bind_some]
/-- Where a drive sets out. -/
theorem goes_ok (p d br : Int) (hf : 0 ≤ p ∧ p ≤ 63000) (ht : 0 ≤ d ∧ d ≤ 63000) (hb : 0 ≤ br ∧ br ≤ 5) :
    ∃ part left, drive_goes.f p p 0 0 0 d br = some (p, d, 0, part, left) ∧ ∀ sp, 1 ≤ sp ∧ sp ≤ 20 → DV sp br p d 0 part left := by
  have hl0 : ptri (0 - 1) = 0 := by decide
  by_cases c : d = p
  · subst c
    exact ⟨0, 0, by unfold drive_goes.f; rw [if_pos rfl], fun sp hs => ⟨by omega, by omega, .inl ⟨rfl, rfl, rfl, rfl⟩⟩⟩
  · by_cases cb : br = 0
    · exact ⟨2, br, by unfold drive_goes.f; rw [if_neg c, if_pos cb], fun sp hs => ⟨by omega, by omega, .inr (.inr (.inl ⟨rfl, c, cb, by omega, by omega, by rw [hl0]; exact (lf_le ⟨hf.1, hf.2, ht.1, ht.2⟩).1⟩))⟩⟩
    · exact ⟨1, br, by unfold drive_goes.f; rw [if_neg c, if_neg cb], fun sp hs => ⟨by omega, by omega, .inr (.inl ⟨rfl, c, rfl, by omega, Int.le_refl _⟩)⟩⟩
theorem Go_ok (k : Nat) (p d br part left : Int) (hf : 0 ≤ p ∧ p ≤ 63000) (ht : 0 ≤ d ∧ d ≤ 63000) (hb : 0 ≤ br ∧ br ≤ 5) (hg : drive_goes.f p p 0 0 0 d br = some (p, d, 0, part, left)) :
    drive_Go.f (k + 3) p p 0 0 0 d br = some (p, d, 0, part, left, 0) := by
  have hr : DV 1 br p p 0 0 0 := ⟨by omega, by omega, .inl ⟨rfl, rfl, rfl, rfl⟩⟩
  unfold drive_Go.f
  rw [check_ok k hr hb.2, Option.bind_some, if_pos rfl, at_eq, decide_eq_true ht, Option.bind_some, if_pos rfl, if_neg (by omega), decide_eq_false (by omega), drive_Go.j0, if_neg (by decide), if_pos rfl, hg, Option.bind_some]
end Go.Proofs.Ytfeikhooaadlbaa.P
