/- Ticks between positions: the program answers as the reference. No condition beyond the law's own. -/
import Derived.Test.YtfeikhooaadlbaaLDriveTicks
import Derived.Test.YtfeikhooaadlbaaQ
namespace Go.Proofs.Ytfeikhooaadlbaa.Pure
open Go.RowKit Go.Proofs.Ytfeikhooaadlbaa.P Go.Proofs.YtfeikhooaadlbaaW.PrintWords Go.Proofs.YtfeikhooaadlbaaW.PrintLast Go.Proofs.YtfeikhooaadlbaaW.PrintMore
set_option linter.unusedSimpArgs false
set_option linter.unusedVariables false

theorem chk_ok (k : Nat) {sp br p g s part left : Int} (h : DV sp br p g s part left) (hb : br ≤ 5) : ref_Check.f (k + 1) p g s part left = some 0 := by
  obtain ⟨hr, hpl, hf⟩ := h
  have hs : 0 ≤ s ∧ s ≤ 20 := by omega
  have hpt : 0 ≤ part ∧ part ≤ 3 := by omega
  have hlt : 0 ≤ left ∧ left ≤ 5 := by omega
  unfold ref_Check.f
  rw [in_eq, in_eq, in_eq, in_eq, in_eq, decide_eq_true (show 0 ≤ p ∧ p ≤ 63000 by omega), decide_eq_true (show 0 ≤ g ∧ g ≤ 63000 by omega), decide_eq_true (show 0 ≤ s ∧ s ≤ 20 by omega), decide_eq_true (show 0 ≤ part ∧ part ≤ 3 by omega), decide_eq_true (show 0 ≤ left ∧ left ≤ 5 by omega),
    Option.bind_some, if_pos rfl, Option.bind_some, if_pos rfl, Option.bind_some, if_pos rfl, Option.bind_some, if_pos rfl, Option.bind_some, ref_Check.j0, if_neg (by decide)]
  rcases hf with ⟨rfl, rfl, rfl, rfl⟩ | ⟨rfl, e2, rfl, e4, e5⟩ | ⟨rfl, e2, rfl, e4, e5, e6⟩ | ⟨rfl, rfl, rfl, e4, e5⟩
  · rw [if_pos rfl, if_pos rfl, if_pos rfl, if_pos rfl]
  · rw [if_neg (by decide), if_pos rfl, if_neg (fun q => e2 q.symm), if_pos rfl, if_pos e4]
  · rw [if_neg (by decide), if_neg (by decide), if_pos rfl, if_neg (fun q => e2 q.symm), if_pos rfl, tri_eq s (by omega) (by omega), Option.bind_some, left_eq p g s 2 0 hpl, Option.bind_some]
    have e := ptri_succ (s - 1)
    rw [show s - 1 + 1 = s from by omega] at e
    have hl := lf_le hpl
    have := ptri_nn s (by omega)
    have := ptri_nn (s - 1) (by omega)
    rw [wsm (ptri s - s) (by omega) (by omega), if_pos (by omega)]
  · rw [if_neg (by decide), if_neg (by decide), if_neg (by decide), if_pos rfl, if_pos rfl, if_pos rfl, if_pos e4]
theorem asked_ok {k : Nat} {p g s part left : Int} (h : ref_Check.f k p g s part left = some 0) (a1 a2 a3 a4 : Int) :
    ref_asked.f k p g s part left a1 a2 a3 a4 = some (if (0 ≤ a1 ∧ a1 ≤ 63000) ∧ (1 ≤ a2 ∧ a2 ≤ 20) ∧ (0 ≤ a3 ∧ a3 ≤ 5) ∧ (0 ≤ a4 ∧ a4 ≤ 200000) then 0 else 2) := by
  unfold ref_asked.f
  rw [h, Option.bind_some, if_pos rfl, in_eq, in_eq, in_eq, in_eq, Option.bind_some]
  by_cases c1 : 0 ≤ a1 ∧ a1 ≤ 63000
  · rw [decide_eq_true c1, if_pos rfl, Option.bind_some]
    by_cases c2 : 1 ≤ a2 ∧ a2 ≤ 20
    · rw [decide_eq_true c2, if_pos rfl, Option.bind_some]
      by_cases c3 : 0 ≤ a3 ∧ a3 ≤ 5
      · rw [decide_eq_true c3, if_pos rfl, Option.bind_some]
        by_cases c4 : 0 ≤ a4 ∧ a4 ≤ 200000
        · rw [decide_eq_true c4, if_pos rfl, if_pos ⟨c1, c2, c3, c4⟩]
        · rw [decide_eq_false c4, if_neg (by decide), if_neg (fun q => c4 q.2.2.2)]
      · rw [decide_eq_false c3, if_neg (by decide), if_neg (fun q => c3 q.2.2.1)]
    · rw [decide_eq_false c2, if_neg (by decide), if_neg (fun q => c2 q.2.1)]
  · rw [decide_eq_false c1, if_neg (by decide), if_neg (fun q => c1 q.1)]
theorem at_eq (a : Int) : drive_at.f a = some (decide (0 ≤ a ∧ a ≤ 63000)) := by
  unfold drive_at.f
  by_cases h : a ≥ 0
  · rw [if_pos h]
    by_cases h2 : a ≤ 63000
    · rw [decide_eq_true h2, decide_eq_true ⟨h, h2⟩]
    · rw [decide_eq_false h2, decide_eq_false (fun q => h2 q.2)]
  · rw [if_neg h, decide_eq_false (fun q => h q.1)]
theorem valid_eq (sp br : Int) : drive_rule_valid.f sp br = some (decide ((1 ≤ sp ∧ sp ≤ 20) ∧ (0 ≤ br ∧ br ≤ 5))) := by
  unfold drive_rule_valid.f
  by_cases c1 : sp ≥ 1
  · rw [if_pos c1]
    by_cases c2 : sp ≤ 20
    · rw [if_pos c2]
      by_cases c3 : br ≥ 0
      · rw [if_pos c3]
        by_cases c4 : br ≤ 5
        · rw [decide_eq_true c4, decide_eq_true ⟨⟨c1, c2⟩, c3, c4⟩]
        · rw [decide_eq_false c4, decide_eq_false (fun q => c4 q.2.2)]
      · rw [if_neg c3, decide_eq_false (fun q => c3 q.2.1)]
    · rw [if_neg c2, decide_eq_false (fun q => c2 q.1.2)]
  · rw [if_neg c1, decide_eq_false (fun q => c1 q.1.1)]

/-- Where a drive sets out. -/
theorem start_ok (from_ dst_ br : Int) (hf : 0 ≤ from_ ∧ from_ ≤ 63000) (ht : 0 ≤ dst_ ∧ dst_ ≤ 63000) (hb : 0 ≤ br ∧ br ≤ 5) :
    ∃ g part left, drive_goes.f from_ from_ 0 0 0 dst_ br = some (from_, g, 0, part, left) ∧
      (∀ k, ref_Go.f (k + 1) from_ from_ 0 0 0 dst_ br = some (from_, g, 0, part, left, 0)) ∧ left ≤ br ∧ ∀ sp, 1 ≤ sp ∧ sp ≤ 20 → DV sp br from_ g 0 part left := by
  have hr : DV 1 br from_ from_ 0 0 0 := ⟨by omega, by omega, .inl ⟨rfl, rfl, rfl, rfl⟩⟩
  have hgo : ∀ k, ref_Go.f (k + 1) from_ from_ 0 0 0 dst_ br = (if dst_ = from_ then some (from_, from_, 0, 0, 0, 0) else if br = 0 then some (from_, dst_, 0, 2, br, 0) else some (from_, dst_, 0, 1, br, 0)) := by
    intro k
    unfold ref_Go.f
    rw [asked_ok (chk_ok k hr hb.2), if_pos ⟨ht, by omega, hb, by omega⟩, Option.bind_some, if_pos rfl, if_pos rfl]
  have hl0 : ptri (0 - 1) = 0 := by decide
  by_cases c : dst_ = from_
  · refine ⟨from_, 0, 0, by unfold drive_goes.f; rw [if_pos c], fun k => by rw [hgo k, if_pos c], by omega, fun sp hs => ⟨by omega, by omega, .inl ⟨rfl, rfl, rfl, rfl⟩⟩⟩
  · by_cases cb : br = 0
    · refine ⟨dst_, 2, br, by unfold drive_goes.f; rw [if_neg c, if_pos cb], fun k => by rw [hgo k, if_neg c, if_pos cb], Int.le_refl _, fun sp hs => ⟨by omega, by omega, .inr (.inr (.inl ⟨rfl, c, cb, by omega, by omega, by rw [hl0]; exact (lf_le ⟨hf.1, hf.2, ht.1, ht.2⟩).1⟩))⟩⟩
    · refine ⟨dst_, 1, br, by unfold drive_goes.f; rw [if_neg c, if_neg cb], fun k => by rw [hgo k, if_neg c, if_neg cb], Int.le_refl _, fun sp hs => ⟨by omega, by omega, .inr (.inl ⟨rfl, c, rfl, by omega, Int.le_refl _⟩)⟩⟩
theorem dms_le {sp br p g s part left : Int} (h : DV sp br p g s part left) (hb : br ≤ 5) : dms br p g part left ≤ 63100 := by
  have hl := lf_le h.place
  have h1 := h.form
  have h2 := h.rule
  unfold dms
  split
  · omega
  · split
    · omega
    · split <;> omega
theorem Needs_ok {sp br p g s part left : Int} (h : DV sp br p g s part left) (hb : br ≤ 5) (hs : s ≤ sp) (hl : left ≤ br) :
    ∃ T : Nat, T ≤ 63100 ∧ drive_rule_needs.f sp br p g s part left = some (T : Int) ∧ ref_Needs.f 70000 p g s part left sp br = some ((T : Int), 0) := by
  have hr := h.rule
  obtain ⟨T, hT, hc⟩ := cnt_ok (sp := sp) (br := br) 63100 70000 p g s part left h (dms_le h hb) (by decide)
  refine ⟨T, hT, by unfold drive_rule_needs.f; rw [hc]; rfl, ?_⟩
  have e := needs_loop 70000 p g s part left T 0 (69988 - T) h hc (Int.le_refl _) (by omega)
  rw [show 69988 - T + T + 10 = 69998 from by omega] at e
  unfold ref_Needs.f ref_fits.f
  rw [show 70000 = 69999 + 1 from rfl, asked_ok (chk_ok 69999 h hb), if_pos ⟨by omega, by omega, by omega, by omega⟩, Option.bind_some, if_pos rfl, if_pos hs, decide_eq_true hl, Option.bind_some, ref_Needs.j0, if_neg (by decide), show 69999 = 69998 + 1 from rfl, ref_Needs.j1, if_pos rfl, e]
  congr 2
  omega
theorem Ticks_same (from_ dst_ sp br : Int) : ∃ a b, drive_Ticks.f 70000 from_ dst_ sp br = some (a, b) ∧ ref_Ticks.f 70000 from_ dst_ sp br = some (a, b) := by
  have hj : ∀ a b c d e f g h i, drive_Ticks.j0 70000 a b true c d e f g h i = some (0, 2) := by
    intro a b c d e f g h i
    rw [show 70000 = 69999 + 1 from rfl, drive_Ticks.j0, if_pos rfl]
  unfold drive_Ticks.f ref_Ticks.f drive_At.f ref_At.f
  rw [at_eq, in_eq, at_eq, valid_eq]
  by_cases hf : 0 ≤ from_ ∧ from_ ≤ 63000
  · rw [decide_eq_true hf]
    simp only [Option.bind_some, ↓reduceIte]
    have hr : DV 1 0 from_ from_ 0 0 0 := ⟨by omega, by omega, .inl ⟨rfl, rfl, rfl, rfl⟩⟩
    by_cases ht : 0 ≤ dst_ ∧ dst_ ≤ 63000
    · rw [decide_eq_true ht]
      simp only [Option.bind_some, ↓reduceIte]
      by_cases hb : 0 ≤ br ∧ br ≤ 5
      · obtain ⟨g, part, left, hg, hgo, hl, hD⟩ := start_ok from_ dst_ br hf ht hb
        rw [show ref_Go.f 70000 from_ from_ 0 0 0 dst_ br = _ from hgo 69999, Option.bind_some]
        dsimp only
        rw [if_pos rfl]
        by_cases hs : 1 ≤ sp ∧ sp ≤ 20
        · obtain ⟨T, hT, hn, hrn⟩ := Needs_ok (hD sp hs) hb.2 (by omega) hl
          rw [decide_eq_true ⟨hs, hb⟩, hrn, Option.bind_some, show 70000 = 69999 + 1 from rfl, drive_Ticks.j0, if_neg (by decide), hg, Option.bind_some]
          dsimp only
          rw [hn]
          exact ⟨_, _, rfl, rfl⟩
        · rw [decide_eq_false (fun q => hs q.1), Bool.not_false, hj]
          refine ⟨0, 2, rfl, ?_⟩
          unfold ref_Needs.f
          rw [show 70000 = 69999 + 1 from rfl, asked_ok (chk_ok 69999 (hD 1 (by omega)) hb.2), if_neg (fun q => hs q.2.1), Option.bind_some, if_neg (by decide), ref_Needs.j0, if_neg (by decide), show 69999 = 69998 + 1 from rfl, ref_Needs.j1, if_neg (by decide)]
          rfl
      · rw [decide_eq_false (fun q => hb q.2), Bool.not_false, hj]
        refine ⟨0, 2, rfl, ?_⟩
        unfold ref_Go.f
        rw [show 70000 = 69999 + 1 from rfl, asked_ok (chk_ok 69999 hr (by decide)), if_neg (fun q => hb q.2.2.1)]
        rfl
    · rw [decide_eq_false ht, if_neg (by decide), hj]
      refine ⟨0, 2, rfl, ?_⟩
      unfold ref_Go.f
      rw [show 70000 = 69999 + 1 from rfl, asked_ok (chk_ok 69999 hr (by decide)), if_neg (fun q => ht q.1)]
      rfl
  · rw [decide_eq_false hf]
    simp only [Option.bind_some, Bool.false_eq_true, ↓reduceIte]
    refine ⟨0, 2, ?_, rfl⟩
    first | exact hj _ _ _ _ _ _ _ _ _ | rfl
theorem DriveTicks : q_DriveTicks.Pure := by
  intro a0 a1 a2 a3 _ _ _ _
  refine ⟨70001, ?_⟩
  have hj : ∀ o, q_DriveTicks.j0 70001 a0 a1 a2 a3 o = some true := by
    intro o
    rw [show 70001 = 70000 + 1 from rfl, q_DriveTicks.j0]
    cases o
    · obtain ⟨a, b, h1, h2⟩ := Ticks_same a0 a1 a2 a3
      rw [if_neg (by decide), h1, h2, Option.bind_some, Option.bind_some, if_pos rfl, if_pos rfl, show 70000 = 69970 + 30 from rfl, awake_true, Option.bind_some, if_pos rfl]
    · rw [if_pos rfl, show 70000 = 69970 + 30 from rfl, awake_true, Option.bind_some, if_pos rfl]
  unfold q_DriveTicks.f q_far.f
  repeat' split
  all_goals
    rw [Option.bind_some]
    repeat' split
    all_goals exact hj _
end Go.Proofs.Ytfeikhooaadlbaa.Pure
