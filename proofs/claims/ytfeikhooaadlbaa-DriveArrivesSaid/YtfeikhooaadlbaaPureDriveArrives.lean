/- A drive arrives, tick by tick: places, a speed and a brake made of numbers. No condition. -/
import Derived.Test.YtfeikhooaadlbaaLDriveArrives
import Derived.Test.YtfeikhooaadlbaaM
namespace Go.Proofs.Ytfeikhooaadlbaa.Pure
open Go.RowKit Go.Proofs.Ytfeikhooaadlbaa.P Go.Proofs.YtfeikhooaadlbaaW.PrintWords Go.Proofs.YtfeikhooaadlbaaW.PrintLast Go.Proofs.YtfeikhooaadlbaaW.PrintMore
set_option linter.unusedSimpArgs false
set_option linter.unusedVariables false

theorem known_true (k : Nat) : q_DriveKnown.f (k + 30) = some true := by
  have h : q_DriveKnown.f 30 = some true := by decide +kernel
  induction k with
  | zero => exact h
  | succ k ih => exact q_DriveKnown.mono _ _ ih
theorem far_eq (x p : Int) (hx : 0 ≤ x ∧ x ≤ 63000) (hp : 0 ≤ p ∧ p ≤ 63000) : wrap64 ((mx x p) - (mn x p)) = if p ≤ x then x - p else p - x := by
  unfold mx mn
  rw [wsm _ (by split <;> split <;> omega) (by split <;> split <;> omega)]
  split <;> split <;> split <;> omega

theorem arr_loop (a sp br : Int) (ha : 0 ≤ a ∧ a < 400) (hb : br ≤ 5) : ∀ (T k : Nat) (p g s part left : Int), T ≤ 500 → DV sp br p g s part left → dcnt sp br 70000 (p, g, s, part, left) = some T → mn a g ≤ p ∧ p ≤ mx a g →
    q_DriveArrives.l0 (k + T + 20) a g sp br (T : Int) p g s part left = some true := by
  intro T
  induction T with
  | zero =>
    intro k p g s part left h5 h hT hm
    obtain ⟨K, hK⟩ : ∃ K, K = 70000 - 1 := ⟨_, rfl⟩
    have hp : part = 0 := by
      have := (dcnt_run sp br 70000 _ 0 hT).1
      exact this
    have hf := h.form
    have e : p = g ∧ s = 0 ∧ left = 0 := by omega
    obtain ⟨rfl, rfl, rfl⟩ := e
    subst hp
    rw [show k + 0 + 20 = (k + 19) + 1 from rfl, q_DriveArrives.l0, if_neg (by omega)]
    simp
  | succ T ih =>
    intro k p g s part left h5 h hT hm
    obtain ⟨q1, ⟨r, hr⟩, q3⟩ := (dcnt_run sp br 70000 _ (T + 1) hT).2 0 (by omega)
    have hp : part ≠ 0 := q1
    have ht := tk_ok h hp
    have hgo := tk_go h hp
    have hpl := h.place
    have hpl2 := ht.1.place
    have hn : dnx sp br (p, g, s, part, left) = ((tk sp br p g s part left).1, (tk sp br p g s part left).2.1, (tk sp br p g s part left).2.2.1, (tk sp br p g s part left).2.2.2.1, (tk sp br p g s part left).2.2.2.2.1) := by
      unfold dnx dtick?
      rw [show 20 = 19 + 1 from rfl, tick_eq 19 h hp]
    have q3' : dcnt sp br 70000 (dnx sp br (p, g, s, part, left)) = some T := by
      have : dcnt sp br 70000 (dst sp br (p, g, s, part, left) 1) = some (T + 1 - 1) := q3
      exact this
    rw [hn] at q3'
    have hS := Step_ok (k + T + 17) h hb hp
    clear hn
    generalize tk sp br p g s part left = t at ht hgo hpl2 q3' hS
    obtain ⟨x, y, z, u, l, m⟩ := t
    dsimp only at ht hgo hpl2 q3' hS
    obtain ⟨hy, hmo, d, d1, d2, d3, d4, d5, d6, d7, d8, d9⟩ := hgo
    subst hy
    have hN := NeedsP_ok (k + T + 17) ht.1 hb q3'
    have hC := check_ok (k + T + 17) ht.1 hb
    have hw := far_eq x p ⟨hpl2.1, hpl2.2.1⟩ ⟨hpl.1, hpl.2.1⟩
    have hd : (if p ≤ x then x - p else p - x) = d := by
      by_cases c : y < p
      · have := d5 c; split <;> omega
      · have := d6 c; split <;> omega
    have hmm : mn a y ≤ x ∧ x ≤ mx a y := by
      unfold mn mx at hm ⊢
      by_cases c : y < p
      · have := d5 c; have := d8 c; split at hm <;> split at hm <;> (try split) <;> (try split) <;> omega
      · have := d6 c; have := d9 c; split at hm <;> split at hm <;> (try split) <;> (try split) <;> omega
    have hI := ih (k + 0) x y z u l (by omega) ht.1 q3' hmm
    have fin : (if u = 2 then (if z = d then q_DriveArrives.l0 (k + T + 20) a y sp br (T : Int) x y z u l else none) else q_DriveArrives.l0 (k + T + 20) a y sp br (T : Int) x y z u l) = some true := by
      by_cases cu : u = 2
      · rw [if_pos cu, if_pos (d7 cu)]; exact hI
      · rw [if_neg cu]; exact hI
    rw [show k + (T + 1) + 20 = (k + T + 17 + 3) + 1 from by omega, q_DriveArrives.l0, if_pos (by omega), hS, Option.bind_some]
    dsimp only
    rw [hN, Option.bind_some, if_pos rfl]
    dsimp only
    rw [if_pos rfl, wsm (((T + 1 : Nat) : Int) - 1) (by omega) (by omega), if_pos (by omega), hC, Option.bind_some, if_pos rfl, if_neg (by omega), if_neg (by omega), hw, hd, wsm (s + 1) (by have := h.form; have := h.rule; omega) (by have := h.form; have := h.rule; omega), wsm (s - 1) (by have := h.form; have := h.rule; omega) (by have := h.form; have := h.rule; omega)]
    rcases hmo with ⟨rfl, _⟩ | ⟨rfl, e1, e2⟩
    · rw [if_pos rfl, if_neg (by omega), if_neg (by omega), if_neg (by omega)]
      exact fin
    · have hd0 : d = 0 := by
        by_cases c : y < p
        · have := d5 c; omega
        · have := d6 c; omega
      rw [if_neg (by decide), if_neg (by omega), if_neg (by omega), if_neg (by omega), if_neg (by omega)]
      exact fin

theorem DriveArrives : q_DriveArrives.Pure := by
  intro a0 a1 a2 _ _ _
  obtain ⟨p, g, sp, br, hm, h1, h2, h3, h4, h5, h6, h7, h8⟩ := made_ok a0 a1 a2
  obtain ⟨part, left, hg, hD⟩ := goes_ok p g br (by omega) (by omega) ⟨h7, h8⟩
  have h := hD sp ⟨h5, h6⟩
  have hb : dms br p g part left ≤ 450 := by
    have hl : lf p g ≤ 400 := by unfold lf; split <;> omega
    have h1 := h.form
    unfold dms
    split
    · omega
    · split
      · omega
      · split <;> omega
  obtain ⟨T, hT, hc⟩ := cnt_ok (sp := sp) (br := br) 450 70000 p g 0 part left h hb (by decide)
  refine ⟨2000, ?_⟩
  have e := arr_loop p sp br (by omega) h8 T (1979 - T) p g 0 part left (by omega) h hc (by unfold mn mx; split <;> split <;> omega)
  rw [show 1979 - T + T + 20 = 1999 from by omega] at e
  unfold q_DriveArrives.f drive_At.f
  rw [show 2000 = 1970 + 30 from rfl, known_true, Option.bind_some, if_pos rfl, hm, Option.bind_some]
  dsimp only
  rw [at_eq, decide_eq_true (show 0 ≤ p ∧ p ≤ 63000 by omega), Option.bind_some, if_pos rfl, Option.bind_some]
  dsimp only
  rw [show 1970 + 30 = 1997 + 3 from rfl, Go_ok 1997 p g br part left (by omega) (by omega) ⟨h7, h8⟩ hg, Option.bind_some]
  dsimp only
  rw [NeedsP_ok 1997 h h8 hc, Option.bind_some]
  dsimp only
  rw [if_pos rfl, if_pos rfl, if_pos rfl, if_neg (by omega), decide_eq_false (by omega), show 1997 + 3 = 1999 + 1 from rfl, q_DriveArrives.j0, if_neg (by decide)]
  exact e
end Go.Proofs.Ytfeikhooaadlbaa.Pure
