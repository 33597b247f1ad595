/- A run in two parts is one run, and its ticks are steps: places, a speed, a brake and parts made of numbers. No condition. -/
import Derived.Test.YtfeikhooaadlbaaLDriveParts
import Derived.Test.YtfeikhooaadlbaaM2
namespace Go.Proofs.Ytfeikhooaadlbaa.Pure
open Go.RowKit Go.Proofs.Ytfeikhooaadlbaa.P Go.Proofs.YtfeikhooaadlbaaW.PrintWords Go.Proofs.YtfeikhooaadlbaaW.PrintLast Go.Proofs.YtfeikhooaadlbaaW.PrintMore
set_option linter.unusedSimpArgs false
set_option linter.unusedVariables false

theorem known_true (k : Nat) : q_DriveKnown.f (k + 30) = some true := by
  have h : q_DriveKnown.f 30 = some true := by decide +kernel
  induction k with
  | zero => exact h
  | succ k ih => exact q_DriveKnown.mono _ _ ih
theorem Step0 (k : Nat) {sp br p g s part left : Int} (h : DV sp br p g s part left) (hb : br ≤ 5) (hp : part = 0) : drive_Step.f (k + 3) p g s part left sp br = some (p, g, s, part, left, false, 0) := by
  subst hp
  unfold drive_Step.f
  rw [checked_ok k h hb (by omega), Option.bind_some, if_pos rfl]
  unfold drive_rule_tick.f
  rw [if_neg (by decide), if_neg (by decide), show k + 3 = (k + 2) + 1 from rfl, drive_rule_tick.j1, if_neg (by decide), Option.bind_some]
theorem part_loop {sp br : Int} {p g s part left : Int} (h : DV sp br p g s part left) (hb : br ≤ 5) {T : Nat} (hT : dcnt sp br 70000 (p, g, s, part, left) = some T) (one : Nat) (h60 : one ≤ 100) : ∀ (d k t : Nat), t + d = one →
    q_DriveParts.l0 (k + d + 10) (one : Int) sp br (t : Int) (dst sp br (p, g, s, part, left) (min T t)).1 (dst sp br (p, g, s, part, left) (min T t)).2.1 (dst sp br (p, g, s, part, left) (min T t)).2.2.1 (dst sp br (p, g, s, part, left) (min T t)).2.2.2.1 (dst sp br (p, g, s, part, left) (min T t)).2.2.2.2
      (dst sp br (p, g, s, part, left) (min T one)).1 (dst sp br (p, g, s, part, left) (min T one)).2.1 (dst sp br (p, g, s, part, left) (min T one)).2.2.1 (dst sp br (p, g, s, part, left) (min T one)).2.2.2.1 (dst sp br (p, g, s, part, left) (min T one)).2.2.2.2 = some true := by
  intro d
  induction d with
  | zero =>
    intro k t ht
    obtain rfl : t = one := ht
    rw [show k + 0 + 10 = (k + 9) + 1 from rfl, q_DriveParts.l0, if_neg (by omega)]
    simp
  | succ d ih =>
    intro k t ht
    have ih := ih k (t + 1) (by omega)
    have hD := dst_ok h hT (min T t) (by omega)
    rw [show k + (d + 1) + 10 = (k + d + 7 + 3) + 1 from by omega, q_DriveParts.l0, if_pos (by omega)]
    by_cases c : t < T
    · have e1 : min T t = t := by omega
      have e2 : min T (t + 1) = t + 1 := by omega
      rw [e1] at hD ⊢
      rw [e2] at ih
      obtain ⟨q1, _, _⟩ := (dcnt_run sp br 70000 _ T hT).2 t c
      have e : dst sp br (p, g, s, part, left) (t + 1) = dnx sp br (dst sp br (p, g, s, part, left) t) := rfl
      have e3 : dnx sp br (dst sp br (p, g, s, part, left) t) = ((tk sp br (dst sp br (p, g, s, part, left) t).1 (dst sp br (p, g, s, part, left) t).2.1 (dst sp br (p, g, s, part, left) t).2.2.1 (dst sp br (p, g, s, part, left) t).2.2.2.1 (dst sp br (p, g, s, part, left) t).2.2.2.2).1,
        (tk sp br (dst sp br (p, g, s, part, left) t).1 (dst sp br (p, g, s, part, left) t).2.1 (dst sp br (p, g, s, part, left) t).2.2.1 (dst sp br (p, g, s, part, left) t).2.2.2.1 (dst sp br (p, g, s, part, left) t).2.2.2.2).2.1,
        (tk sp br (dst sp br (p, g, s, part, left) t).1 (dst sp br (p, g, s, part, left) t).2.1 (dst sp br (p, g, s, part, left) t).2.2.1 (dst sp br (p, g, s, part, left) t).2.2.2.1 (dst sp br (p, g, s, part, left) t).2.2.2.2).2.2.1,
        (tk sp br (dst sp br (p, g, s, part, left) t).1 (dst sp br (p, g, s, part, left) t).2.1 (dst sp br (p, g, s, part, left) t).2.2.1 (dst sp br (p, g, s, part, left) t).2.2.2.1 (dst sp br (p, g, s, part, left) t).2.2.2.2).2.2.2.1,
        (tk sp br (dst sp br (p, g, s, part, left) t).1 (dst sp br (p, g, s, part, left) t).2.1 (dst sp br (p, g, s, part, left) t).2.2.1 (dst sp br (p, g, s, part, left) t).2.2.2.1 (dst sp br (p, g, s, part, left) t).2.2.2.2).2.2.2.2.1) := by
        unfold dnx dtick?
        rw [show 20 = 19 + 1 from rfl, tick_eq 19 hD q1]
      rw [e, e3] at ih
      rw [Step_ok (k + d + 7) hD hb q1, Option.bind_some]
      dsimp only
      rw [if_pos rfl, wsm ((t : Int) + 1) (by omega) (by omega)]
      exact ih
    · have e1 : min T t = T := by omega
      have e2 : min T (t + 1) = T := by omega
      rw [e1] at hD ⊢
      rw [e2] at ih
      have hp := (dcnt_run sp br 70000 _ T hT).1
      rw [Step0 (k + d + 7) hD hb hp, Option.bind_some]
      dsimp only
      rw [if_pos rfl, wsm ((t : Int) + 1) (by omega) (by omega)]
      exact ih
theorem DriveParts : q_DriveParts.Pure := by
  intro a0 a1 a2 a3 a4 _ _ _ _ _
  obtain ⟨p, g, sp, br, hm, h1, h2, h3, h4, h5, h6, h7, h8⟩ := made_ok a0 a1 a2
  obtain ⟨part, left, hg, hD⟩ := goes_ok p g br (by omega) (by omega) ⟨h7, h8⟩
  have h := hD sp ⟨h5, h6⟩
  obtain ⟨o1, ho1, o2, o3⟩ := mod_eq a3 60 (by omega) (by omega)
  obtain ⟨t1, ht1, t2, t3⟩ := mod_eq a4 60 (by omega) (by omega)
  obtain ⟨one, rfl⟩ : ∃ n : Nat, o1 = (n : Int) := ⟨o1.toNat, by omega⟩
  obtain ⟨two, rfl⟩ : ∃ n : Nat, t1 = (n : Int) := ⟨t1.toNat, by omega⟩
  have hb : dms br p g part left ≤ 450 := by
    have hl : lf p g ≤ 400 := by unfold lf; split <;> omega
    have h1 := h.form
    unfold dms
    split
    · omega
    · split
      · omega
      · split <;> omega
  obtain ⟨T, hT, hc⟩ := cnt_ok (sp := sp) (br := br) 450 70000 p g 0 part left h hb (by decide)
  have hx := dst_ok h hc (min T one) (by omega)
  have hcx := dcnt_at hc (min T one) (by omega)
  have R1 := Run_ok h h8 hc one (by omega)
  have R2 := Run_ok hx h8 (T := T - min T one) hcx two (by omega)
  have R3 := Run_ok h h8 hc (one + two) (by omega)
  have heta : ((dst sp br (p, g, 0, part, left) (min T one)).1, (dst sp br (p, g, 0, part, left) (min T one)).2.1, (dst sp br (p, g, 0, part, left) (min T one)).2.2.1, (dst sp br (p, g, 0, part, left) (min T one)).2.2.2.1, (dst sp br (p, g, 0, part, left) (min T one)).2.2.2.2) = dst sp br (p, g, 0, part, left) (min T one) := rfl
  rw [heta] at R2
  have e1 : min T (one + two) = min T one + min (T - min T one) two := by omega
  have e2 := dst_add sp br (p, g, 0, part, left) (min T one) (min (T - min T one) two)
  have e3 := dmc_add sp br (p, g, 0, part, left) (min T one) (min (T - min T one) two)
  have hl := part_loop h h8 hc one (by omega) one (1979 - one) 0 (by omega)
  rw [show 1979 - one + one + 10 = 1989 from by omega, show min T 0 = 0 from by omega] at hl
  rw [e1, e2, e3] at R3
  have d1 := dmc_le sp br (p, g, 0, part, left) (min T one)
  have d2 := dmc_le sp br (dst sp br (p, g, 0, part, left) (min T one)) (min (T - min T one) two)
  refine ⟨1990, ?_⟩
  unfold q_DriveParts.f drive_At.f
  rw [show 1990 = 1960 + 30 from rfl, known_true, Option.bind_some, if_pos rfl, hm, Option.bind_some, ho1, Option.bind_some, ht1, Option.bind_some]
  dsimp only
  rw [at_eq, decide_eq_true (show 0 ≤ p ∧ p ≤ 63000 by omega), Option.bind_some, if_pos rfl, Option.bind_some]
  dsimp only
  rw [show 1960 + 30 = 1987 + 3 from rfl, Go_ok 1987 p g br part left (by omega) (by omega) ⟨h7, h8⟩ hg, Option.bind_some]
  dsimp only
  rw [R1, Option.bind_some]
  dsimp only
  rw [R2, Option.bind_some, wsm ((one : Int) + (two : Int)) (by omega) (by omega), show (one : Int) + (two : Int) = ((one + two : Nat) : Int) from by omega, R3, Option.bind_some]
  dsimp only
  simp only [beq_self_eq_true, Bool.not_true, Bool.or_self, Bool.false_eq_true, ↓reduceIte]
  rw [wsm (dmc sp br (p, g, 0, part, left) (min T one) + dmc sp br (dst sp br (p, g, 0, part, left) (min T one)) (min (T - min T one) two)) (by omega) (by omega), bne_self_eq_false, show 1987 + 3 = 1989 + 1 from rfl, q_DriveParts.j0, if_neg (by decide)]
  exact hl
end Go.Proofs.Ytfeikhooaadlbaa.Pure
