/- Ticks do not depend on the direction, never fall with the distance, and are the ride's and twice the brake's: places, a speed and a brake made of numbers. No condition. -/
import Derived.Test.YtfeikhooaadlbaaLDriveWays
import Derived.Test.YtfeikhooaadlbaaM3
namespace Go.Proofs.Ytfeikhooaadlbaa.Pure
open Go.RowKit Go.Proofs.Ytfeikhooaadlbaa.P Go.Proofs.YtfeikhooaadlbaaW.PrintWords Go.Proofs.YtfeikhooaadlbaaW.PrintLast Go.Proofs.YtfeikhooaadlbaaW.PrintMore
set_option linter.unusedSimpArgs false
set_option linter.unusedVariables false

theorem known_true (k : Nat) : q_DriveKnown.f (k + 30) = some true := by
  have h : q_DriveKnown.f 30 = some true := by decide +kernel
  induction k with
  | zero => exact h
  | succ k ih => exact q_DriveKnown.mono _ _ ih
theorem lf_comm (p g : Int) : lf p g = lf g p := by unfold lf; split <;> split <;> omega
theorem way_eq (x p : Int) (hx : 0 ≤ x ∧ x ≤ 63000) (hp : 0 ≤ p ∧ p ≤ 63000) : wrap64 ((mx x p) - (mn x p)) = lf x p := by
  unfold mx mn lf
  rw [wsm _ (by split <;> split <;> omega) (by split <;> split <;> omega)]
  split <;> split <;> split <;> omega
theorem dms_le {sp br p g s part left : Int} (h : DV sp br p g s part left) (hb : br ≤ 5) : dms br p g part left ≤ lf p g + 11 := by
  have h1 := h.form
  have hl := lf_le h.place
  unfold dms
  split
  · omega
  · split
    · omega
    · split <;> omega
theorem Ticks_ok (k : Nat) {p d sp br : Int} (hf : 0 ≤ p ∧ p ≤ 63000) (ht : 0 ≤ d ∧ d ≤ 63000) (hb : 0 ≤ br ∧ br ≤ 5) (hs : 1 ≤ sp ∧ sp ≤ 20) {T : Nat} (hT : pcnt sp 70000 (0, lf p d) = some T) :
    drive_Ticks.f (k + 1) p d sp br = some ((if d = p then 0 else (T : Int) + 2 * br), 0) := by
  obtain ⟨part, left, hg, h, hR⟩ := goes_runs p d br sp hf ht hb hs T hT
  have hl := lf_le (p := p) (g := d) ⟨hf.1, hf.2, ht.1, ht.2⟩
  have hd := dms_le h hb.2
  obtain ⟨N, _, hN⟩ := cnt_ok 65000 70000 p d 0 part left h (by omega) (by decide)
  have e := hR.count hN
  unfold drive_Ticks.f drive_At.f drive_rule_valid.f
  rw [at_eq, at_eq, decide_eq_true hf, decide_eq_true ht, Option.bind_some, if_pos rfl, Option.bind_some]
  dsimp only
  rw [if_pos rfl, Option.bind_some, if_pos rfl, if_pos (by omega), if_pos (by omega), if_pos (by omega), decide_eq_true hb.2, Option.bind_some, drive_Ticks.j0, if_neg (by decide), hg, Option.bind_some]
  dsimp only
  unfold drive_rule_needs.f
  rw [hN, e]
  by_cases c : d = p
  · rw [if_pos c, if_pos c]; rfl
  · rw [if_neg c, if_neg c, Option.map_some, Option.bind_some]
    congr 2
    omega
theorem DriveWays : q_DriveWays.Pure := by
  intro a0 a1 a2 _ _ _
  obtain ⟨p, g, sp, br, hm, h1, h2, h3, h4, h5, h6, h7, h8⟩ := made_ok a0 a1 a2
  have hz : ptri (0 - 1) = 0 := by decide
  have ex : ∀ L, 0 ≤ L → L ≤ 1000 → ∃ T, pcnt sp 70000 (0, L) = some T ∧ (T : Int) ≤ L := fun L q q2 => pcnt_ex sp h5 h6 70000 0 L (by omega) (by omega) (by omega) q (by omega) (by omega)
  have le : ∀ L a b, 0 ≤ L → pcnt sp 70000 (0, L) = some a → pcnt sp 70000 (0, L + 1) = some b → a ≤ b := fun L a b q => pcnt_le sp h5 (by omega) 70000 0 L a b (by omega) (by omega) (by omega)
  have hw : 0 ≤ lf p g ∧ lf p g ≤ 400 := by unfold lf; split <;> omega
  obtain ⟨T, hT, hTl⟩ := ex (lf p g) hw.1 (by omega)
  obtain ⟨U, hU, hUl⟩ := ex (lf p (g + 1)) (by unfold lf; split <;> omega) (by unfold lf; split <;> omega)
  have hmx : mx 0 (g - 1) = if g = 0 then 0 else g - 1 := by unfold mx; split <;> split <;> omega
  obtain ⟨V, hV, hVl⟩ := ex (lf p (mx 0 (g - 1))) (by rw [hmx]; unfold lf; split <;> split <;> omega) (by rw [hmx]; unfold lf; split <;> split <;> omega)
  have X := Ticks_ok 1999 (p := p) (d := g) (by omega) (by omega) ⟨h7, h8⟩ ⟨h5, h6⟩ hT
  have Y := Ticks_ok 1999 (p := g) (d := p) (by omega) (by omega) ⟨h7, h8⟩ ⟨h5, h6⟩ (T := T) (by rw [lf_comm]; exact hT)
  have Z := Ticks_ok 1999 (p := p) (d := g + 1) (by omega) (by omega) ⟨h7, h8⟩ ⟨h5, h6⟩ hU
  have W := Ticks_ok 1999 (p := p) (d := mx 0 (g - 1)) (by omega) (by rw [hmx]; split <;> omega) ⟨h7, h8⟩ ⟨h5, h6⟩ hV
  obtain ⟨part, left, hg, h, hR⟩ := goes_runs p g br sp (by omega) (by omega) ⟨h7, h8⟩ ⟨h5, h6⟩ T hT
  obtain ⟨N, hN450, hN⟩ := cnt_ok 450 70000 p g 0 part left h (by have := dms_le h h8; omega) (by decide)
  have e := hR.count hN
  have R := Run_ok h h8 hN 1000 (by decide)
  rw [show min N 1000 = N from by omega, e, hR.last, hR.motor] at R
  dsimp only at R
  have htr : profile_Travel.f (lf p g) sp = some ((T : Int), 0) := by
    unfold profile_Travel.f profile_travel.f
    rw [limits_ok (lf p g) sp ⟨hw.1, by omega⟩ ⟨h5, h6⟩, Option.bind_some, if_pos rfl, hT]
    rfl
  refine ⟨2000, ?_⟩
  unfold q_DriveWays.f
  rw [show 2000 = 1970 + 30 from rfl, known_true, Option.bind_some, if_pos rfl, hm, Option.bind_some, show 1970 + 30 = 1999 + 1 from rfl]
  dsimp only
  rw [X, Option.bind_some, Y, Option.bind_some, wsm (g + 1) (by omega) (by omega), Z, Option.bind_some, wsm (g - 1) (by omega) (by omega), W, Option.bind_some, way_eq p g (by omega) (by omega), htr, Option.bind_some]
  unfold drive_At.f
  rw [at_eq, decide_eq_true (show 0 ≤ p ∧ p ≤ 63000 by omega), Option.bind_some, if_pos rfl, Option.bind_some]
  dsimp only
  rw [show 1999 + 1 = 1997 + 3 from rfl, Go_ok 1997 p g br part left (by omega) (by omega) ⟨h7, h8⟩ hg, Option.bind_some]
  dsimp only
  have R' : drive_Run.f p g 0 part left sp br 1000 = some (g, g, 0, 0, 0, (T : Int), 0) := R
  rw [R', Option.bind_some]
  dsimp only
  have hxy : (if g = p then 0 else (T : Int) + 2 * br) = (if p = g then 0 else (T : Int) + 2 * br) := by
    by_cases c : g = p
    · rw [if_pos c, if_pos c.symm]
    · rw [if_neg c, if_neg (fun q => c q.symm)]
  rw [if_pos rfl, if_pos rfl, if_pos rfl, if_pos rfl, if_pos rfl, if_pos rfl, if_pos rfl, if_pos rfl, if_pos hxy, if_pos rfl]
  rw [show (!(g == g) || (!(g == g) || (!((0 : Int) == 0) || (!((0 : Int) == 0) || (!((0 : Int) == 0)))))) = false from by simp]
  rw [show 1997 + 3 = 1999 + 1 from rfl, q_DriveWays.j0, if_neg (by decide)]
  by_cases c : lf p g = 0
  · have : g = p := by unfold lf at c; split at c <;> omega
    rw [if_pos c, if_pos this]
    rfl
  · have hne : g ≠ p := fun q => c (by subst q; unfold lf; rw [if_pos (Int.le_refl _)]; omega)
    have fin : (some ((T : Int) + 2 * br == wrap64 ((T : Int) + wrap64 (2 * br)))) = some true := by
      rw [wsm (2 * br) (by omega) (by omega), wsm _ (by omega) (by omega), beq_self_eq_true]
    rw [if_neg c, if_neg hne]
    by_cases cu : g > p
    · have e1 : lf p (g + 1) = lf p g + 1 := by unfold lf; split <;> split <;> omega
      have e2 : mx 0 (g - 1) = g - 1 := by rw [hmx, if_neg (by omega)]
      rw [e2] at hV ⊢
      have e3 : lf p g = lf p (g - 1) + 1 := by unfold lf; split <;> split <;> omega
      rw [e1] at hU
      rw [e3] at hT
      have l1 := le _ _ _ hw.1 (e3 ▸ hT) hU
      have l2 := le _ _ _ (by omega) hV hT
      rw [if_pos cu, if_neg (by omega)]
      rw [if_neg (by omega : ¬ g + 1 = p)]
      rw [if_neg (by omega)]
      first | rw [if_neg (by omega), fin] | rw [if_neg (by split <;> omega), if_neg (by omega), fin]
    · have e1 : lf p g = lf p (g + 1) + 1 := by unfold lf; split <;> split <;> omega
      rw [e1] at hT
      have l1 := le _ _ _ (by omega) hU hT
      rw [if_neg cu, if_pos (by omega), if_neg (by split <;> omega), fin]
end Go.Proofs.Ytfeikhooaadlbaa.Pure
