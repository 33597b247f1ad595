/- Readings made of numbers, and votes: plain Lean, no program. -/
import Derived.Test.YtlkphdcfgaolnaaLSensorKnown
import Derived.Test.YtlkphdcfgaolnaaVa
import Derived.Test.YtlkphdcfgaolnaaOa
namespace Go.Proofs.Ytlkphdcfgaolnaa.P
open Go.RowKit Go.Proofs.YtlkphdcfgaolnaaW.PrintWords Go.Proofs.YtlkphdcfgaolnaaW.PrintLast Go.Proofs.YtlkphdcfgaolnaaW.PrintMore
set_option linter.unusedSimpArgs false
set_option linter.unusedVariables false

theorem known_true (k : Nat) : q_SensorKnown.f (k + 60) = some true := by
  have h : q_SensorKnown.f 60 = some true := by decide +kernel
  induction k with
  | zero => exact h
  | succ k ih => exact q_SensorKnown.mono _ _ ih
theorem mod_eq (a m : Int) (hm : 1 ≤ m) (hm2 : m ≤ 10000000) : ∃ r, kit_Mod.f a m = some r ∧ 0 ≤ r ∧ r < m := by
  unfold kit_Mod.f
  rw [if_neg (by omega), if_neg (by omega)]
  have h1 := Int.tmod_lt_of_pos a (show 0 < m by omega)
  have h2 : -m < Int.tmod a m := by
    have h3 := Int.tmod_lt_of_pos (-a) (show 0 < m by omega)
    rw [Int.neg_tmod] at h3
    omega
  by_cases c : Int.tmod a m < 0
  · rw [if_pos c]
    exact ⟨_, rfl, by rw [wsv _ (by omega) (by omega)]; omega, by rw [wsv _ (by omega) (by omega)]; omega⟩
  · rw [if_neg c]
    exact ⟨_, rfl, by omega, h1⟩
theorem made_ok (a : Int) : ∃ x : R3, q_made.f a = some x ∧ vck x = 0 := by
  obtain ⟨t, ht, h0, h1⟩ := mod_eq a 100 (by omega) (by omega)
  have e1 : Int.tmod t 4 = t % 4 := Int.tmod_eq_emod_of_nonneg h0
  have e2 : Int.tdiv t 4 = t / 4 := Int.tdiv_eq_ediv_of_nonneg h0
  have e3 : Int.tdiv t 16 = t / 16 := Int.tdiv_eq_ediv_of_nonneg h0
  have e4 : Int.tmod (t / 4) 4 = (t / 4) % 4 := Int.tmod_eq_emod_of_nonneg (by omega)
  have e5 : Int.tmod (t / 16) 2 = (t / 16) % 2 := Int.tmod_eq_emod_of_nonneg (by omega)
  unfold q_made.f
  rw [ht, Option.bind_some, e1, e2, e3, wsv (t / 4) (by omega) (by omega), wsv (t / 16) (by omega) (by omega), e4, e5, wsv ((t / 4) % 4 - 1) (by omega) (by omega)]
  by_cases c : t % 4 = 0
  · rw [if_pos c]
    exact ⟨(false, -1, 0), rfl, by decide⟩
  · rw [if_neg c]
    refine ⟨(true, (t / 4) % 4 - 1, (t / 16) % 2), rfl, ?_⟩
    unfold vck
    rw [if_neg (by dsimp only; omega), if_neg (fun q => by cases q.1)]
theorem vote_ok {x y z : R3} (hx : vck x = 0) (hy : vck y = 0) (hz : vck z = 0) : sensor_Vote.f x.1 x.2.1 x.2.2 y.1 y.2.1 y.2.2 z.1 z.2.1 z.2.2 = some ((vres x y z).1, (vres x y z).2.1, (vres x y z).2.2, 0) := by
  unfold sensor_Vote.f
  have h : vchk x y z = 0 := by unfold vchk; rw [if_neg (fun q => q hx), if_neg (fun q => q hy), hz]
  rw [if_pos h]
theorem vck_vres {x y z : R3} (hx : vck x = 0) (hy : vck y = 0) (hz : vck z = 0) : vck (vres x y z) = 0 := by
  unfold vres
  repeat' split
  all_goals first | assumption | decide
theorem vres_p1 (x y z : R3) : vres x z y = vres x y z := by
  unfold vres
  by_cases a : x.1 = true <;> by_cases b : y.1 = true <;> by_cases c : z.1 = true <;> simp [a, b, c] <;> grind
theorem vres_p2 (x y z : R3) : vres y x z = vres x y z := by
  unfold vres
  by_cases a : x.1 = true <;> by_cases b : y.1 = true <;> by_cases c : z.1 = true <;> simp [a, b, c] <;> grind
end Go.Proofs.Ytlkphdcfgaolnaa.P
