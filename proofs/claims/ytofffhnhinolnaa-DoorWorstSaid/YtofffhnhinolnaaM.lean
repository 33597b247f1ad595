/- Rules made of numbers, and a closed door opened: plain Lean, no program. -/
import Derived.Test.YtofffhnhinolnaaQ0
import Derived.Test.YtofffhnhinolnaaP0tipstaffkit
import Derived.Test.YtofffhnhinolnaaP0tipstafflaw18
namespace Go.Proofs.Ytofffhnhinolnaa.P
open Go.RowKit Go.Proofs.YtofffhnhinolnaaW.PrintWords Go.Proofs.YtofffhnhinolnaaW.PrintLast Go.Proofs.YtofffhnhinolnaaW.PrintMore
set_option linter.unusedVariables false
theorem mod_eq (a m : Int) (hm : 1 ≤ m) (hm2 : m ≤ 10000000) : ∃ r, kit_Mod.f a m = some r ∧ 0 ≤ r ∧ r < m := by
  unfold kit_Mod.f
  rw [if_neg (by omega), if_neg (by omega)]
  have h1 := Int.tmod_lt_of_pos a (show 0 < m by omega)
  have h2 : -m < Int.tmod a m := by
    have h3 := Int.tmod_lt_of_pos (-a) (show 0 < m by omega)
    rw [Int.neg_tmod] at h3
    omega
  by_cases h : Int.tmod a m < 0
  · rw [if_pos h]
    exact ⟨_, rfl, by rw [wsm _ (by omega) (by omega)]; omega, by rw [wsm _ (by omega) (by omega)]; omega⟩
  · rw [if_neg h]
    exact ⟨_, rfl, by omega, by omega⟩
theorem made_ok (a : Int) : ∃ w dw rt, q_made.f a = some (w, dw, rt) ∧ 1 ≤ w ∧ w ≤ 6 ∧ 1 ≤ dw ∧ dw ≤ 7 ∧ 0 ≤ rt ∧ rt ≤ 3 := by
  obtain ⟨k, hk, h0, h1⟩ := mod_eq a 1048576 (by omega) (by omega)
  unfold q_made.f
  rw [hk, Option.bind_some]
  have e1 : Int.tmod k 6 = k % 6 := Int.tmod_eq_emod_of_nonneg h0
  have e2 : Int.tdiv k 6 = k / 6 := Int.tdiv_eq_ediv_of_nonneg h0
  have e3 : Int.tdiv k 42 = k / 42 := Int.tdiv_eq_ediv_of_nonneg h0
  rw [e1, e2, e3, wsm (k / 6) (by omega) (by omega), wsm (k / 42) (by omega) (by omega)]
  have e4 : Int.tmod (k / 6) 7 = (k / 6) % 7 := Int.tmod_eq_emod_of_nonneg (by omega)
  have e5 : Int.tmod (k / 42) 4 = (k / 42) % 4 := Int.tmod_eq_emod_of_nonneg (by omega)
  rw [e4, e5, wsm (1 + k % 6) (by omega) (by omega), wsm (1 + k / 6 % 7) (by omega) (by omega)]
  exact ⟨_, _, _, rfl, by omega, by omega, by omega, by omega, by omega, by omega⟩
theorem panel_le {q : Int × Int × Int × Int} {w dw rt : Int} (hV : dV q.1 q.2.1 q.2.2.1 q.2.2.2 w dw rt) : q.2.1 ≤ dmostT q w dw rt := by
  obtain ⟨p, x, l, t⟩ := q
  dsimp only at *
  rw [dmostT_mk]
  obtain ⟨h1, h2, h3, h4⟩ := hV
  have hb := dprod h1 h3.2.2.2.2.1 h3.2.2.2.2.2
  unfold dmost
  repeat' split
  all_goals omega
theorem Open_closed (k : Nat) (w dw rt : Int) (h : dRule w dw rt) : door_Open.f (k + 2) 0 0 0 0 w dw rt = some (1, 0, 0, 0, 0) := by
  have hV : dV 0 0 0 0 w dw rt := ⟨h, by omega, by omega, by omega⟩
  unfold door_Open.f
  rw [door_Check_eq, dchk_zero.2 hV, Option.bind_some, if_pos rfl, door_Open.j0]
  rfl
end Go.Proofs.Ytofffhnhinolnaa.P
