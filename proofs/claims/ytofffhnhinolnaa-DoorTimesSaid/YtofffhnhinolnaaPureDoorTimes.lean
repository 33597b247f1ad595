/- The worst case, and how long a door takes at least and at most: the program answers as the reference. No condition. -/
import Derived.Test.YtofffhnhinolnaaLDoorTimes
import Derived.Test.YtofffhnhinolnaaQ
namespace Go.Proofs.Ytofffhnhinolnaa.Pure
open Go.RowKit Go.Proofs.Ytofffhnhinolnaa.P Go.Proofs.YtofffhnhinolnaaW.PrintWords Go.Proofs.YtofffhnhinolnaaW.PrintLast
set_option linter.unusedSimpArgs false
set_option linter.unusedVariables false

theorem Worst_same (w dw rt : Int) : ∃ a e, door_Worst.f w dw rt = some (a, e) ∧ ref_Worst.f w dw rt = some (a, e) := by
  unfold door_Worst.f ref_Worst.f
  rw [Rule_eq, ref_Rule_eq]
  simp only [Option.bind_some]
  by_cases h : dRule w dw rt
  · rw [if_pos h, if_pos rfl]; exact ⟨_, _, rfl, rfl⟩
  · rw [if_neg h, if_neg (by decide)]; exact ⟨_, _, rfl, rfl⟩

theorem least_ok (w dw rt : Int) : ∀ (n k : Nat) (p x l t i : Int), dV p x l t w dw rt → dleast p x l w dw = n → 0 ≤ i → i + n ≤ 1000 →
    ref_least.l0 (k + n + 1) i p x l t w dw rt = some (i + n) := by
  intro n
  induction n with
  | zero =>
    intro k p x l t i hV hn hi hi2
    have := dleast_bound hV
    have hp : p = 0 := this.2.2.1 (by omega)
    rw [show k + 0 + 1 = (k + 0) + 1 from rfl, ref_least.l0, if_pos hp]
    congr 1; omega
  | succ n ih =>
    intro k p x l t i hV hn hi hi2
    have hb := dleast_bound hV
    have hp : p ≠ 0 := fun q => by have := hb.2.2.2 q; omega
    have hs := dleast_step hV hp
    rw [show k + (n + 1) + 1 = (k + n + 1) + 1 from by omega, ref_least.l0, if_neg hp, ref_step_eq p x l t w dw rt false hV, Option.bind_some]
    dsimp only
    rw [wsm (i + 1) (by omega) (by omega), ih k _ _ _ _ (i + 1) (dtk_ok false hV) (by omega) (by omega) (by omega)]
    congr 1; omega

theorem most_ok (w dw rt : Int) : ∀ (n k : Nat) (p x l t i : Int), dV p x l t w dw rt → dmost p x l t w dw rt = n → 0 ≤ i → i + n ≤ 1000 →
    ref_most.l0 (k + n + 1) i p x l t w dw rt = some (i + n) := by
  intro n
  induction n with
  | zero =>
    intro k p x l t i hV hn hi hi2
    have := dmost_bound hV
    have hp : p = 0 := this.2.2.1 (by omega)
    rw [show k + 0 + 1 = (k + 0) + 1 from rfl, ref_most.l0, if_pos hp]
    congr 1; omega
  | succ n ih =>
    intro k p x l t i hV hn hi hi2
    have hb := dmost_bound hV
    have hp : p ≠ 0 := fun q => by have := hb.2.2.2 q; omega
    have hs := dmost_step hV hp
    have fin : ∀ o : Bool, dmostT (dtk p x l t w dw rt o) w dw rt = dmost p x l t w dw rt - 1 →
        ((ref_step.f p x l t w dw rt o).bind fun bt => ref_most.l0 (k + n + 1) (wrap64 (i + 1)) bt.1 bt.2.1 bt.2.2.1 bt.2.2.2.1 w dw rt) = some (i + ((n + 1 : Nat) : Int)) := fun o ho => by
      unfold dmostT at ho
      rw [ref_step_eq p x l t w dw rt o hV, Option.bind_some]
      dsimp only
      rw [wsm (i + 1) (by omega) (by omega), ih k _ _ _ _ (i + 1) (dtk_ok o hV) (by omega) (by omega) (by omega)]
      congr 1; omega
    rw [show k + (n + 1) + 1 = (k + n + 1) + 1 from by omega, ref_most.l0, if_neg hp]
    by_cases h3 : p = 3
    · rw [if_pos h3]
      have hf := hs.2.2 h3
      by_cases hx : x = 1
      · rw [if_pos hx]
        rw [show decide (x = 1 ∧ t < rt) = decide (t < rt) from by simp [hx]] at hf
        exact fin _ hf
      · rw [if_neg hx]
        rw [show decide (x = 1 ∧ t < rt) = false from by simp [hx]] at hf
        exact fin _ hf
    · rw [if_neg h3]
      exact fin _ (hs.1 h3)

theorem Rest_same (k : Nat) (p x l t w dw rt : Int) : ∃ a b e, door_Rest.f p x l t w dw rt = some (a, b, e) ∧ ref_Rest.f (k + 700) p x l t w dw rt = some (a, b, e) := by
  unfold door_Rest.f ref_Rest.f
  rw [show k + 700 = (k + 698) + 2 from rfl, ref_Check_eq, Option.bind_some]
  by_cases h : dchk p x l t w dw rt = 0
  · have hV := dchk_zero.1 h
    rw [if_pos h, if_pos h]
    have b1 := dleast_bound hV
    have b2 := dmost_bound hV
    obtain ⟨n, hn⟩ : ∃ n : Nat, dleast p x l w dw = n := ⟨(dleast p x l w dw).toNat, by omega⟩
    obtain ⟨m, hm⟩ : ∃ m : Nat, dmost p x l t w dw rt = m := ⟨(dmost p x l t w dw rt).toNat, by omega⟩
    have e1 := least_ok w dw rt n (k + 698 + 2 - n - 1) p x l t 0 hV hn (by omega) (by omega)
    have e2 := most_ok w dw rt m (k + 698 + 2 - m - 1) p x l t 0 hV hm (by omega) (by omega)
    rw [show k + 698 + 2 - n - 1 + n + 1 = k + 698 + 2 from by omega] at e1
    rw [show k + 698 + 2 - m - 1 + m + 1 = k + 698 + 2 from by omega] at e2
    refine ⟨_, _, _, rfl, ?_⟩
    unfold ref_least.f ref_most.f
    rw [e1, Option.bind_some, e2, Option.bind_some, hn, hm, Int.zero_add, Int.zero_add]
  · rw [if_neg h, if_neg h]
    exact ⟨_, _, _, rfl, rfl⟩

theorem DoorTimes : q_DoorTimes.Pure := by
  intro p x l t w dw rt _ _ _ _ _ _ _
  refine ⟨710, ?_⟩
  obtain ⟨a1, e1, h1, g1⟩ := Worst_same w dw rt
  obtain ⟨a2, b2, e2, h2, g2⟩ := Rest_same 10 p x l t w dw rt
  unfold q_DoorTimes.f
  rw [h1, g1, h2, show 710 = 10 + 700 from rfl, g2]
  simp only [Option.bind_some, if_true]
  rw [show 10 + 700 = 700 + 10 from rfl, awake_true, Option.bind_some, if_pos rfl]

end Go.Proofs.Ytofffhnhinolnaa.Pure
