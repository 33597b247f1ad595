/- Valid readings, and what a sensor reads: the program answers as the reference. -/
import Derived.Test.YtlkphdcfgaolnaaLSensorReads
import Derived.Test.YtlkphdcfgaolnaaSat
namespace Go.Proofs.Ytlkphdcfgaolnaa.Pure
open Go.RowKit Go.Proofs.Ytlkphdcfgaolnaa.P Go.Proofs.YtlkphdcfgaolnaaW.PrintWords Go.Proofs.YtlkphdcfgaolnaaW.PrintLast Go.Proofs.YtlkphdcfgaolnaaW.PrintMore
set_option linter.unusedSimpArgs false
set_option linter.unusedVariables false
theorem awake_t : ∀ k, q_awake.f (k + 60) = some true
  | 0 => by decide +kernel
  | k + 1 => q_awake.mono _ _ (awake_t k)
theorem same_loop (l : List Int) (hl : l.length ≤ 100000) (d : Nat) : ∀ (k : Nat) (i : Int), 0 ≤ i → (l.length : Int) - i = d → kit_SameInts.l0 (k + d + 1) l l i = some true := by
  induction d with
  | zero =>
    intro k i h0 h1
    rw [Nat.add_zero, kit_SameInts.l0, if_neg (by omega)]
  | succ d ih =>
    intro k i h0 h1
    rw [show k + (d + 1) + 1 = (k + d + 1) + 1 by omega, kit_SameInts.l0, if_pos (by omega), if_pos h0, if_pos (by omega), if_pos rfl, wsv (i + 1) (by omega) (by omega)]
    exact ih k (i + 1) (by omega) (by omega)
theorem same_refl (l : List Int) (n : Nat) (hl : l.length ≤ n) (hn : n ≤ 100000) (k : Nat) : kit_SameInts.f (k + n + 1) l l = some true := by
  unfold kit_SameInts.f
  rw [if_pos rfl, show k + n + 1 = (k + (n - l.length)) + l.length + 1 by omega]
  exact same_loop l (by omega) l.length _ 0 (by omega) (by omega)
theorem own_eq (l : List Int) (h : l.length ≤ 100000) : kit_OwnInts.f l = some l := by
  unfold kit_OwnInts.f
  rw [Option.bind_some, if_pos (by simp; omega), List.nil_append]
theorem check_same (k : Nat) (a : Bool) (b c : Int) : ∃ r, sensor_Check.f (k + 1) a b c = some r ∧ ref_Check.f (k + 1) a b c = some r := by
  have h : ∀ (b0 : Bool), ∃ r, sensor_Check.j0 (k + 1) b0 a b c = some r ∧ ref_Check.j0 (k + 1) b0 a b c = some r := by
    intro b0
    rw [sensor_Check.j0, ref_Check.j0]
    unfold sensor_failed.f ref_failed.f
    simp only [Option.bind_some]
    generalize (!a == false || (!b == -1 || !c == 0)) = z
    cases b0 <;> cases a <;> cases z <;> exact ⟨_, rfl, rfl⟩
  unfold sensor_Check.f ref_Check.f
  split
  · exact h _
  · split
    · exact h _
    · split
      · exact h _
      · exact h _
theorem read_same (k : Nat) (l : List Int) (p t : Int) (o : Bool) : ∃ r, sensor_Read.f (k + 72) l p t o = some r ∧ ref_Read.f (k + 72) l p t o = some r := by
  obtain ⟨x, e, h1, h2⟩ := At_same l p t (k + 1)
  obtain ⟨y, e2, h3, h4⟩ := Height_same l (k + 1)
  unfold sensor_Read.f ref_Read.f
  rw [show k + 72 = (k + 1) + 71 by omega, h1, h2, Option.bind_some, Option.bind_some]
  dsimp only
  have e1 : k + 1 + 70 = k + 71 := by omega
  have e2' : k + 1 + 71 = (k + 71) + 1 := by omega
  rw [e1] at h4
  rw [e2']
  by_cases c6 : e = 6
  · subst c6
    rw [if_pos rfl, if_neg (by decide), sensor_Read.j0, show ((6 : Int) != 6) = false from rfl, ref_Read.j0]
    cases o
    · exact ⟨_, rfl, rfl⟩
    · rw [if_pos rfl, if_neg (by decide), if_pos rfl, if_pos rfl, h3, h4, Option.bind_some]
      split <;> exact ⟨_, rfl, rfl⟩
  · rw [if_neg c6]
    by_cases c0 : e = 0
    · subst c0
      rw [if_pos rfl, if_pos rfl, sensor_Read.j0, ref_Read.j0]
      cases o
      · exact ⟨_, rfl, rfl⟩
      · rw [if_pos rfl, if_neg (by decide), if_pos rfl, if_neg (by decide), h3, h4, Option.bind_some]
        split <;> exact ⟨_, rfl, rfl⟩
    · rw [if_neg c0, if_neg c0, ref_Read.j0, if_pos (bne_iff_ne.2 c6)]
      exact ⟨_, rfl, rfl⟩
theorem SensorReads : q_SensorReads.Pure := by
  intro a b c l p t o _ _ _ _ _ _ _
  refine ⟨200, ?_⟩
  have hk : q_awake.f 200 = some true := awake_t 140
  unfold q_SensorReads.f
  by_cases c0 : (l.length : Int) > 70
  · rw [if_pos c0, hk, Option.bind_some, if_pos rfl]
  · obtain ⟨r, h1, h2⟩ := read_same 128 l p t o
    obtain ⟨e, h3, h4⟩ := check_same 199 a b c
    have h5 := same_refl l 100 (by omega) (by omega) 99
    rw [show 128 + 72 = 200 from rfl] at h1 h2
    rw [show 199 + 1 = 200 from rfl] at h3 h4
    rw [show 99 + 100 + 1 = 200 from rfl] at h5
    rw [if_neg c0, own_eq l (by omega), Option.bind_some, h1, h2, Option.bind_some, Option.bind_some, if_pos (by simp), if_pos rfl, h3, h4, Option.bind_some, Option.bind_some, if_pos rfl, h5, Option.bind_some, if_pos rfl, hk, Option.bind_some, if_pos rfl]
end Go.Proofs.Ytlkphdcfgaolnaa.Pure
