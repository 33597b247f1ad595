/- Several ticks of a door: the program answers as the reference. No condition beyond the law's own. -/
import Derived.Test.YtofffhnhinolnaaLDoorRuns
import Derived.Test.YtofffhnhinolnaaQ
namespace Go.Proofs.Ytofffhnhinolnaa.Pure
open Go.RowKit Go.Proofs.Ytofffhnhinolnaa.P Go.Proofs.YtofffhnhinolnaaW.PrintWords Go.Proofs.YtofffhnhinolnaaW.PrintLast
set_option linter.unusedSimpArgs false
set_option linter.unusedVariables false

theorem same_loop (l : List Int) (hl : l.length ≤ 100000) (d : Nat) : ∀ (k : Nat) (i : Int), 0 ≤ i → (l.length : Int) - i = d → kit_SameInts.l0 (k + d + 1) l l i = some true := by
  induction d with
  | zero => intro k i h0 h; rw [kit_SameInts.l0, if_neg (by omega)]
  | succ d ih =>
    intro k i h0 h
    rw [kit_SameInts.l0, if_pos (by omega), if_pos h0, if_pos (by omega), if_pos rfl, wsm (i + 1) (by omega) (by omega)]
    exact ih k (i + 1) (by omega) (by omega)
theorem same_refl (l : List Int) (n : Nat) (hl : l.length ≤ n) (hn : n ≤ 100000) (k : Nat) : kit_SameInts.f (k + n + 1) l l = some true := by
  unfold kit_SameInts.f
  rw [if_pos rfl, show k + n + 1 = (k + (n - l.length)) + l.length + 1 from by omega]
  exact same_loop l (by omega) l.length _ 0 (by omega) (by omega)

theorem ref_loop (q : Int × Int × Int × Int) (w dw rt : Int) (l : List Bool) (hV : dV q.1 q.2.1 q.2.2.1 q.2.2.2 w dw rt) (hl : l.length ≤ 1000) (d : Nat) : ∀ (k i : Nat), i + d = l.length →
    ref_Run.l0 (k + d + 1) l (dls q w dw rt l i) i (dqs q w dw rt l i).1 (dqs q w dw rt l i).2.1 (dqs q w dw rt l i).2.2.1 (dqs q w dw rt l i).2.2.2 w dw rt =
      some ((dqs q w dw rt l l.length).1, (dqs q w dw rt l l.length).2.1, (dqs q w dw rt l l.length).2.2.1, (dqs q w dw rt l l.length).2.2.2, dls q w dw rt l l.length, 0) := by
  induction d with
  | zero =>
    intro k i h
    obtain rfl : i = l.length := h
    rw [ref_Run.l0, if_neg (by omega)]
  | succ d ih =>
    intro k i h
    have ih := ih k (i + 1) (by omega)
    have hlen := dls_len q w dw rt l i
    rw [show k + (d + 1) + 1 = (k + d + 1) + 1 from rfl, ref_Run.l0, if_pos (by omega), if_pos (by omega), ref_step_eq _ _ _ _ _ _ _ _ (dqs_ok l hV i), Option.bind_some, wsm ((i : Int) + 1) (by omega) (by omega)]
    dsimp only
    have e : ((i : Int) + 1) = ((i + 1 : Nat) : Int) := by omega
    by_cases ho : dopen (dqs q w dw rt l i) w = true
    · have ho2 : dop (dqs q w dw rt l i).1 (dqs q w dw rt l i).2.1 w = true := ho
      rw [if_pos ho2, if_pos (by omega), e]
      have e2 : dls q w dw rt l i ++ [(i : Int)] = dls q w dw rt l (i + 1) := by rw [dls, if_pos ho]
      rw [e2]
      exact ih
    · have ho2 : ¬ dop (dqs q w dw rt l i).1 (dqs q w dw rt l i).2.1 w = true := ho
      rw [if_neg ho2, e]
      have e2 : dls q w dw rt l i = dls q w dw rt l (i + 1) := by rw [dls, if_neg ho, List.append_nil]
      rw [e2]
      exact ih

theorem ref_Run_eq (k : Nat) (p x l t w dw rt : Int) (b : List Bool) (hb : b.length ≤ 1010) : ref_Run.f (k + 1020) p x l t w dw rt b = door_Run.f p x l t w dw rt b := by
  unfold ref_Run.f door_Run.f
  rw [show k + 1020 = (k + 1018) + 2 from rfl, ref_Check_eq, Option.bind_some]
  by_cases h : dchk p x l t w dw rt = 0
  · rw [if_pos h, if_pos h, show k + 1018 + 2 = (k + 1018) + 1 + 1 from rfl, ref_Run.j0]
    by_cases hl : b.length > 1000
    · rw [decide_eq_true (by omega), if_pos rfl, ref_Run.j1, if_neg (by decide), if_pos hl, if_pos (by omega)]
    · rw [decide_eq_false (by omega), if_neg (by decide), ref_Run.j1, if_pos h, if_neg hl]
      have e := ref_loop (p, x, l, t) w dw rt b (dchk_zero.1 h) (by omega) b.length (k + 1017 - b.length) 0 (by omega)
      rw [show k + 1017 - b.length + b.length + 1 = k + 1018 from by omega] at e
      exact e
  · rw [if_neg h, if_neg h, show k + 1018 + 2 = (k + 1018) + 1 + 1 from rfl, ref_Run.j0, if_neg (by decide), ref_Run.j1, if_neg h]

theorem run_some (p x l t w dw rt : Int) (b : List Bool) (hb : b.length ≤ 1010) : ∃ r1 r2 r3 r4 r5 r6, door_Run.f p x l t w dw rt b = some (r1, r2, r3, r4, r5, r6) ∧ r5.length ≤ 1010 := by
  unfold door_Run.f
  split
  · split
    · rw [if_pos (by omega)]
      exact ⟨_, _, _, _, _, _, rfl, by simp⟩
    · exact ⟨_, _, _, _, _, _, rfl, by have := dls_len (p, x, l, t) w dw rt b b.length; omega⟩
  · exact ⟨_, _, _, _, _, _, rfl, by simp⟩

theorem DoorRuns : q_DoorRuns.Pure := by
  intro p x l t w dw rt b _ _ _ _ _ _ _ _ _
  refine ⟨2000, ?_⟩
  have hj : ∀ o : Bool, (o = false → b.length ≤ 1010) → q_DoorRuns.j0 2000 b o p x l t w dw rt = some true := by
    intro o ho
    rw [show 2000 = 1999 + 1 from rfl, q_DoorRuns.j0]
    cases o
    · have hb := ho rfl
      obtain ⟨r1, r2, r3, r4, r5, r6, hR, h5⟩ := run_some p x l t w dw rt b hb
      rw [if_neg (by decide), show 1999 = 979 + 1020 from rfl, ref_Run_eq 979 p x l t w dw rt b hb, hR, Option.bind_some, Option.bind_some]
      dsimp only
      simp only [beq_self_eq_true, Bool.and_self, if_true]
      rw [show 979 + 1020 = 988 + 1010 + 1 from rfl, same_refl r5 1010 h5 (by omega), Option.bind_some, if_pos rfl, show 988 + 1010 + 1 = 1989 + 10 from rfl, awake_true, Option.bind_some, if_pos rfl]
    · rw [if_pos rfl, show 1999 = 1989 + 10 from rfl, awake_true, Option.bind_some, if_pos rfl]
  unfold q_DoorRuns.f
  split
  · split
    · exact hj true (fun h => by cases h)
    · exact hj _ (fun h => by have := of_decide_eq_false h; omega)
  · exact hj _ (fun h => by have := of_decide_eq_false h; omega)
end Go.Proofs.Ytofffhnhinolnaa.Pure
