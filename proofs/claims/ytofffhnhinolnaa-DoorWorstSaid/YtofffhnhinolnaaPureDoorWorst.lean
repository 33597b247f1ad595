/- The worst case is reached, and a cycle without obstructions takes 2 Width + Dwell ticks and becomes open once: rules made of a number. No condition. -/
import Derived.Test.YtofffhnhinolnaaLDoorWorst
import Derived.Test.YtofffhnhinolnaaM
namespace Go.Proofs.Ytofffhnhinolnaa.Pure
open Go.RowKit Go.Proofs.Ytofffhnhinolnaa.P Go.Proofs.YtofffhnhinolnaaW.PrintWords Go.Proofs.YtofffhnhinolnaaW.PrintLast
set_option linter.unusedSimpArgs false
set_option linter.unusedVariables false

theorem rd_rep (n : Nat) (i : Int) : rdOf false (List.replicate n false) i = false := by
  unfold rdOf
  rw [List.getD_eq_getElem?_getD, List.getElem?_replicate]
  split <;> rfl

/-- Without obstructions: while it opens, and behind. -/
theorem free_states (w dw rt : Int) (n : Nat) (hw : 1 ≤ w) : ∀ k : Nat,
    ((k : Int) < w → dqs (1, 0, 0, 0) w dw rt (List.replicate n false) k = (1, (k : Int), 0, 0) ∧ dls (1, 0, 0, 0) w dw rt (List.replicate n false) k = []) ∧
    (w ≤ (k : Int) → (dqs (1, 0, 0, 0) w dw rt (List.replicate n false) k).1 ≠ 1 ∧ dls (1, 0, 0, 0) w dw rt (List.replicate n false) k = [w - 1]) := by
  intro k
  induction k with
  | zero => exact ⟨fun _ => ⟨rfl, rfl⟩, fun h => by omega⟩
  | succ k ih =>
    have e : dqs (1, 0, 0, 0) w dw rt (List.replicate n false) (k + 1) = dtk (dqs (1, 0, 0, 0) w dw rt (List.replicate n false) k).1 (dqs (1, 0, 0, 0) w dw rt (List.replicate n false) k).2.1 (dqs (1, 0, 0, 0) w dw rt (List.replicate n false) k).2.2.1 (dqs (1, 0, 0, 0) w dw rt (List.replicate n false) k).2.2.2 w dw rt false := by rw [dqs, rd_rep]
    have e2 : dls (1, 0, 0, 0) w dw rt (List.replicate n false) (k + 1) = dls (1, 0, 0, 0) w dw rt (List.replicate n false) k ++ (if dopen (dqs (1, 0, 0, 0) w dw rt (List.replicate n false) k) w = true then [(k : Int)] else []) := rfl
    rw [e, e2]
    by_cases hk : (k : Int) < w
    · obtain ⟨h1, h2⟩ := ih.1 hk
      rw [h1, h2]
      dsimp only
      unfold dtk
      rw [if_pos rfl]
      by_cases hl : (k : Int) + 1 = w
      · rw [if_pos hl, if_pos (show dopen (1, (k : Int), 0, 0) w = true from decide_eq_true ⟨rfl, hl⟩)]
        exact ⟨fun h => by omega, fun _ => ⟨show (2 : Int) ≠ 1 from by decide, by rw [show (k : Int) = w - 1 from by omega]; rfl⟩⟩
      · rw [if_neg hl, if_neg (by unfold dopen; rw [decide_eq_false (fun h => hl h.2)]; decide)]
        exact ⟨fun h => ⟨rfl, rfl⟩, fun h => by omega⟩
    · obtain ⟨h1, h2⟩ := ih.2 (by omega)
      rw [h2, if_neg (by unfold dopen; rw [decide_eq_false (fun h => h1 h.1)]; decide)]
      refine ⟨fun h => by omega, fun _ => ⟨?_, List.append_nil _⟩⟩
      generalize dqs (1, 0, 0, 0) w dw rt (List.replicate n false) k = q at h1
      unfold dtk
      rw [if_neg h1]
      repeat' split
      all_goals first | exact h1 | (rename_i h _ _; exact absurd h (by decide)) | (rename_i h _; exact absurd h (by decide)) | (simp; done) | simp_all

/-- The least number falls by one at each tick. -/
theorem free_least (w dw rt : Int) (n : Nat) (hV : dV 1 0 0 0 w dw rt) : ∀ k : Nat, (k : Int) ≤ w + dw + w →
    dleast (dqs (1, 0, 0, 0) w dw rt (List.replicate n false) k).1 (dqs (1, 0, 0, 0) w dw rt (List.replicate n false) k).2.1 (dqs (1, 0, 0, 0) w dw rt (List.replicate n false) k).2.2.1 w dw = w + dw + w - k := by
  intro k
  induction k with
  | zero =>
    intro _
    show w - 0 + dw + w = _
    omega
  | succ k ih =>
    intro hk
    have h1 := ih (by omega)
    have hq := dqs_ok (q := (1, 0, 0, 0)) (List.replicate n false) hV k
    have hb := dleast_bound hq
    rw [dqs, rd_rep, dleast_step hq (fun h => by have := hb.2.2.2 h; omega), h1]
    omega

theorem run_free (w dw rt : Int) (hV : dV 1 0 0 0 w dw rt) :
    door_Run.f 1 0 0 0 w dw rt (List.replicate (2 * w + dw).toNat false) = some (0, 0, 0, 0, [w - 1], 0) := by
  have hr := hV.rule
  unfold door_Run.f
  rw [if_pos (dchk_zero.2 hV), List.length_replicate, if_neg (by omega)]
  have h1 := free_least w dw rt (2 * w + dw).toNat hV (2 * w + dw).toNat (by omega)
  have hq := dqs_ok (q := (1, 0, 0, 0)) (List.replicate (2 * w + dw).toNat false) hV (2 * w + dw).toNat
  have hb := dleast_bound hq
  have hp := hb.2.2.1 (by omega)
  have h2 := (free_states w dw rt (2 * w + dw).toNat (by omega) (2 * w + dw).toNat).2 (by omega)
  rw [h2.2]
  generalize dqs (1, 0, 0, 0) w dw rt (List.replicate (2 * w + dw).toNat false) (2 * w + dw).toNat = q at hq hp
  obtain ⟨a, b, c, d⟩ := q
  dsimp only at hq hp ⊢
  obtain ⟨g1, g2, g3, g4⟩ := hq
  have hb : b = 0 := by omega
  have hc : c = 0 := by omega
  have hd : d = 0 := by omega
  rw [hp, hb, hc, hd]

theorem worst_loop (W w dw rt : Int) (hR : dRule w dw rt) (hW : W = 2 * w + dw + rt * (2 * w - 1 + dw)) (hW2 : W ≤ 300) : ∀ (d k : Nat) (u p x l t : Int), u + d = W → 0 ≤ u → dV p x l t w dw rt → dmost p x l t w dw rt = W - u →
    q_DoorWorst.l0 (k + 2 * d + 30) W u w dw rt p x l t 1 0 0 0 = some true := by
  have hV0 : dV 1 0 0 0 w dw rt := ⟨hR, by omega, by omega, by omega⟩
  intro d
  induction d with
  | zero =>
    intro k u p x l t hu hu0 hV hd
    have hb := dmost_bound hV
    have hp : p = 0 := hb.2.2.1 (by omega)
    have hm : dmost 1 0 0 0 w dw rt = W := by rw [dmost_eq1, Int.sub_zero rt, hW]; omega
    have hl : dleast 1 0 0 w dw = 2 * w + dw := by show w - 0 + dw + w = _; omega
    have hRest : door_Rest.f 1 0 0 0 w dw rt = some (2 * w + dw, W, 0) := by
      unfold door_Rest.f
      rw [if_pos (dchk_zero.2 hV0), hm, hl]
    rw [show k + 2 * 0 + 30 = (k + 28) + 1 + 1 from rfl, q_DoorWorst.l0, if_pos hp, q_DoorWorst.j2, if_neg (by decide), wsm (2 * w) (by omega) (by omega), wsm (2 * w + dw) (by omega) (by omega), wsm (w - 1) (by omega) (by omega), if_pos (by omega), if_pos (by omega), run_free w dw rt hV0, Option.bind_some, hRest, Option.bind_some]
    dsimp only
    rw [if_pos (by omega), if_pos rfl, if_pos rfl, if_pos (by decide)]
    have hs : kit_SameInts.f (k + 28) [w - 1] [w - 1] = some true := by
      unfold kit_SameInts.f
      rw [if_pos rfl, show k + 28 = (k + 26) + 1 + 1 from rfl, kit_SameInts.l0, List.length_singleton, if_pos (by decide), if_pos (by decide), if_pos (by decide), if_pos rfl, wsm (0 + 1) (by decide) (by decide), kit_SameInts.l0, List.length_singleton, if_neg (by decide)]
    rw [hs, Option.bind_some, if_pos rfl, if_pos rfl, if_pos rfl, show k + 28 = (k + 18) + 10 from rfl, awake_true, Option.bind_some, if_pos rfl]
  | succ d ih =>
    intro k u p x l t hu hu0 hV hd
    have hb := dmost_bound hV
    have hp : p ≠ 0 := fun h => by have := hb.2.2.2 h; omega
    have hs := dmost_step hV hp
    rw [show k + 2 * (d + 1) + 30 = (k + 2 * d + 28 + 2) + 1 + 1 from by omega, q_DoorWorst.l0, if_neg hp, decide_eq_true (show u ≤ 300 by omega), q_DoorWorst.j2, if_pos rfl, wsm (u + 1) (by omega) (by omega)]
    have ht := hV.range
    by_cases h3 : p = 3
    · rw [if_pos h3, door_Step_eq, if_pos (dchk_zero.2 hV), Option.bind_some]
      dsimp only
      rw [if_pos rfl]
      -- the last obstruction does not help
      have hm : dmostT (dtk p x l t w dw rt (x == 1)) w dw rt = dmost p x l t w dw rt - 1 := by
        have := hs.2.2 h3
        by_cases hx : x = 1
        · by_cases htr : t < rt
          · rw [decide_eq_true ⟨hx, htr⟩] at this
            rw [show (x == 1) = true from beq_iff_eq.mpr hx]; exact this
          · rw [decide_eq_false (fun h => htr h.2)] at this
            rw [show (x == 1) = true from beq_iff_eq.mpr hx]
            have e : dtk p x l t w dw rt true = dtk p x l t w dw rt false := by
              subst h3; subst hx
              unfold dtk
              rw [if_neg (by decide), if_neg (by decide), if_pos rfl, if_pos rfl, if_neg htr, if_pos (by decide), if_neg (by decide), if_neg (by decide), if_pos rfl, if_neg (by decide), if_pos (by decide)]
            rw [e]; exact this
        · rw [decide_eq_false (fun h => hx h.1)] at this
          rw [show (x == 1) = false from beq_eq_false_iff_ne.mpr hx]; exact this
      exact ih k (u + 1) _ _ _ _ (by omega) (by omega) (dtk_ok _ hV) (by have e : dmostT (dtk p x l t w dw rt (x == 1)) w dw rt = _ := hm; show dmostT (dtk p x l t w dw rt (x == 1)) w dw rt = _; omega)
    · rw [if_neg h3, door_Step_eq, if_pos (dchk_zero.2 hV), Option.bind_some]
      dsimp only
      rw [if_pos rfl]
      exact ih k (u + 1) _ _ _ _ (by omega) (by omega) (dtk_ok _ hV) (by have := hs.1 h3; show dmostT (dtk p x l t w dw rt false) w dw rt = _; omega)

theorem DoorWorst : q_DoorWorst.Pure := by
  intro a0 _
  obtain ⟨w, dw, rt, hm, h1, h2, h3, h4, h5, h6⟩ := made_ok a0
  have hR : dRule w dw rt := by omega
  have hV0 : dV 1 0 0 0 w dw rt := ⟨hR, by omega, by omega, by omega⟩
  obtain ⟨W, hW⟩ : ∃ W, W = 2 * w + dw + rt * (2 * w - 1 + dw) := ⟨_, rfl⟩
  have hprod : 0 ≤ rt * (2 * w - 1 + dw) ∧ rt * (2 * w - 1 + dw) ≤ 54 := ⟨Int.mul_nonneg (by omega) (by omega), Int.le_trans (Int.mul_le_mul (show rt ≤ 3 by omega) (show 2 * w - 1 + dw ≤ 18 by omega) (by omega) (by omega)) (by decide)⟩
  have hWb : 3 ≤ W ∧ W ≤ 300 := by omega
  have hWo : door_Worst.f w dw rt = some (W, 0) := by
    unfold door_Worst.f
    rw [Rule_eq, if_pos hR, Option.bind_some, if_pos rfl, Worst_in w dw rt hR, hW]
  obtain ⟨d, hd⟩ : ∃ d : Nat, (0 : Int) + d = W := ⟨W.toNat, by omega⟩
  have hmo : dmost 1 0 0 0 w dw rt = W - 0 := by rw [dmost_eq1, Int.sub_zero rt]; omega
  have e := worst_loop W w dw rt hR hW hWb.2 d (1000 - 2 * d) 0 1 0 0 0 hd (by omega) hV0 hmo
  rw [show 1000 - 2 * d + 2 * d + 30 = 1030 from by omega] at e
  refine ⟨1031, ?_⟩
  unfold q_DoorWorst.f
  rw [hm, Option.bind_some]
  dsimp only
  rw [hWo, Option.bind_some, show 1031 = 1029 + 2 from rfl, Open_closed 1029 w dw rt hR, Option.bind_some]
  dsimp only
  rw [if_pos rfl, bne_self_eq_false, show 1029 + 2 = 1030 + 1 from rfl, q_DoorWorst.j0, if_neg (by decide)]
  exact e

end Go.Proofs.Ytofffhnhinolnaa.Pure
