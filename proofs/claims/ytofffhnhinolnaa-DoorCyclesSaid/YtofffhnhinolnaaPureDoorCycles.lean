/- A cycle ends in time whatever obstructs, also if the door is forced: rules made of a number. No condition. -/
import Derived.Test.YtofffhnhinolnaaLDoorCycles
import Derived.Test.YtofffhnhinolnaaM
namespace Go.Proofs.Ytofffhnhinolnaa.Pure
open Go.RowKit Go.Proofs.Ytofffhnhinolnaa.P Go.Proofs.YtofffhnhinolnaaW.PrintWords Go.Proofs.YtofffhnhinolnaaW.PrintLast
set_option linter.unusedSimpArgs false
set_option linter.unusedVariables false

/-- What a tick does to the panel and to the greatest number of ticks. -/
theorem tick_facts {p x l t w dw rt : Int} (o : Bool) (W u : Int) (hV : dV p x l t w dw rt) (hd : dmost p x l t w dw rt ≤ W - u) (hu : u < W) :
    0 ≤ (dtk p x l t w dw rt o).2.1 ∧ (dtk p x l t w dw rt o).2.1 ≤ w ∧ (dtk p x l t w dw rt o).2.1 ≤ x + 1 ∧ x - 1 ≤ (dtk p x l t w dw rt o).2.1 ∧ (dtk p x l t w dw rt o).2.1 ≤ W - u - 1 ∧
      dmostT (dtk p x l t w dw rt o) w dw rt ≤ W - (u + 1) := by
  have h2 := dtk_ok o hV
  have hm : dmostT (dtk p x l t w dw rt o) w dw rt ≤ W - (u + 1) := by
    by_cases hp : p = 0
    · subst hp
      rw [show dtk 0 x l t w dw rt o = (0, x, l, t) from rfl, dmostT_mk, dmost_eq0]; omega
    · have hs := dmost_step hV hp
      by_cases h3 : p = 3
      · cases o
        · have := (hs.2.1 h3).1; omega
        · have := (hs.2.1 h3).2; omega
      · have e : dtk p x l t w dw rt o = dtk p x l t w dw rt false := by unfold dtk; rw [if_neg h3, if_neg h3]
        have := hs.1 h3
        rw [e]; omega
  have hx : (dtk p x l t w dw rt o).2.1 ≤ dmostT (dtk p x l t w dw rt o) w dw rt := panel_le h2
  have hc : (dtk p x l t w dw rt o).2.1 ≤ x + 1 ∧ x - 1 ≤ (dtk p x l t w dw rt o).2.1 := by
    obtain ⟨g1, g2, g3, g4⟩ := hV
    unfold dtk
    repeat' split
    all_goals dsimp only
    all_goals omega
  exact ⟨h2.range.1, h2.range.2.1, hc.1, hc.2, by omega, hm⟩

theorem cyc_tail (K k : Nat) (l1 : List Bool) (at_ W u p x l t w dw rt : Int) (o : Bool) (hV : dV p x l t w dw rt) (hd : dmost p x l t w dw rt ≤ W - u) (hu : u < W) (hu0 : 0 ≤ u) (hW : W ≤ 300) :
    ((door_Step.f (k + 2) p x l t w dw rt o).bind fun bt => (if bt.2.2.2.2.2 = 0 then (if bt.2.1 < 0 then (none) else (if bt.2.1 > w then (none) else (if bt.2.1 > (wrap64 (x + 1)) then (none) else (if bt.2.1 < (wrap64 (x - 1)) then (none) else (if bt.2.1 > (wrap64 ((wrap64 (W - u)) - 1)) then (none) else (q_DoorCycles.l0 K l1 W at_ (wrap64 (u + 1)) w dw rt bt.1 bt.2.1 bt.2.2.1 bt.2.2.2.1)))))) else (none))) =
    q_DoorCycles.l0 K l1 W at_ (u + 1) w dw rt (dtk p x l t w dw rt o).1 (dtk p x l t w dw rt o).2.1 (dtk p x l t w dw rt o).2.2.1 (dtk p x l t w dw rt o).2.2.2 := by
  have hf := tick_facts o W u hV hd hu
  have hr := hV.range
  have hr2 := hV.rule
  rw [door_Step_eq, Option.bind_some, if_pos (dchk_zero.2 hV)]
  dsimp only
  rw [if_pos rfl, if_neg (by omega), if_neg (by omega), wsm (x + 1) (by omega) (by omega), if_neg (by omega), wsm (x - 1) (by omega) (by omega), if_neg (by omega), wsm (W - u) (by omega) (by omega), wsm (W - u - 1) (by omega) (by omega), if_neg (by omega), wsm (u + 1) (by omega) (by omega)]

theorem Force_in (k : Nat) {p x l t w dw rt : Int} (hV : dV p x l t w dw rt) : door_Force.f (k + 2) p x l t w dw rt = some (if x = 0 then (0, 0, 0, 0, 0) else (5, x, 0, 0, 0)) := by
  unfold door_Force.f
  rw [door_Check_eq, dchk_zero.2 hV, Option.bind_some, if_pos rfl]
  split <;> rfl

theorem cyc_loop (l1 : List Bool) (at_ W w dw rt : Int) (hW : W ≤ 300) : ∀ (d k : Nat) (u p x l t : Int), u + d = W → 0 ≤ u → dV p x l t w dw rt → dmost p x l t w dw rt ≤ W - u →
    q_DoorCycles.l0 (k + 3 * d + 20) l1 W at_ u w dw rt p x l t = some true := by
  intro d
  induction d with
  | zero =>
    intro k u p x l t hu hu0 hV hd
    have hb := dmost_bound hV
    have hp : p = 0 := hb.2.2.1 (by omega)
    obtain ⟨g1, g2, g3, g4⟩ := hV
    have hx : x = 0 := by omega
    have ht : t = 0 := by omega
    have hl : l = 0 := by omega
    subst hp; subst hx; subst ht; subst hl
    rw [show k + 3 * 0 + 20 = (k + 19) + 1 from rfl, q_DoorCycles.l0, if_neg (by omega), if_pos (by decide), show k + 19 = (k + 9) + 10 from rfl, awake_true, Option.bind_some, if_pos rfl]
  | succ d ih =>
    intro k u p x l t hu hu0 hV hd
    have go : ∀ (K : Nat) (p x l t : Int) (o : Bool), dV p x l t w dw rt → dmost p x l t w dw rt ≤ W - u → 
        q_DoorCycles.l0 (K + 3 * d + 20) l1 W at_ (u + 1) w dw rt (dtk p x l t w dw rt o).1 (dtk p x l t w dw rt o).2.1 (dtk p x l t w dw rt o).2.2.1 (dtk p x l t w dw rt o).2.2.2 = some true := fun K p x l t o hV hd =>
      ih K (u + 1) _ _ _ _ (by omega) (by omega) (dtk_ok o hV) (tick_facts o W u hV hd (by omega)).2.2.2.2.2
    rw [show k + 3 * (d + 1) + 20 = (k + 3 * d + 22) + 1 from by omega, q_DoorCycles.l0, if_pos (by omega)]
    by_cases ha : u = at_
    · rw [if_pos ha, show k + 3 * d + 22 = (k + 3 * d + 20) + 2 from rfl, Force_in _ hV, Option.bind_some]
      -- the forced door
      obtain ⟨q1, q2, q3, q4, hq, hq2, hqV, hqm, hql⟩ : ∃ q1 q2 q3 q4, (if x = 0 then ((0 : Int), (0 : Int), (0 : Int), (0 : Int), (0 : Int)) else (5, x, 0, 0, 0)) = (q1, q2, q3, q4, 0) ∧ q2 = x ∧ dV q1 q2 q3 q4 w dw rt ∧ dmost q1 q2 q3 q4 w dw rt = x ∧ dleast q1 q2 q3 w dw = x := by
        have g := hV
        obtain ⟨g1, g2, g3, g4⟩ := g
        by_cases hx : x = 0
        · rw [if_pos hx]
          exact ⟨0, 0, 0, 0, rfl, hx.symm, ⟨g1, by omega, by omega, by omega⟩, by rw [dmost_eq0, hx], by rw [hx]; rfl⟩
        · rw [if_neg hx]
          exact ⟨5, x, 0, 0, rfl, rfl, ⟨g1, by omega, by omega, by omega⟩, by rw [dmost_eq5], rfl⟩
      rw [hq]
      dsimp only
      subst hq2
      have hle : dmost q1 q2 q3 q4 w dw rt ≤ W - u := by
        have := panel_le (q := (p, q2, l, t)) hV
        rw [dmostT_mk] at this
        dsimp only at this
        omega
      have hR : door_Rest.f q1 q2 q3 q4 w dw rt = some (q2, q2, 0) := by
        unfold door_Rest.f
        rw [if_pos (dchk_zero.2 hqV), hqm, hql]
      rw [if_pos rfl, bne_self_eq_false, show k + 3 * d + 20 + 2 = (k + 3 * d + 21) + 1 from rfl, q_DoorCycles.j2, if_neg (by decide), hR, Option.bind_some]
      dsimp only
      rw [if_pos rfl, if_pos rfl, bne_self_eq_false, show k + 3 * d + 21 = (k + 3 * d + 20) + 1 from rfl, q_DoorCycles.j3, if_neg (by decide), show k + 3 * d + 20 = (k + 3 * d + 18) + 2 from rfl]
      by_cases hl1 : u < (l1.length : Int)
      · rw [if_pos hl1, if_pos hu0, cyc_tail _ _ l1 at_ W u q1 q2 q3 q4 w dw rt _ hqV hle (by omega) hu0 hW]
        exact go k _ _ _ _ _ hqV hle
      · rw [if_neg hl1, cyc_tail _ _ l1 at_ W u q1 q2 q3 q4 w dw rt _ hqV hle (by omega) hu0 hW]
        exact go k _ _ _ _ _ hqV hle
    · rw [if_neg ha, show k + 3 * d + 22 = (k + 3 * d + 20) + 2 from rfl]
      by_cases hl1 : u < (l1.length : Int)
      · rw [if_pos hl1, if_pos hu0, cyc_tail _ _ l1 at_ W u p x l t w dw rt _ hV hd (by omega) hu0 hW]
        have := go (k + 2) p x l t (rdOf false l1 u) hV hd
        rw [show k + 2 + 3 * d + 20 = k + 3 * d + 20 + 2 from by omega] at this
        exact this
      · rw [if_neg hl1, cyc_tail _ _ l1 at_ W u p x l t w dw rt _ hV hd (by omega) hu0 hW]
        have := go (k + 2) p x l t false hV hd
        rw [show k + 2 + 3 * d + 20 = k + 3 * d + 20 + 2 from by omega] at this
        exact this

theorem DoorCycles : q_DoorCycles.Pure := by
  intro a0 l1 a2 _ _ _ _
  obtain ⟨w, dw, rt, hm, h1, h2, h3, h4, h5, h6⟩ := made_ok a0
  have hR : dRule w dw rt := by omega
  have hV0 : dV 1 0 0 0 w dw rt := ⟨hR, by omega, by omega, by omega⟩
  obtain ⟨W, hW⟩ : ∃ W, W = 2 * w + dw + rt * (2 * w - 1 + dw) := ⟨_, rfl⟩
  have hprod : 0 ≤ rt * (2 * w - 1 + dw) ∧ rt * (2 * w - 1 + dw) ≤ 54 := ⟨Int.mul_nonneg (by omega) (by omega), Int.le_trans (Int.mul_le_mul (show rt ≤ 3 by omega) (show 2 * w - 1 + dw ≤ 18 by omega) (by omega) (by omega)) (by decide)⟩
  have hWb : 3 ≤ W ∧ W ≤ 300 := by omega
  have hWo : door_Worst.f w dw rt = some (W, 0) := by
    unfold door_Worst.f
    rw [Rule_eq, if_pos hR, Option.bind_some, if_pos rfl, Worst_in w dw rt hR, hW]
  obtain ⟨d, hd⟩ : ∃ d : Nat, (0 : Int) + d = W := ⟨W.toNat, by omega⟩
  obtain ⟨at_, hat, _, _⟩ := mod_eq a2 (2 * W) (by omega) (by omega)
  have hmo : dmost 1 0 0 0 w dw rt ≤ W - 0 := by rw [dmost_eq1, Int.sub_zero rt]; omega
  have e := cyc_loop l1 at_ W w dw rt hWb.2 d (1000 - 3 * d) 0 1 0 0 0 hd (by omega) hV0 hmo
  rw [show 1000 - 3 * d + 3 * d + 20 = 1020 from by omega] at e
  refine ⟨1021, ?_⟩
  unfold q_DoorCycles.f
  rw [hm, Option.bind_some]
  dsimp only
  rw [hWo, Option.bind_some, show 1021 = 1019 + 2 from rfl, Open_closed 1019 w dw rt hR, Option.bind_some]
  dsimp only
  rw [if_pos rfl, if_pos rfl, if_neg (by omega), decide_eq_false (by omega), show 1019 + 2 = 1020 + 1 from rfl, q_DoorCycles.j0, if_neg (by decide), wsm (2 * W) (by omega) (by omega), hat, Option.bind_some]
  exact e

end Go.Proofs.Ytofffhnhinolnaa.Pure
