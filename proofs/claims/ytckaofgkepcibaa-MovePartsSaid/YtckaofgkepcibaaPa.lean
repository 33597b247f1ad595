/- Package profile: the next speed: what it answers, and that the Go code comes to just this. -/
import Derived.Test.YtckaofgkepcibaaP0profile
import Derived.WalkMore
namespace Go.Proofs.Ytckaofgkepcibaa.P
open Go.RowKit Go.Proofs.YtckaofgkepcibaaW.PrintWords Go.Proofs.YtckaofgkepcibaaW.PrintLast Go.Proofs.YtckaofgkepcibaaW.PrintMore
set_option linter.unusedVariables false
set_option linter.unusedSimpArgs false
theorem wsm (x : Int) (h : -1000000000000 ≤ x) (h2 : x ≤ 1000000000000) : wrap64 x = x := by unfold wrap64; omega
/-- v(v+1)/2. -/
def ptri (v : Int) : Int := v * (v + 1) / 2
/-- A speed that may come next. -/
def pok (v left limit : Int) : Prop := 0 ≤ v ∧ v ≤ limit ∧ ptri v ≤ left
instance (v left limit : Int) : Decidable (pok v left limit) := by unfold pok; infer_instance
def pnext (speed left limit : Int) : Int × Bool :=
  if pok (speed + 1) left limit then (speed + 1, true) else if pok speed left limit then (speed, true) else if pok (speed - 1) left limit then (speed - 1, true) else (speed - 1, false)
def profile_next.f (a0 : Int) (a1 : Int) (a2 : Int) : Option (Int × Bool) := if 0 ≤ a0 ∧ a0 ≤ 1000 then some (pnext a0 a1 a2) else none

theorem index3 (x y z : Int) (W : World) : (Instr.index 100 (.agg #[.int .i64 x, .int .i64 y, .int .i64 z]) (.int .i64 0)).run Try.prog W = .ok (.int .i64 x) W ∧
    (Instr.index 100 (.agg #[.int .i64 x, .int .i64 y, .int .i64 z]) (.int .i64 1)).run Try.prog W = .ok (.int .i64 y) W ∧
    (Instr.index 100 (.agg #[.int .i64 x, .int .i64 y, .int .i64 z]) (.int .i64 2)).run Try.prog W = .ok (.int .i64 z) W := by
  have info3 : (Try.prog.info? 3).map (fun i => (i.zero, i.size, i.bytes)) = some (some (.int .i64 0), 1, 8) := by kernel_rfl
  obtain ⟨ii, hii, hz0, hz1, hz2⟩ := info_parts info3
  have hu : Try.prog.underlying 100 = some (.array 3 3) := by kernel_rfl
  refine ⟨?_, ?_, ?_⟩
  all_goals
    simp [Instr.index, run_underlying hu, asInt, asIntOf, typeInfo, hii, sizeOf, hz1, hz0, part, go_sem]
theorem ptri_eq (v : Int) (h : 0 ≤ v) (h2 : v ≤ 2000) : profile_tri.f v = some (ptri v) := by
  unfold profile_tri.f ptri
  have h3 : 0 ≤ v * (v + 1) := Int.mul_nonneg h (by omega)
  have h4 : v * (v + 1) ≤ 2000 * 2001 := Int.mul_le_mul h2 (by omega) (by omega) (by omega)
  rw [wsm (v + 1) (by omega) (by omega), wsm (v * (v + 1)) (by omega) (by omega)]
  rw [Int.tdiv_eq_ediv_of_nonneg h3, wsm (v * (v + 1) / 2) (by omega) (by omega)]

set_option maxHeartbeats 4000000 in
theorem profile_next.calls (a0 : Int) (a1 : Int) (a2 : Int) (r1 : Int) (r2 : Bool) (w : World) (h : profile_next.f a0 a1 a2 = some (r1, r2)) :
    Calls Try.prog 57 #[.int .i64 a0, .int .i64 a1, .int .i64 a2] w fun e w' => e = .returned (.tuple #[.int .i64 r1, .bool r2]) ∧ Below w.heap.size w w' := by
  unfold profile_next.f at h
  by_cases hr : 0 ≤ a0 ∧ a0 ≤ 1000
  · rw [if_pos hr] at h
    have h := Option.some.inj h
    obtain ⟨c1, e1⟩ : ∃ c, c = a0 + 1 := ⟨_, rfl⟩
    obtain ⟨c3, e3⟩ : ∃ c, c = a0 - 1 := ⟨_, rfl⟩
    have ix0 := fun W : World => (index3 c1 a0 c3 W).1
    have ix1 := fun W : World => (index3 c1 a0 c3 W).2.1
    have ix2 := fun W : World => (index3 c1 a0 c3 W).2.2
    have w1 : wrap64 (a0 + 1) = c1 := (wsm _ (by omega) (by omega)).trans e1.symm
    have w2 : wrap64 (a0 - 1) = c3 := (wsm _ (by omega) (by omega)).trans e3.symm
    have HH : Aside0 ((if pok c1 a1 a2 then (c1, true) else if pok a0 a1 a2 then (a0, true) else if pok c3 a1 a2 then (c3, true) else (c3, false)) = (r1, r2)) := ⟨by rw [e1, e3]; exact h⟩
    have E1 := Aside0.mk e1
    have E3 := Aside0.mk e3
    clear e1 e3
    have HR := Aside0.mk hr
    clear h hr
    go_enter Try.func57, Try.ntmps57
    go_wp2
    go_step3
    go_wp2
    go_step3
    go_wp2
    simp only [w1, w2]
    go_loopw [6, 7, 14] (fun v6 v7 v14 wr => ∃ i : Nat, i ≤ 3 ∧ v14 = .int .i64 i ∧ v7 = .bool false ∧ (∀ j : Nat, j < i → ¬ pok (c1 - j) a1 a2) ∧ (∃ x : Int, v6 = .int .i64 x ∧ (0 < i → x = c1 + 1 - i)) ∧ Aside0 (Below w.heap.size w wr)) (fun _ _ v14 _ => 3 - (intOf v14).toNat)
    case atStart => exact ⟨0, by omega, rfl, rfl, fun j hj => by omega, ⟨0, rfl, fun h => by omega⟩, ⟨Below.refl _ _⟩⟩
    case round =>
      obtain ⟨i, hi, rfl, rfl, hj, ⟨x, rfl, hx⟩, HB⟩ := hrel
      have hr := HR.out
      rcases (by omega : i = 0 ∨ i = 1 ∨ i = 2 ∨ i = 3) with rfl | rfl | rfl | rfl
      · have hd3 : decide (((0 : Nat) : Int) < 3) = true := by decide
        by_cases hp : pok c1 a1 a2
        · have g1 : decide (0 ≤ c1) = true := decide_eq_true hp.1
          have g2 : decide (c1 ≤ a2) = true := decide_eq_true hp.2.1
          have g3 : decide (ptri c1 ≤ a1) = true := decide_eq_true hp.2.2
          have hc0 := HR.out
          have hc1 := hp.1
          have hres : (r1, r2) = (c1, true) := by
            rw [← HH.out]
            rw [if_pos hp]
          obtain ⟨e1, e2⟩ := Prod.mk.inj hres
          have e1 := e1.symm
          have e2 := e2.symm
          subst e1
          subst e2
          clear hp hj hx hr
          go_wp2_with (go_at_call 65; refine (profile_tri.calls c1 (ptri c1) _ (ptri_eq _ (by have := HR.out; have := E1.out; have := E3.out; omega) (by have := HR.out; have := E1.out; have := E3.out; omega))).mono ?_; rintro e w' ⟨rfl, hd⟩; have HB := Aside0.mk (below_step HB.out hd.below); clear hd)
          all_goals
            simp only [Exit.noGoto_ret]
            refine bodyPost_ret (v := .tuple #[.int .i64 c1, .bool true]) (by simp [results, Try.results57, go_sem, *]) rfl ⟨rfl, ?_⟩
            exact HB.out
        · have HN := Aside0.mk hp
          have hj := Aside0.mk hj
          have hc0 := HR.out
          have g1 : decide (0 ≤ c1) = true := decide_eq_true (by have := E1.out; omega)
          by_cases q2 : c1 ≤ a2
          · have g2 : decide (c1 ≤ a2) = true := decide_eq_true q2
            have g3 : decide (ptri c1 ≤ a1) = false := decide_eq_false (fun q3 => hp ⟨by have := E1.out; omega, q2, q3⟩)
            clear hp hr q2
            go_wp2_with (go_at_call 65; refine (profile_tri.calls c1 (ptri c1) _ (ptri_eq _ (by have := HR.out; have := E1.out; have := E3.out; omega) (by have := HR.out; have := E1.out; have := E3.out; omega))).mono ?_; rintro e w' ⟨rfl, hd⟩; have HB := Aside0.mk (below_step HB.out hd.below); clear hd)
            have HJ : ∀ j : Nat, j < 1 → ¬ pok (c1 - j) a1 a2 := fun j hj2 => by
              rcases Nat.lt_succ_iff_lt_or_eq.1 hj2 with h | rfl
              · exact hj.out j h
              · rw [show c1 - ((0 : Nat) : Int) = c1 from by have := E1.out; have := E3.out; omega]; exact HN.out
            refine ⟨?_, ?_⟩
            · first
                | exact ⟨1, by omega, rfl, rfl, HJ, ⟨c1, rfl, fun _ => by have := E1.out; have := E3.out; omega⟩, HB⟩
                | exact ⟨_, _, _, _, _, _, _, _, _, _, _, _, _, _, _, _, _, _, _, ⟨1, by omega, rfl, rfl, HJ, ⟨c1, rfl, fun _ => by have := E1.out; have := E3.out; omega⟩, HB⟩, rfl⟩
                | (refine ⟨_, _, _, _, _, _, _, _, _, _, _, _, _, _, _, _, _, _, _, ⟨1, by omega, rfl, rfl, HJ, ⟨c1, rfl, fun _ => by have := E1.out; have := E3.out; omega⟩, HB⟩, ?_⟩; trace_state; rfl)
            · show 3 - (1 : Int).toNat < 3 - (0 : Int).toNat
              decide
          · have g2 : decide (c1 ≤ a2) = false := decide_eq_false q2
            clear hp hr q2
            go_wp2
            have HJ : ∀ j : Nat, j < 1 → ¬ pok (c1 - j) a1 a2 := fun j hj2 => by
              rcases Nat.lt_succ_iff_lt_or_eq.1 hj2 with h | rfl
              · exact hj.out j h
              · rw [show c1 - ((0 : Nat) : Int) = c1 from by have := E1.out; have := E3.out; omega]; exact HN.out
            refine ⟨?_, ?_⟩
            · first
                | exact ⟨1, by omega, rfl, rfl, HJ, ⟨c1, rfl, fun _ => by have := E1.out; have := E3.out; omega⟩, HB⟩
                | exact ⟨_, _, _, _, _, _, _, _, _, _, _, _, _, _, _, _, _, _, _, ⟨1, by omega, rfl, rfl, HJ, ⟨c1, rfl, fun _ => by have := E1.out; have := E3.out; omega⟩, HB⟩, rfl⟩
                | (refine ⟨_, _, _, _, _, _, _, _, _, _, _, _, _, _, _, _, _, _, _, ⟨1, by omega, rfl, rfl, HJ, ⟨c1, rfl, fun _ => by have := E1.out; have := E3.out; omega⟩, HB⟩, ?_⟩; trace_state; rfl)
            · show 3 - (1 : Int).toNat < 3 - (0 : Int).toNat
              decide
      · have hd3 : decide (((1 : Nat) : Int) < 3) = true := by decide
        by_cases hp : pok (a0) a1 a2
        · have g1 : decide (0 ≤ (a0)) = true := decide_eq_true hp.1
          have g2 : decide ((a0) ≤ a2) = true := decide_eq_true hp.2.1
          have g3 : decide (ptri (a0) ≤ a1) = true := decide_eq_true hp.2.2
          have hc0 := HR.out
          have hc1 := hp.1
          have hres : (r1, r2) = (a0, true) := by
            rw [← HH.out]
            rw [if_neg (by have := hj 0 (by omega); rwa [show c1 - ((0 : Nat) : Int) = c1 from by have := E1.out; have := E3.out; omega] at this), if_pos hp]
          obtain ⟨e1, e2⟩ := Prod.mk.inj hres
          have e1 := e1.symm
          have e2 := e2.symm
          subst e1
          subst e2
          clear hp hj hx hr
          go_wp2_with (go_at_call 65; refine (profile_tri.calls (a0) (ptri (a0)) _ (ptri_eq _ (by have := HR.out; have := E1.out; have := E3.out; omega) (by have := HR.out; have := E1.out; have := E3.out; omega))).mono ?_; rintro e w' ⟨rfl, hd⟩; have HB := Aside0.mk (below_step HB.out hd.below); clear hd)
          all_goals
            simp only [Exit.noGoto_ret]
            refine bodyPost_ret (v := .tuple #[.int .i64 (a0), .bool true]) (by simp [results, Try.results57, go_sem, *]) rfl ⟨rfl, ?_⟩
            exact HB.out
        · have HN := Aside0.mk hp
          have hj := Aside0.mk hj
          have hc0 := HR.out
          have g1 : decide (0 ≤ (a0)) = true := decide_eq_true (by have := E1.out; omega)
          by_cases q2 : (a0) ≤ a2
          · have g2 : decide ((a0) ≤ a2) = true := decide_eq_true q2
            have g3 : decide (ptri (a0) ≤ a1) = false := decide_eq_false (fun q3 => hp ⟨by have := E1.out; omega, q2, q3⟩)
            clear hp hr q2
            go_wp2_with (go_at_call 65; refine (profile_tri.calls (a0) (ptri (a0)) _ (ptri_eq _ (by have := HR.out; have := E1.out; have := E3.out; omega) (by have := HR.out; have := E1.out; have := E3.out; omega))).mono ?_; rintro e w' ⟨rfl, hd⟩; have HB := Aside0.mk (below_step HB.out hd.below); clear hd)
            have HJ : ∀ j : Nat, j < 2 → ¬ pok (c1 - j) a1 a2 := fun j hj2 => by
              rcases Nat.lt_succ_iff_lt_or_eq.1 hj2 with h | rfl
              · exact hj.out j h
              · rw [show c1 - ((1 : Nat) : Int) = a0 from by have := E1.out; have := E3.out; omega]; exact HN.out
            refine ⟨?_, ?_⟩
            · first
                | exact ⟨2, by omega, rfl, rfl, HJ, ⟨a0, rfl, fun _ => by have := E1.out; have := E3.out; omega⟩, HB⟩
                | exact ⟨_, _, _, _, _, _, _, _, _, _, _, _, _, _, _, _, _, _, _, ⟨2, by omega, rfl, rfl, HJ, ⟨a0, rfl, fun _ => by have := E1.out; have := E3.out; omega⟩, HB⟩, rfl⟩
                | (refine ⟨_, _, _, _, _, _, _, _, _, _, _, _, _, _, _, _, _, _, _, ⟨2, by omega, rfl, rfl, HJ, ⟨a0, rfl, fun _ => by have := E1.out; have := E3.out; omega⟩, HB⟩, ?_⟩; trace_state; rfl)
            · show 3 - (2 : Int).toNat < 3 - (1 : Int).toNat
              decide
          · have g2 : decide ((a0) ≤ a2) = false := decide_eq_false q2
            clear hp hr q2
            go_wp2
            have HJ : ∀ j : Nat, j < 2 → ¬ pok (c1 - j) a1 a2 := fun j hj2 => by
              rcases Nat.lt_succ_iff_lt_or_eq.1 hj2 with h | rfl
              · exact hj.out j h
              · rw [show c1 - ((1 : Nat) : Int) = a0 from by have := E1.out; have := E3.out; omega]; exact HN.out
            refine ⟨?_, ?_⟩
            · first
                | exact ⟨2, by omega, rfl, rfl, HJ, ⟨a0, rfl, fun _ => by have := E1.out; have := E3.out; omega⟩, HB⟩
                | exact ⟨_, _, _, _, _, _, _, _, _, _, _, _, _, _, _, _, _, _, _, ⟨2, by omega, rfl, rfl, HJ, ⟨a0, rfl, fun _ => by have := E1.out; have := E3.out; omega⟩, HB⟩, rfl⟩
                | (refine ⟨_, _, _, _, _, _, _, _, _, _, _, _, _, _, _, _, _, _, _, ⟨2, by omega, rfl, rfl, HJ, ⟨a0, rfl, fun _ => by have := E1.out; have := E3.out; omega⟩, HB⟩, ?_⟩; trace_state; rfl)
            · show 3 - (2 : Int).toNat < 3 - (1 : Int).toNat
              decide
      · have hd3 : decide (((2 : Nat) : Int) < 3) = true := by decide
        by_cases hp : pok c3 a1 a2
        · have g1 : decide (0 ≤ c3) = true := decide_eq_true hp.1
          have g2 : decide (c3 ≤ a2) = true := decide_eq_true hp.2.1
          have g3 : decide (ptri c3 ≤ a1) = true := decide_eq_true hp.2.2
          have hc0 := HR.out
          have hc1 := hp.1
          have hres : (r1, r2) = (c3, true) := by
            rw [← HH.out]
            rw [if_neg (by have := hj 0 (by omega); rwa [show c1 - ((0 : Nat) : Int) = c1 from by have := E1.out; have := E3.out; omega] at this), if_neg (by have := hj 1 (by omega); rwa [show c1 - ((1 : Nat) : Int) = a0 from by have := E1.out; have := E3.out; omega] at this), if_pos hp]
          obtain ⟨e1, e2⟩ := Prod.mk.inj hres
          have e1 := e1.symm
          have e2 := e2.symm
          subst e1
          subst e2
          clear hp hj hx hr
          go_wp2_with (go_at_call 65; refine (profile_tri.calls c3 (ptri c3) _ (ptri_eq _ (by have := HR.out; have := E1.out; have := E3.out; omega) (by have := HR.out; have := E1.out; have := E3.out; omega))).mono ?_; rintro e w' ⟨rfl, hd⟩; have HB := Aside0.mk (below_step HB.out hd.below); clear hd)
          all_goals
            simp only [Exit.noGoto_ret]
            refine bodyPost_ret (v := .tuple #[.int .i64 c3, .bool true]) (by simp [results, Try.results57, go_sem, *]) rfl ⟨rfl, ?_⟩
            exact HB.out
        · have HN := Aside0.mk hp
          have hj := Aside0.mk hj
          have hc0 := HR.out
          by_cases q1 : 0 ≤ c3
          · have g1 : decide (0 ≤ c3) = true := decide_eq_true q1
            by_cases q2 : c3 ≤ a2
            · have g2 : decide (c3 ≤ a2) = true := decide_eq_true q2
              have g3 : decide (ptri c3 ≤ a1) = false := decide_eq_false (fun q3 => hp ⟨q1, q2, q3⟩)
              clear hp hr q2
              go_wp2_with (go_at_call 65; refine (profile_tri.calls c3 (ptri c3) _ (ptri_eq _ (by have := HR.out; have := E1.out; have := E3.out; omega) (by have := HR.out; have := E1.out; have := E3.out; omega))).mono ?_; rintro e w' ⟨rfl, hd⟩; have HB := Aside0.mk (below_step HB.out hd.below); clear hd)
              have HJ : ∀ j : Nat, j < 3 → ¬ pok (c1 - j) a1 a2 := fun j hj2 => by
                rcases Nat.lt_succ_iff_lt_or_eq.1 hj2 with h | rfl
                · exact hj.out j h
                · rw [show c1 - ((2 : Nat) : Int) = c3 from by have := E1.out; have := E3.out; omega]; exact HN.out
              refine ⟨?_, ?_⟩
              · first
                  | exact ⟨3, by omega, rfl, rfl, HJ, ⟨c3, rfl, fun _ => by have := E1.out; have := E3.out; omega⟩, HB⟩
                  | exact ⟨_, _, _, _, _, _, _, _, _, _, _, _, _, _, _, _, _, _, _, ⟨3, by omega, rfl, rfl, HJ, ⟨c3, rfl, fun _ => by have := E1.out; have := E3.out; omega⟩, HB⟩, rfl⟩
                  | (refine ⟨_, _, _, _, _, _, _, _, _, _, _, _, _, _, _, _, _, _, _, ⟨3, by omega, rfl, rfl, HJ, ⟨c3, rfl, fun _ => by have := E1.out; have := E3.out; omega⟩, HB⟩, ?_⟩; trace_state; rfl)
              · show 3 - (3 : Int).toNat < 3 - (2 : Int).toNat
                decide
            · have g2 : decide (c3 ≤ a2) = false := decide_eq_false q2
              clear hp hr q2
              go_wp2
              have HJ : ∀ j : Nat, j < 3 → ¬ pok (c1 - j) a1 a2 := fun j hj2 => by
                rcases Nat.lt_succ_iff_lt_or_eq.1 hj2 with h | rfl
                · exact hj.out j h
                · rw [show c1 - ((2 : Nat) : Int) = c3 from by have := E1.out; have := E3.out; omega]; exact HN.out
              refine ⟨?_, ?_⟩
              · first
                  | exact ⟨3, by omega, rfl, rfl, HJ, ⟨c3, rfl, fun _ => by have := E1.out; have := E3.out; omega⟩, HB⟩
                  | exact ⟨_, _, _, _, _, _, _, _, _, _, _, _, _, _, _, _, _, _, _, ⟨3, by omega, rfl, rfl, HJ, ⟨c3, rfl, fun _ => by have := E1.out; have := E3.out; omega⟩, HB⟩, rfl⟩
                  | (refine ⟨_, _, _, _, _, _, _, _, _, _, _, _, _, _, _, _, _, _, _, ⟨3, by omega, rfl, rfl, HJ, ⟨c3, rfl, fun _ => by have := E1.out; have := E3.out; omega⟩, HB⟩, ?_⟩; trace_state; rfl)
              · show 3 - (3 : Int).toNat < 3 - (2 : Int).toNat
                decide
          · have g1 : decide (0 ≤ c3) = false := decide_eq_false q1
            clear hp hr q1
            go_wp2
            have HJ : ∀ j : Nat, j < 3 → ¬ pok (c1 - j) a1 a2 := fun j hj2 => by
              rcases Nat.lt_succ_iff_lt_or_eq.1 hj2 with h | rfl
              · exact hj.out j h
              · rw [show c1 - ((2 : Nat) : Int) = c3 from by have := E1.out; have := E3.out; omega]; exact HN.out
            refine ⟨?_, ?_⟩
            · first
                | exact ⟨3, by omega, rfl, rfl, HJ, ⟨c3, rfl, fun _ => by have := E1.out; have := E3.out; omega⟩, HB⟩
                | exact ⟨_, _, _, _, _, _, _, _, _, _, _, _, _, _, _, _, _, _, _, ⟨3, by omega, rfl, rfl, HJ, ⟨c3, rfl, fun _ => by have := E1.out; have := E3.out; omega⟩, HB⟩, rfl⟩
                | (refine ⟨_, _, _, _, _, _, _, _, _, _, _, _, _, _, _, _, _, _, _, ⟨3, by omega, rfl, rfl, HJ, ⟨c3, rfl, fun _ => by have := E1.out; have := E3.out; omega⟩, HB⟩, ?_⟩; trace_state; rfl)
            · show 3 - (3 : Int).toNat < 3 - (2 : Int).toNat
              decide
      · have hd3 : decide (((3 : Nat) : Int) < 3) = false := by decide
        have hres : (r1, r2) = (c3, false) := by
          rw [← HH.out]
          rw [if_neg (by have := hj 0 (by omega); rwa [show c1 - ((0 : Nat) : Int) = c1 from by have := E1.out; have := E3.out; omega] at this), if_neg (by have := hj 1 (by omega); rwa [show c1 - ((1 : Nat) : Int) = a0 from by have := E1.out; have := E3.out; omega] at this), if_neg (by have := hj 2 (by omega); rwa [show c1 - ((2 : Nat) : Int) = c3 from by have := E1.out; have := E3.out; omega] at this)]
        obtain ⟨e1, e2⟩ := Prod.mk.inj hres
        have e1 := e1.symm
        have e2 := e2.symm
        subst e1
        subst e2
        obtain rfl : x = c3 := by have := hx (by omega); have := E1.out; have := E3.out; omega
        clear hj hx hr
        go_wp2
        all_goals
          first
            | exact bodyPost_ret (v := .tuple #[.int .i64 x, .bool false]) (by simp [results, Try.results57, go_sem, *]) rfl ⟨rfl, HB.out⟩
            | exact bodyPost_ret (v := .tuple #[.int .i64 x, .bool false]) (by simp [results, Try.results57, go_sem, *]) rfl ⟨rfl, below_drew1 HB.out⟩
  · rw [if_neg hr] at h
    cases h
end Go.Proofs.Ytckaofgkepcibaa.P
