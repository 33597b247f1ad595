import Derived.Test.YtmdcjmackhjchaaZaf
import Derived.Test.YtmdcjmackhjchaaZah
import Derived.Test.YtmdcjmackhjchaaZad
section
/- config.Check: what it answers, by the printed answer of config.lists. -/
namespace Go.Proofs.Ytmdcjmackhjchaa.P
open Go.RowKit Go.Proofs.YtmdcjmackhjchaaW.PrintWords Go.Proofs.YtmdcjmackhjchaaW.PrintLast Go.Proofs.YtmdcjmackhjchaaW.PrintMore
set_option linter.unusedVariables false

/-- Rounds that suffice. -/
def cfuel (g : List Int) (t : List (List Int)) (k : List Int) : Nat := 64 * (16 + g.length + (t.map List.length).sum + 2 * t.length + k.length)
def config_Check.f (a0_0 : Int) (l0_1 : List Int) (a0_2 : Int) (a0_3 : Int) (a0_4 : Int) (a0_5 : Int) (a0_6 : Int) (a0_7 : Int) (a0_8 : Int) (a0_9 : Int) (a0_10 : Int) (a0_11 : Int) (a0_12 : Int) (l0_13 : List (List Int)) (a0_14 : Int) (a0_15 : Int) (a0_16 : Int) (a0_17 : Int) (a0_18 : Int) (a0_19 : Int) (a0_20 : Int) (a0_21 : Int) (a0_22 : Int) (l0_23 : List Int) (a0_24 : Int) : Option (Int) :=
 if fok ⟨a0_0, .slice none 0 0, a0_2, a0_3, a0_4, a0_5, a0_6, a0_7, a0_8, a0_9, a0_10, a0_11, a0_12, .slice none 0 0, .int .u64 a0_14, a0_15, a0_16, .int .u64 a0_17, a0_18, a0_19, .int .u64 a0_20, a0_21, a0_22, .slice none 0 0, a0_24⟩ = true then config_lists.f (cfuel l0_1 l0_13 l0_23) a0_0 l0_1 a0_2 a0_3 a0_4 a0_5 a0_6 a0_7 a0_8 a0_9 a0_10 a0_11 a0_12 l0_13 a0_14 a0_15 a0_16 a0_17 a0_18 a0_19 a0_20 a0_21 a0_22 l0_23 a0_24 else some 2
theorem config_Check.calls (a0_0 : Int) (A0_1 : Option Addr) (c0_1 : Nat) (l0_1 : List Int) (a0_2 : Int) (a0_3 : Int) (a0_4 : Int) (a0_5 : Int) (a0_6 : Int) (a0_7 : Int) (a0_8 : Int) (a0_9 : Int) (a0_10 : Int) (a0_11 : Int) (a0_12 : Int) (A0_13 : Option Addr) (c0_13 : Nat) (l0_13 : List (List Int)) (a0_14 : Int) (a0_15 : Int) (a0_16 : Int) (a0_17 : Int) (a0_18 : Int) (a0_19 : Int) (a0_20 : Int) (a0_21 : Int) (a0_22 : Int) (A0_23 : Option Addr) (c0_23 : Nat) (l0_23 : List Int) (a0_24 : Int) (r : Int) (w : World) (hr0_1 : Kd.C (Kd.int .i64) w A0_1 l0_1.length l0_1) (hc0_1 : l0_1.length ≤ c0_1) (hr0_13 : Kd.C (Kd.slice 3 (Kd.int .i64)) w A0_13 l0_13.length l0_13) (hc0_13 : l0_13.length ≤ c0_13) (hr0_23 : Kd.C (Kd.int .i64) w A0_23 l0_23.length l0_23) (hc0_23 : l0_23.length ≤ c0_23) (h : config_Check.f a0_0 l0_1 a0_2 a0_3 a0_4 a0_5 a0_6 a0_7 a0_8 a0_9 a0_10 a0_11 a0_12 l0_13 a0_14 a0_15 a0_16 a0_17 a0_18 a0_19 a0_20 a0_21 a0_22 l0_23 a0_24 = some r) :
  Calls Try.prog 18 #[.agg #[.int .i64 a0_0, .slice A0_1 l0_1.length c0_1, .int .i64 a0_2, .int .i64 a0_3, .int .i64 a0_4, .int .i64 a0_5, .int .i64 a0_6, .int .i64 a0_7, .int .i64 a0_8, .int .i64 a0_9, .int .i64 a0_10, .int .i64 a0_11, .int .i64 a0_12, .slice A0_13 l0_13.length c0_13, .int .u64 a0_14, .int .i64 a0_15, .int .i64 a0_16, .int .u64 a0_17, .int .i64 a0_18, .int .i64 a0_19, .int .u64 a0_20, .int .i64 a0_21, .int .i64 a0_22, .slice A0_23 l0_23.length c0_23, .int .i64 a0_24]] w fun e w' => e = .returned (.int .i64 r) ∧ Below w.heap.size w w' := by
 refine check_calls ⟨a0_0, .slice A0_1 l0_1.length c0_1, a0_2, a0_3, a0_4, a0_5, a0_6, a0_7, a0_8, a0_9, a0_10, a0_11, a0_12, .slice A0_13 l0_13.length c0_13, .int .u64 a0_14, a0_15, a0_16, .int .u64 a0_17, a0_18, a0_19, .int .u64 a0_20, a0_21, a0_22, .slice A0_23 l0_23.length c0_23, a0_24⟩ r w (fun hok W hW => ?_) (fun hbad => ?_)
 ·have hl : config_lists.f (cfuel l0_1 l0_13 l0_23) a0_0 l0_1 a0_2 a0_3 a0_4 a0_5 a0_6 a0_7 a0_8 a0_9 a0_10 a0_11 a0_12 l0_13 a0_14 a0_15 a0_16 a0_17 a0_18 a0_19 a0_20 a0_21 a0_22 l0_23 a0_24 = some r := by
   have h2 := h
   unfold config_Check.f at h2
   have hok2 : fok ⟨a0_0, .slice none 0 0, a0_2, a0_3, a0_4, a0_5, a0_6, a0_7, a0_8, a0_9, a0_10, a0_11, a0_12, .slice none 0 0, .int .u64 a0_14, a0_15, a0_16, .int .u64 a0_17, a0_18, a0_19, .int .u64 a0_20, a0_21, a0_22, .slice none 0 0, a0_24⟩ = true := hok
   rw [if_pos hok2] at h2
   exact h2
  exact config_lists.calls (cfuel l0_1 l0_13 l0_23) a0_0 _ _ l0_1 a0_2 a0_3 a0_4 a0_5 a0_6 a0_7 a0_8 a0_9 a0_10 a0_11 a0_12 _ _ l0_13 a0_14 a0_15 a0_16 a0_17 a0_18 a0_19 a0_20 a0_21 a0_22 _ _ l0_23 a0_24 r W (Kd.C_below hr0_1 hW) hc0_1 (Kd.C_below hr0_13 hW) hc0_13 (Kd.C_below hr0_23 hW) hc0_23 hl
 ·have h2 := h
  unfold config_Check.f at h2
  have hb2 : ¬ fok ⟨a0_0, .slice none 0 0, a0_2, a0_3, a0_4, a0_5, a0_6, a0_7, a0_8, a0_9, a0_10, a0_11, a0_12, .slice none 0 0, .int .u64 a0_14, a0_15, a0_16, .int .u64 a0_17, a0_18, a0_19, .int .u64 a0_20, a0_21, a0_22, .slice none 0 0, a0_24⟩ = true := by
   have : fok ⟨a0_0, .slice none 0 0, a0_2, a0_3, a0_4, a0_5, a0_6, a0_7, a0_8, a0_9, a0_10, a0_11, a0_12, .slice none 0 0, .int .u64 a0_14, a0_15, a0_16, .int .u64 a0_17, a0_18, a0_19, .int .u64 a0_20, a0_21, a0_22, .slice none 0 0, a0_24⟩ = false := hbad
   rw [this]; simp
  rw [if_neg hb2] at h2
  exact (Option.some.inj h2).symm
end Go.Proofs.Ytmdcjmackhjchaa.P
end

section
-- Printed by wip/myprint.py of this repo (over the kit's printer). Not trusted: Lean checks it.
namespace Go.Proofs.Ytmdcjmackhjchaa.P
open Go.RowKit Go.Proofs.YtmdcjmackhjchaaW.PrintWords Go.Proofs.YtmdcjmackhjchaaW.PrintLast Go.Proofs.YtmdcjmackhjchaaW.PrintMore
attribute [local go_sem] cell_same1 cell_some1 ix27_0 ix27_1 ix27_2
attribute [local go_sem] max2_int min2_int max_two min_two max_three min_three max_four min_four   -- for this text's walks alone
set_option linter.unusedVariables false
set_option linter.unusedSimpArgs false

/-! ### r27_in: function 34 -/
def r27_in.f (a0 : Int) (a1 : Int) (a2 : Int) : Option (Bool) := if a0 ≥ a1 then (some (decide (a0 ≤ a2))) else (some false)
set_option maxHeartbeats 8000000 in
set_option maxRecDepth 100000 in
theorem r27_in.calls (a0 : Int) (a1 : Int) (a2 : Int) (r : Bool) (w : World) (h : r27_in.f a0 a1 a2 = some r) :
  Calls Try.prog 34 #[.int .i64 a0, .int .i64 a1, .int .i64 a2] w fun e w' => e = .returned (.bool r) ∧ Drawn0 w w' := by
 have H : (if a0 ≥ a1 then (some (decide (a0 ≤ a2))) else (some false)) = some r := h
 clear h
 by_cases c4 : a0 ≥ a1
 ·as_aux_lemma =>
  rw [if_pos c4] at H
  have c4b0 : decide (a1 ≤ a0) = true := decide_eq_true c4
  clear c4
  obtain rfl := Option.some.inj H
  go_enter Try.func34, Try.ntmps34
  go_wp2
  go_ret
  exact ⟨by first | rfl | (simp; done) | (simp [*]; done), by repeat (first | exact Drawn0.refl _ | apply Drawn0.step)⟩
 ·as_aux_lemma =>
  rw [if_neg c4] at H
  have c4b0 : decide (a1 ≤ a0) = false := decide_eq_false c4
  clear c4
  obtain rfl := Option.some.inj H
  go_enter Try.func34, Try.ntmps34
  go_wp2
  go_ret
  exact ⟨by first | rfl | (simp; done) | (simp [*]; done), by repeat (first | exact Drawn0.refl _ | apply Drawn0.step)⟩

end Go.Proofs.Ytmdcjmackhjchaa.P
end

section
-- Printed by wip/myprint.py of this repo (over the kit's printer). Not trusted: Lean checks it.
namespace Go.Proofs.Ytmdcjmackhjchaa.P
open Go.RowKit Go.Proofs.YtmdcjmackhjchaaW.PrintWords Go.Proofs.YtmdcjmackhjchaaW.PrintLast Go.Proofs.YtmdcjmackhjchaaW.PrintMore
attribute [local go_sem] cell_same1 cell_some1 ix27_0 ix27_1 ix27_2
attribute [local go_sem] max2_int min2_int max_two min_two max_three min_three max_four min_four   -- for this text's walks alone
set_option linter.unusedVariables false
set_option linter.unusedSimpArgs false

/-! ### r27_numbers: function 33 -/
def r27_numbers.j0 : Nat → Bool → Int → List Int → Int → Int → Int → Int → Int → Int → Int → Int → Int → Int → Int → List (List Int) → Int → Int → Int → Int → Int → Int → Int → Int → Int → List Int → Int → Option (Bool)
 | 0, _, _, _, _, _, _, _, _, _, _, _, _, _, _, _, _, _, _, _, _, _, _, _, _, _, _ => none
 | k + 1, x3, x186000, x186001, x186002, x186003, x186004, x186005, x186006, x186007, x186008, x186009, x186010, x186011, x186012, x186013, x186014, x186015, x186016, x186017, x186018, x186019, x186020, x186021, x186022, x186023, x186024 => (r27_in.f x186006 1 20).bind fun t191 => (if t191 = true then ((r27_in.f x186007 1 50).bind fun t192 => (if t192 = true then ((r27_in.f x186008 0 5).bind fun t193 => (if t193 = true then ((r27_in.f x186009 0 10000).bind fun t194 => (if t194 = true then (if x186010 > x186009 then (if x3 = true then (if x186010 ≤ 10000 then ((r27_in.f x186011 1 16).bind fun t195 => (if t195 = true then ((r27_in.f x186012 1 24).bind fun t196 => (if t196 = true then ((r27_in.f x186024 1 100000).bind fun t197 => (some t197)) else (some false))) else (some false))) else (some false)) else (some false)) else (if x3 = true then (some false) else (some false))) else (if x3 = true then (some false) else (some false)))) else (if x3 = true then (some false) else (some false)))) else (if x3 = true then (some false) else (some false)))) else (if x3 = true then (some false) else (some false)))
def r27_numbers.f (k : Nat) (a0_0 : Int) (l0_1 : List Int) (a0_2 : Int) (a0_3 : Int) (a0_4 : Int) (a0_5 : Int) (a0_6 : Int) (a0_7 : Int) (a0_8 : Int) (a0_9 : Int) (a0_10 : Int) (a0_11 : Int) (a0_12 : Int) (l0_13 : List (List Int)) (a0_14 : Int) (a0_15 : Int) (a0_16 : Int) (a0_17 : Int) (a0_18 : Int) (a0_19 : Int) (a0_20 : Int) (a0_21 : Int) (a0_22 : Int) (l0_23 : List Int) (a0_24 : Int) : Option (Bool) := (r27_in.f a0_0 2 64).bind fun t186 => (if t186 = true then ((r27_in.f a0_2 1 8).bind fun t187 => (if t187 = true then ((r27_in.f a0_3 1 20).bind fun t188 => (if t188 = true then ((r27_in.f a0_4 0 5).bind fun t189 => (if t189 = true then ((r27_in.f a0_5 0 20).bind fun t190 => (r27_numbers.j0 k t190 a0_0 l0_1 a0_2 a0_3 a0_4 a0_5 a0_6 a0_7 a0_8 a0_9 a0_10 a0_11 a0_12 l0_13 a0_14 a0_15 a0_16 a0_17 a0_18 a0_19 a0_20 a0_21 a0_22 l0_23 a0_24)) else (r27_numbers.j0 k false a0_0 l0_1 a0_2 a0_3 a0_4 a0_5 a0_6 a0_7 a0_8 a0_9 a0_10 a0_11 a0_12 l0_13 a0_14 a0_15 a0_16 a0_17 a0_18 a0_19 a0_20 a0_21 a0_22 l0_23 a0_24))) else (r27_numbers.j0 k false a0_0 l0_1 a0_2 a0_3 a0_4 a0_5 a0_6 a0_7 a0_8 a0_9 a0_10 a0_11 a0_12 l0_13 a0_14 a0_15 a0_16 a0_17 a0_18 a0_19 a0_20 a0_21 a0_22 l0_23 a0_24))) else (r27_numbers.j0 k false a0_0 l0_1 a0_2 a0_3 a0_4 a0_5 a0_6 a0_7 a0_8 a0_9 a0_10 a0_11 a0_12 l0_13 a0_14 a0_15 a0_16 a0_17 a0_18 a0_19 a0_20 a0_21 a0_22 l0_23 a0_24))) else (r27_numbers.j0 k false a0_0 l0_1 a0_2 a0_3 a0_4 a0_5 a0_6 a0_7 a0_8 a0_9 a0_10 a0_11 a0_12 l0_13 a0_14 a0_15 a0_16 a0_17 a0_18 a0_19 a0_20 a0_21 a0_22 l0_23 a0_24))
theorem r27_numbers.mono_l : ∀ k, (∀ y0 y1 y2 y3 y4 y5 y6 y7 y8 y9 y10 y11 y12 y13 y14 y15 y16 y17 y18 y19 y20 y21 y22 y23 y24 y25, LeO (r27_numbers.j0 k y0 y1 y2 y3 y4 y5 y6 y7 y8 y9 y10 y11 y12 y13 y14 y15 y16 y17 y18 y19 y20 y21 y22 y23 y24 y25) (r27_numbers.j0 (k + 1) y0 y1 y2 y3 y4 y5 y6 y7 y8 y9 y10 y11 y12 y13 y14 y15 y16 y17 y18 y19 y20 y21 y22 y23 y24 y25))
 | 0 => fun _ _ _ _ _ _ _ _ _ _ _ _ _ _ _ _ _ _ _ _ _ _ _ _ _ _ r h => by simp [r27_numbers.j0] at h
 | k + 1 => by
  have ih0 := r27_numbers.mono_l k
  ·as_aux_lemma =>
   intro y0 y1 y2 y3 y4 y5 y6 y7 y8 y9 y10 y11 y12 y13 y14 y15 y16 y17 y18 y19 y20 y21 y22 y23 y24 y25
   unfold r27_numbers.j0
   repeat' first
   | (with_reducible exact ih0 _ _ _ _ _ _ _ _ _ _ _ _ _ _ _ _ _ _ _ _ _ _ _ _ _ _)
   | (with_reducible exact LeO.refl _)
   | (with_reducible exact LeO.none _)
   | (with_reducible refine LeO.ite ?_ ?_)
   | (with_reducible refine LeO.bind ?_ (fun _ => ?_))
   | exact ih0 _ _ _ _ _ _ _ _ _ _ _ _ _ _ _ _ _ _ _ _ _ _ _ _ _ _
   | exact LeO.none _
   | refine LeO.ite ?_ ?_
   | refine LeO.bind ?_ (fun _ => ?_)
theorem r27_numbers.mono : ∀ a0 a1 a2 a3 a4 a5 a6 a7 a8 a9 a10 a11 a12 a13 a14 a15 a16 a17 a18 a19 a20 a21 a22 a23 a24 k, LeO (r27_numbers.f k a0 a1 a2 a3 a4 a5 a6 a7 a8 a9 a10 a11 a12 a13 a14 a15 a16 a17 a18 a19 a20 a21 a22 a23 a24) (r27_numbers.f (k + 1) a0 a1 a2 a3 a4 a5 a6 a7 a8 a9 a10 a11 a12 a13 a14 a15 a16 a17 a18 a19 a20 a21 a22 a23 a24) := by
 intro a0 a1 a2 a3 a4 a5 a6 a7 a8 a9 a10 a11 a12 a13 a14 a15 a16 a17 a18 a19 a20 a21 a22 a23 a24 k
 have ih0 := r27_numbers.mono_l k
 unfold r27_numbers.f
 repeat' first
   | (with_reducible exact ih0 _ _ _ _ _ _ _ _ _ _ _ _ _ _ _ _ _ _ _ _ _ _ _ _ _ _)
   | (with_reducible exact LeO.refl _)
   | (with_reducible exact LeO.none _)
   | (with_reducible refine LeO.ite ?_ ?_)
   | (with_reducible refine LeO.bind ?_ (fun _ => ?_))
   | exact ih0 _ _ _ _ _ _ _ _ _ _ _ _ _ _ _ _ _ _ _ _ _ _ _ _ _ _
   | exact LeO.none _
   | refine LeO.ite ?_ ?_
   | refine LeO.bind ?_ (fun _ => ?_)
set_option maxHeartbeats 8000000 in
set_option maxRecDepth 100000 in
theorem r27_numbers.calls (k : Nat) (a0_0 : Int) (A0_1 : Option Addr) (c0_1 : Nat) (l0_1 : List Int) (a0_2 : Int) (a0_3 : Int) (a0_4 : Int) (a0_5 : Int) (a0_6 : Int) (a0_7 : Int) (a0_8 : Int) (a0_9 : Int) (a0_10 : Int) (a0_11 : Int) (a0_12 : Int) (A0_13 : Option Addr) (c0_13 : Nat) (l0_13 : List (List Int)) (a0_14 : Int) (a0_15 : Int) (a0_16 : Int) (a0_17 : Int) (a0_18 : Int) (a0_19 : Int) (a0_20 : Int) (a0_21 : Int) (a0_22 : Int) (A0_23 : Option Addr) (c0_23 : Nat) (l0_23 : List Int) (a0_24 : Int) (r : Bool) (w : World) (hr0_1 : Kd.C (Kd.int .i64) w A0_1 l0_1.length l0_1) (hc0_1 : l0_1.length ≤ c0_1) (hr0_13 : Kd.C (Kd.slice 3 (Kd.int .i64)) w A0_13 l0_13.length l0_13) (hc0_13 : l0_13.length ≤ c0_13) (hr0_23 : Kd.C (Kd.int .i64) w A0_23 l0_23.length l0_23) (hc0_23 : l0_23.length ≤ c0_23) (h : r27_numbers.f k a0_0 l0_1 a0_2 a0_3 a0_4 a0_5 a0_6 a0_7 a0_8 a0_9 a0_10 a0_11 a0_12 l0_13 a0_14 a0_15 a0_16 a0_17 a0_18 a0_19 a0_20 a0_21 a0_22 l0_23 a0_24 = some r) :
  Calls Try.prog 33 #[.agg #[.int .i64 a0_0, .slice A0_1 l0_1.length c0_1, .int .i64 a0_2, .int .i64 a0_3, .int .i64 a0_4, .int .i64 a0_5, .int .i64 a0_6, .int .i64 a0_7, .int .i64 a0_8, .int .i64 a0_9, .int .i64 a0_10, .int .i64 a0_11, .int .i64 a0_12, .slice A0_13 l0_13.length c0_13, .int .u64 a0_14, .int .i64 a0_15, .int .i64 a0_16, .int .u64 a0_17, .int .i64 a0_18, .int .i64 a0_19, .int .u64 a0_20, .int .i64 a0_21, .int .i64 a0_22, .slice A0_23 l0_23.length c0_23, .int .i64 a0_24]] w fun e w' => e = .returned (.bool r) ∧ Below w.heap.size w w' := by
 have hu29 := Try.underlying29
 have HR0_1 := Aside0.mk hr0_1
 have HC0_1 := Aside0.mk hc0_1
 clear hr0_1 hc0_1
 have HR0_13 := Aside0.mk hr0_13
 have HC0_13 := Aside0.mk hc0_13
 clear hr0_13 hc0_13
 have HR0_23 := Aside0.mk hr0_23
 have HC0_23 := Aside0.mk hc0_23
 clear hr0_23 hc0_23
 have HB := Aside0.mk (Below.refl w.heap.size w)
 have H : ((r27_in.f a0_0 2 64).bind fun t186 => (if t186 = true then ((r27_in.f a0_2 1 8).bind fun t187 => (if t187 = true then ((r27_in.f a0_3 1 20).bind fun t188 => (if t188 = true then ((r27_in.f a0_4 0 5).bind fun t189 => (if t189 = true then ((r27_in.f a0_5 0 20).bind fun t190 => (r27_numbers.j0 k t190 a0_0 l0_1 a0_2 a0_3 a0_4 a0_5 a0_6 a0_7 a0_8 a0_9 a0_10 a0_11 a0_12 l0_13 a0_14 a0_15 a0_16 a0_17 a0_18 a0_19 a0_20 a0_21 a0_22 l0_23 a0_24)) else (r27_numbers.j0 k false a0_0 l0_1 a0_2 a0_3 a0_4 a0_5 a0_6 a0_7 a0_8 a0_9 a0_10 a0_11 a0_12 l0_13 a0_14 a0_15 a0_16 a0_17 a0_18 a0_19 a0_20 a0_21 a0_22 l0_23 a0_24))) else (r27_numbers.j0 k false a0_0 l0_1 a0_2 a0_3 a0_4 a0_5 a0_6 a0_7 a0_8 a0_9 a0_10 a0_11 a0_12 l0_13 a0_14 a0_15 a0_16 a0_17 a0_18 a0_19 a0_20 a0_21 a0_22 l0_23 a0_24))) else (r27_numbers.j0 k false a0_0 l0_1 a0_2 a0_3 a0_4 a0_5 a0_6 a0_7 a0_8 a0_9 a0_10 a0_11 a0_12 l0_13 a0_14 a0_15 a0_16 a0_17 a0_18 a0_19 a0_20 a0_21 a0_22 l0_23 a0_24))) else (r27_numbers.j0 k false a0_0 l0_1 a0_2 a0_3 a0_4 a0_5 a0_6 a0_7 a0_8 a0_9 a0_10 a0_11 a0_12 l0_13 a0_14 a0_15 a0_16 a0_17 a0_18 a0_19 a0_20 a0_21 a0_22 l0_23 a0_24))) = some r := h
 clear h
 have HC2 := Aside0.mk H
 clear H
 go_enter Try.func33, Try.ntmps33
 go_upto_region 1 with (first | ((with_reducible refine gate_dst (N := 1) rfl ?_); refine bxe (cs := #[.int .i64 a0_0, .slice A0_1 l0_1.length c0_1, .int .i64 a0_2, .int .i64 a0_3, .int .i64 a0_4, .int .i64 a0_5, .int .i64 a0_6, .int .i64 a0_7, .int .i64 a0_8, .int .i64 a0_9, .int .i64 a0_10, .int .i64 a0_11, .int .i64 a0_12, .slice A0_13 l0_13.length c0_13, .int .u64 a0_14, .int .i64 a0_15, .int .i64 a0_16, .int .u64 a0_17, .int .i64 a0_18, .int .i64 a0_19, .int .u64 a0_20, .int .i64 a0_21, .int .i64 a0_22, .slice A0_23 l0_23.length c0_23, .int .i64 a0_24]) (t := 29) ?_; intro gb185 hg w3 hbox hb; have BK185 := Aside0.mk (hbox); have GW185 := Aside0.mk (bge hg HB.out); have GE185 := Aside0.mk (bge hg HB.out); replace HB := Aside0.mk (bst HB.out hb); clear hb hbox hg))
 (try simp only [Act.put, List.setIfInBounds_toArray, List.set_cons_zero, List.set_cons_succ])
 go_cut [3] (fun v3 wc => ∃ (kq : Nat) (x3_1 : Bool), v3 = .bool x3_1 ∧ Aside0 (r27_numbers.j0 kq x3_1 a0_0 l0_1 a0_2 a0_3 a0_4 a0_5 a0_6 a0_7 a0_8 a0_9 a0_10 a0_11 a0_12 l0_13 a0_14 a0_15 a0_16 a0_17 a0_18 a0_19 a0_20 a0_21 a0_22 l0_23 a0_24 = some r) ∧ Aside0 (kq ≤ k) ∧ Aside0 (wc.heap[gb185]? = some (.cells #[.int .i64 a0_0, (.slice A0_1 l0_1.length c0_1), .int .i64 a0_2, .int .i64 a0_3, .int .i64 a0_4, .int .i64 a0_5, .int .i64 a0_6, .int .i64 a0_7, .int .i64 a0_8, .int .i64 a0_9, .int .i64 a0_10, .int .i64 a0_11, .int .i64 a0_12, (.slice A0_13 l0_13.length c0_13), .int .u64 a0_14, .int .i64 a0_15, .int .i64 a0_16, .int .u64 a0_17, .int .i64 a0_18, .int .i64 a0_19, .int .u64 a0_20, .int .i64 a0_21, .int .i64 a0_22, (.slice A0_23 l0_23.length c0_23), .int .i64 a0_24] 29 (0, 0))) ∧ Aside0 (Below w.heap.size w wc))
 case first =>
  have H := HC2.out
  clear HC2
  replace H := Option.bind_eq_some_iff.mp H
  obtain ⟨t186, A40, H⟩ := H
  replace H : (if t186 = true then ((r27_in.f a0_2 1 8).bind fun t187 => (if t187 = true then ((r27_in.f a0_3 1 20).bind fun t188 => (if t188 = true then ((r27_in.f a0_4 0 5).bind fun t189 => (if t189 = true then ((r27_in.f a0_5 0 20).bind fun t190 => (r27_numbers.j0 k t190 a0_0 l0_1 a0_2 a0_3 a0_4 a0_5 a0_6 a0_7 a0_8 a0_9 a0_10 a0_11 a0_12 l0_13 a0_14 a0_15 a0_16 a0_17 a0_18 a0_19 a0_20 a0_21 a0_22 l0_23 a0_24)) else (r27_numbers.j0 k false a0_0 l0_1 a0_2 a0_3 a0_4 a0_5 a0_6 a0_7 a0_8 a0_9 a0_10 a0_11 a0_12 l0_13 a0_14 a0_15 a0_16 a0_17 a0_18 a0_19 a0_20 a0_21 a0_22 l0_23 a0_24))) else (r27_numbers.j0 k false a0_0 l0_1 a0_2 a0_3 a0_4 a0_5 a0_6 a0_7 a0_8 a0_9 a0_10 a0_11 a0_12 l0_13 a0_14 a0_15 a0_16 a0_17 a0_18 a0_19 a0_20 a0_21 a0_22 l0_23 a0_24))) else (r27_numbers.j0 k false a0_0 l0_1 a0_2 a0_3 a0_4 a0_5 a0_6 a0_7 a0_8 a0_9 a0_10 a0_11 a0_12 l0_13 a0_14 a0_15 a0_16 a0_17 a0_18 a0_19 a0_20 a0_21 a0_22 l0_23 a0_24))) else (r27_numbers.j0 k false a0_0 l0_1 a0_2 a0_3 a0_4 a0_5 a0_6 a0_7 a0_8 a0_9 a0_10 a0_11 a0_12 l0_13 a0_14 a0_15 a0_16 a0_17 a0_18 a0_19 a0_20 a0_21 a0_22 l0_23 a0_24)) = some r := H
  have A4 := Aside0.mk A40
  clear A40
  by_cases c5 : t186 = true
  ·as_aux_lemma =>
   subst c5
   have H1 : ((r27_in.f a0_2 1 8).bind fun t187 => (if t187 = true then ((r27_in.f a0_3 1 20).bind fun t188 => (if t188 = true then ((r27_in.f a0_4 0 5).bind fun t189 => (if t189 = true then ((r27_in.f a0_5 0 20).bind fun t190 => (r27_numbers.j0 k t190 a0_0 l0_1 a0_2 a0_3 a0_4 a0_5 a0_6 a0_7 a0_8 a0_9 a0_10 a0_11 a0_12 l0_13 a0_14 a0_15 a0_16 a0_17 a0_18 a0_19 a0_20 a0_21 a0_22 l0_23 a0_24)) else (r27_numbers.j0 k false a0_0 l0_1 a0_2 a0_3 a0_4 a0_5 a0_6 a0_7 a0_8 a0_9 a0_10 a0_11 a0_12 l0_13 a0_14 a0_15 a0_16 a0_17 a0_18 a0_19 a0_20 a0_21 a0_22 l0_23 a0_24))) else (r27_numbers.j0 k false a0_0 l0_1 a0_2 a0_3 a0_4 a0_5 a0_6 a0_7 a0_8 a0_9 a0_10 a0_11 a0_12 l0_13 a0_14 a0_15 a0_16 a0_17 a0_18 a0_19 a0_20 a0_21 a0_22 l0_23 a0_24))) else (r27_numbers.j0 k false a0_0 l0_1 a0_2 a0_3 a0_4 a0_5 a0_6 a0_7 a0_8 a0_9 a0_10 a0_11 a0_12 l0_13 a0_14 a0_15 a0_16 a0_17 a0_18 a0_19 a0_20 a0_21 a0_22 l0_23 a0_24))) = some r := by rw [if_pos rfl] at H; exact H
   clear H
   have H := H1
   clear H1
   replace H := Option.bind_eq_some_iff.mp H
   obtain ⟨t187, A60, H⟩ := H
   replace H : (if t187 = true then ((r27_in.f a0_3 1 20).bind fun t188 => (if t188 = true then ((r27_in.f a0_4 0 5).bind fun t189 => (if t189 = true then ((r27_in.f a0_5 0 20).bind fun t190 => (r27_numbers.j0 k t190 a0_0 l0_1 a0_2 a0_3 a0_4 a0_5 a0_6 a0_7 a0_8 a0_9 a0_10 a0_11 a0_12 l0_13 a0_14 a0_15 a0_16 a0_17 a0_18 a0_19 a0_20 a0_21 a0_22 l0_23 a0_24)) else (r27_numbers.j0 k false a0_0 l0_1 a0_2 a0_3 a0_4 a0_5 a0_6 a0_7 a0_8 a0_9 a0_10 a0_11 a0_12 l0_13 a0_14 a0_15 a0_16 a0_17 a0_18 a0_19 a0_20 a0_21 a0_22 l0_23 a0_24))) else (r27_numbers.j0 k false a0_0 l0_1 a0_2 a0_3 a0_4 a0_5 a0_6 a0_7 a0_8 a0_9 a0_10 a0_11 a0_12 l0_13 a0_14 a0_15 a0_16 a0_17 a0_18 a0_19 a0_20 a0_21 a0_22 l0_23 a0_24))) else (r27_numbers.j0 k false a0_0 l0_1 a0_2 a0_3 a0_4 a0_5 a0_6 a0_7 a0_8 a0_9 a0_10 a0_11 a0_12 l0_13 a0_14 a0_15 a0_16 a0_17 a0_18 a0_19 a0_20 a0_21 a0_22 l0_23 a0_24)) = some r := H
   have A6 := Aside0.mk A60
   clear A60
   by_cases c7 : t187 = true
   ·as_aux_lemma =>
    subst c7
    have H1 : ((r27_in.f a0_3 1 20).bind fun t188 => (if t188 = true then ((r27_in.f a0_4 0 5).bind fun t189 => (if t189 = true then ((r27_in.f a0_5 0 20).bind fun t190 => (r27_numbers.j0 k t190 a0_0 l0_1 a0_2 a0_3 a0_4 a0_5 a0_6 a0_7 a0_8 a0_9 a0_10 a0_11 a0_12 l0_13 a0_14 a0_15 a0_16 a0_17 a0_18 a0_19 a0_20 a0_21 a0_22 l0_23 a0_24)) else (r27_numbers.j0 k false a0_0 l0_1 a0_2 a0_3 a0_4 a0_5 a0_6 a0_7 a0_8 a0_9 a0_10 a0_11 a0_12 l0_13 a0_14 a0_15 a0_16 a0_17 a0_18 a0_19 a0_20 a0_21 a0_22 l0_23 a0_24))) else (r27_numbers.j0 k false a0_0 l0_1 a0_2 a0_3 a0_4 a0_5 a0_6 a0_7 a0_8 a0_9 a0_10 a0_11 a0_12 l0_13 a0_14 a0_15 a0_16 a0_17 a0_18 a0_19 a0_20 a0_21 a0_22 l0_23 a0_24))) = some r := by rw [if_pos rfl] at H; exact H
    clear H
    have H := H1
    clear H1
    replace H := Option.bind_eq_some_iff.mp H
    obtain ⟨t188, A80, H⟩ := H
    replace H : (if t188 = true then ((r27_in.f a0_4 0 5).bind fun t189 => (if t189 = true then ((r27_in.f a0_5 0 20).bind fun t190 => (r27_numbers.j0 k t190 a0_0 l0_1 a0_2 a0_3 a0_4 a0_5 a0_6 a0_7 a0_8 a0_9 a0_10 a0_11 a0_12 l0_13 a0_14 a0_15 a0_16 a0_17 a0_18 a0_19 a0_20 a0_21 a0_22 l0_23 a0_24)) else (r27_numbers.j0 k false a0_0 l0_1 a0_2 a0_3 a0_4 a0_5 a0_6 a0_7 a0_8 a0_9 a0_10 a0_11 a0_12 l0_13 a0_14 a0_15 a0_16 a0_17 a0_18 a0_19 a0_20 a0_21 a0_22 l0_23 a0_24))) else (r27_numbers.j0 k false a0_0 l0_1 a0_2 a0_3 a0_4 a0_5 a0_6 a0_7 a0_8 a0_9 a0_10 a0_11 a0_12 l0_13 a0_14 a0_15 a0_16 a0_17 a0_18 a0_19 a0_20 a0_21 a0_22 l0_23 a0_24)) = some r := H
    have A8 := Aside0.mk A80
    clear A80
    by_cases c9 : t188 = true
    ·as_aux_lemma =>
     subst c9
     have H1 : ((r27_in.f a0_4 0 5).bind fun t189 => (if t189 = true then ((r27_in.f a0_5 0 20).bind fun t190 => (r27_numbers.j0 k t190 a0_0 l0_1 a0_2 a0_3 a0_4 a0_5 a0_6 a0_7 a0_8 a0_9 a0_10 a0_11 a0_12 l0_13 a0_14 a0_15 a0_16 a0_17 a0_18 a0_19 a0_20 a0_21 a0_22 l0_23 a0_24)) else (r27_numbers.j0 k false a0_0 l0_1 a0_2 a0_3 a0_4 a0_5 a0_6 a0_7 a0_8 a0_9 a0_10 a0_11 a0_12 l0_13 a0_14 a0_15 a0_16 a0_17 a0_18 a0_19 a0_20 a0_21 a0_22 l0_23 a0_24))) = some r := by rw [if_pos rfl] at H; exact H
     clear H
     have H := H1
     clear H1
     replace H := Option.bind_eq_some_iff.mp H
     obtain ⟨t189, A100, H⟩ := H
     replace H : (if t189 = true then ((r27_in.f a0_5 0 20).bind fun t190 => (r27_numbers.j0 k t190 a0_0 l0_1 a0_2 a0_3 a0_4 a0_5 a0_6 a0_7 a0_8 a0_9 a0_10 a0_11 a0_12 l0_13 a0_14 a0_15 a0_16 a0_17 a0_18 a0_19 a0_20 a0_21 a0_22 l0_23 a0_24)) else (r27_numbers.j0 k false a0_0 l0_1 a0_2 a0_3 a0_4 a0_5 a0_6 a0_7 a0_8 a0_9 a0_10 a0_11 a0_12 l0_13 a0_14 a0_15 a0_16 a0_17 a0_18 a0_19 a0_20 a0_21 a0_22 l0_23 a0_24)) = some r := H
     have A10 := Aside0.mk A100
     clear A100
     by_cases c11 : t189 = true
     ·as_aux_lemma =>
      subst c11
      have H1 : ((r27_in.f a0_5 0 20).bind fun t190 => (r27_numbers.j0 k t190 a0_0 l0_1 a0_2 a0_3 a0_4 a0_5 a0_6 a0_7 a0_8 a0_9 a0_10 a0_11 a0_12 l0_13 a0_14 a0_15 a0_16 a0_17 a0_18 a0_19 a0_20 a0_21 a0_22 l0_23 a0_24)) = some r := by rw [if_pos rfl] at H; exact H
      clear H
      have H := H1
      clear H1
      replace H := Option.bind_eq_some_iff.mp H
      obtain ⟨t190, A120, H⟩ := H
      replace H : (r27_numbers.j0 k t190 a0_0 l0_1 a0_2 a0_3 a0_4 a0_5 a0_6 a0_7 a0_8 a0_9 a0_10 a0_11 a0_12 l0_13 a0_14 a0_15 a0_16 a0_17 a0_18 a0_19 a0_20 a0_21 a0_22 l0_23 a0_24) = some r := H
      have A12 := Aside0.mk A120
      clear A120
      have H' := Aside0.mk H
      clear H
      have hcz13_0 := cz25 BK185.out
      have hfz13_0 := blk_frozen BK185.out
      go_wp2_with (first | ((with_reducible refine gate_callee (f := 34) rfl ?_); refine gsl (some 7) Try.func34 #[.int .i64 a0_0, .int .i64 2, .int .i64 64] ?_; (with_reducible refine (r27_in.calls a0_0 2 64 true _ A4.out).mono ?_); rintro e w' ⟨rfl, ⟨nd, rfl⟩⟩; refine ⟨_, rfl, ?_⟩) | (go_at_call 34; (with_reducible refine (r27_in.calls a0_2 1 8 true _ A6.out).mono ?_); rintro e w' ⟨rfl, ⟨nd, rfl⟩⟩; (try clear A6)) | (go_at_call 34; (with_reducible refine (r27_in.calls a0_3 1 20 true _ A8.out).mono ?_); rintro e w' ⟨rfl, ⟨nd, rfl⟩⟩; (try clear A8)) | (go_at_call 34; (with_reducible refine (r27_in.calls a0_4 0 5 true _ A10.out).mono ?_); rintro e w' ⟨rfl, ⟨nd, rfl⟩⟩; (try clear A10)) | (go_at_call 34; (with_reducible refine (r27_in.calls a0_5 0 20 t190 _ A12.out).mono ?_); rintro e w' ⟨rfl, ⟨nd, rfl⟩⟩; (try clear A12)))
      go_meet
      case rel => exact ⟨_, (t190), (by first | rfl | (simp; done) | (simp [*]; done)), H', ⟨by first | omega | exact Nat.le_refl _⟩, ⟨bkt BK185.out⟩, ⟨bel HB.out⟩⟩
     ·as_aux_lemma =>
      replace c11 := Bool.eq_false_iff.mpr c11
      subst c11
      have H1 : (r27_numbers.j0 k false a0_0 l0_1 a0_2 a0_3 a0_4 a0_5 a0_6 a0_7 a0_8 a0_9 a0_10 a0_11 a0_12 l0_13 a0_14 a0_15 a0_16 a0_17 a0_18 a0_19 a0_20 a0_21 a0_22 l0_23 a0_24) = some r := by rw [if_neg (show ¬ (false = true) by decide)] at H; exact H
      clear H
      have H := H1
      clear H1
      have H' := Aside0.mk H
      clear H
      have hcz14_0 := cz25 BK185.out
      have hfz14_0 := blk_frozen BK185.out
      go_wp2_with (first | ((with_reducible refine gate_callee (f := 34) rfl ?_); refine gsl (some 7) Try.func34 #[.int .i64 a0_0, .int .i64 2, .int .i64 64] ?_; (with_reducible refine (r27_in.calls a0_0 2 64 true _ A4.out).mono ?_); rintro e w' ⟨rfl, ⟨nd, rfl⟩⟩; refine ⟨_, rfl, ?_⟩) | (go_at_call 34; (with_reducible refine (r27_in.calls a0_2 1 8 true _ A6.out).mono ?_); rintro e w' ⟨rfl, ⟨nd, rfl⟩⟩; (try clear A6)) | (go_at_call 34; (with_reducible refine (r27_in.calls a0_3 1 20 true _ A8.out).mono ?_); rintro e w' ⟨rfl, ⟨nd, rfl⟩⟩; (try clear A8)) | (go_at_call 34; (with_reducible refine (r27_in.calls a0_4 0 5 false _ A10.out).mono ?_); rintro e w' ⟨rfl, ⟨nd, rfl⟩⟩; (try clear A10)))
      go_meet
      case rel => exact ⟨_, (false), (by first | rfl | (simp; done) | (simp [*]; done)), H', ⟨by first | omega | exact Nat.le_refl _⟩, ⟨bkt BK185.out⟩, ⟨bel HB.out⟩⟩
    ·as_aux_lemma =>
     replace c9 := Bool.eq_false_iff.mpr c9
     subst c9
     have H1 : (r27_numbers.j0 k false a0_0 l0_1 a0_2 a0_3 a0_4 a0_5 a0_6 a0_7 a0_8 a0_9 a0_10 a0_11 a0_12 l0_13 a0_14 a0_15 a0_16 a0_17 a0_18 a0_19 a0_20 a0_21 a0_22 l0_23 a0_24) = some r := by rw [if_neg (show ¬ (false = true) by decide)] at H; exact H
     clear H
     have H := H1
     clear H1
     have H' := Aside0.mk H
     clear H
     have hcz15_0 := cz25 BK185.out
     have hfz15_0 := blk_frozen BK185.out
     go_wp2_with (first | ((with_reducible refine gate_callee (f := 34) rfl ?_); refine gsl (some 7) Try.func34 #[.int .i64 a0_0, .int .i64 2, .int .i64 64] ?_; (with_reducible refine (r27_in.calls a0_0 2 64 true _ A4.out).mono ?_); rintro e w' ⟨rfl, ⟨nd, rfl⟩⟩; refine ⟨_, rfl, ?_⟩) | (go_at_call 34; (with_reducible refine (r27_in.calls a0_2 1 8 true _ A6.out).mono ?_); rintro e w' ⟨rfl, ⟨nd, rfl⟩⟩; (try clear A6)) | (go_at_call 34; (with_reducible refine (r27_in.calls a0_3 1 20 false _ A8.out).mono ?_); rintro e w' ⟨rfl, ⟨nd, rfl⟩⟩; (try clear A8)))
     go_meet
     case rel => exact ⟨_, (false), (by first | rfl | (simp; done) | (simp [*]; done)), H', ⟨by first | omega | exact Nat.le_refl _⟩, ⟨bkt BK185.out⟩, ⟨bel HB.out⟩⟩
   ·as_aux_lemma =>
    replace c7 := Bool.eq_false_iff.mpr c7
    subst c7
    have H1 : (r27_numbers.j0 k false a0_0 l0_1 a0_2 a0_3 a0_4 a0_5 a0_6 a0_7 a0_8 a0_9 a0_10 a0_11 a0_12 l0_13 a0_14 a0_15 a0_16 a0_17 a0_18 a0_19 a0_20 a0_21 a0_22 l0_23 a0_24) = some r := by rw [if_neg (show ¬ (false = true) by decide)] at H; exact H
    clear H
    have H := H1
    clear H1
    have H' := Aside0.mk H
    clear H
    have hcz16_0 := cz25 BK185.out
    have hfz16_0 := blk_frozen BK185.out
    go_wp2_with (first | ((with_reducible refine gate_callee (f := 34) rfl ?_); refine gsl (some 7) Try.func34 #[.int .i64 a0_0, .int .i64 2, .int .i64 64] ?_; (with_reducible refine (r27_in.calls a0_0 2 64 true _ A4.out).mono ?_); rintro e w' ⟨rfl, ⟨nd, rfl⟩⟩; refine ⟨_, rfl, ?_⟩) | (go_at_call 34; (with_reducible refine (r27_in.calls a0_2 1 8 false _ A6.out).mono ?_); rintro e w' ⟨rfl, ⟨nd, rfl⟩⟩; (try clear A6)))
    go_meet
    case rel => exact ⟨_, (false), (by first | rfl | (simp; done) | (simp [*]; done)), H', ⟨by first | omega | exact Nat.le_refl _⟩, ⟨bkt BK185.out⟩, ⟨bel HB.out⟩⟩
  ·as_aux_lemma =>
   replace c5 := Bool.eq_false_iff.mpr c5
   subst c5
   have H1 : (r27_numbers.j0 k false a0_0 l0_1 a0_2 a0_3 a0_4 a0_5 a0_6 a0_7 a0_8 a0_9 a0_10 a0_11 a0_12 l0_13 a0_14 a0_15 a0_16 a0_17 a0_18 a0_19 a0_20 a0_21 a0_22 l0_23 a0_24) = some r := by rw [if_neg (show ¬ (false = true) by decide)] at H; exact H
   clear H
   have H := H1
   clear H1
   have H' := Aside0.mk H
   clear H
   have hcz17_0 := cz25 BK185.out
   have hfz17_0 := blk_frozen BK185.out
   go_wp2_with (first | ((with_reducible refine gate_callee (f := 34) rfl ?_); refine gsl (some 7) Try.func34 #[.int .i64 a0_0, .int .i64 2, .int .i64 64] ?_; (with_reducible refine (r27_in.calls a0_0 2 64 false _ A4.out).mono ?_); rintro e w' ⟨rfl, ⟨nd, rfl⟩⟩; refine ⟨_, rfl, ?_⟩))
   go_meet
   case rel => exact ⟨_, (false), (by first | rfl | (simp; done) | (simp [*]; done)), H', ⟨by first | omega | exact Nat.le_refl _⟩, ⟨bkt BK185.out⟩, ⟨bel HB.out⟩⟩
 case rest =>
  clear HC2
  try clear c1
  try clear p2
  try clear c3
  try clear c5
  try clear c7
  try clear c9
  try clear c11
  try clear hcz13_0
  try clear hcz14_0
  try clear hcz15_0
  try clear hcz16_0
  try clear hcz17_0
  try clear hfz13_0
  try clear hfz14_0
  try clear hfz15_0
  try clear hfz16_0
  try clear hfz17_0
  obtain ⟨kq, x3_1, rfl, HA, HJ1, BK185, HB⟩ := hcut
  cases kq with
  | zero => exact absurd HA.out (by simp [r27_numbers.j0])
  | succ kj1 =>
   have H := HA.out
   clear HA
   simp only [r27_numbers.j0] at H
   replace H := Option.bind_eq_some_iff.mp H
   obtain ⟨t191, A180, H⟩ := H
   replace H : (if t191 = true then ((r27_in.f a0_7 1 50).bind fun t192 => (if t192 = true then ((r27_in.f a0_8 0 5).bind fun t193 => (if t193 = true then ((r27_in.f a0_9 0 10000).bind fun t194 => (if t194 = true then (if a0_10 > a0_9 then (if x3_1 = true then (if a0_10 ≤ 10000 then ((r27_in.f a0_11 1 16).bind fun t195 => (if t195 = true then ((r27_in.f a0_12 1 24).bind fun t196 => (if t196 = true then ((r27_in.f a0_24 1 100000).bind fun t197 => (some t197)) else (some false))) else (some false))) else (some false)) else (some false)) else (if x3_1 = true then (some false) else (some false))) else (if x3_1 = true then (some false) else (some false)))) else (if x3_1 = true then (some false) else (some false)))) else (if x3_1 = true then (some false) else (some false)))) else (if x3_1 = true then (some false) else (some false))) = some r := H
   have A18 := Aside0.mk A180
   clear A180
   by_cases c19 : t191 = true
   ·as_aux_lemma =>
    subst c19
    have H1 : ((r27_in.f a0_7 1 50).bind fun t192 => (if t192 = true then ((r27_in.f a0_8 0 5).bind fun t193 => (if t193 = true then ((r27_in.f a0_9 0 10000).bind fun t194 => (if t194 = true then (if a0_10 > a0_9 then (if x3_1 = true then (if a0_10 ≤ 10000 then ((r27_in.f a0_11 1 16).bind fun t195 => (if t195 = true then ((r27_in.f a0_12 1 24).bind fun t196 => (if t196 = true then ((r27_in.f a0_24 1 100000).bind fun t197 => (some t197)) else (some false))) else (some false))) else (some false)) else (some false)) else (if x3_1 = true then (some false) else (some false))) else (if x3_1 = true then (some false) else (some false)))) else (if x3_1 = true then (some false) else (some false)))) else (if x3_1 = true then (some false) else (some false)))) = some r := by rw [if_pos rfl] at H; exact H
    clear H
    have H := H1
    clear H1
    replace H := Option.bind_eq_some_iff.mp H
    obtain ⟨t192, A200, H⟩ := H
    replace H : (if t192 = true then ((r27_in.f a0_8 0 5).bind fun t193 => (if t193 = true then ((r27_in.f a0_9 0 10000).bind fun t194 => (if t194 = true then (if a0_10 > a0_9 then (if x3_1 = true then (if a0_10 ≤ 10000 then ((r27_in.f a0_11 1 16).bind fun t195 => (if t195 = true then ((r27_in.f a0_12 1 24).bind fun t196 => (if t196 = true then ((r27_in.f a0_24 1 100000).bind fun t197 => (some t197)) else (some false))) else (some false))) else (some false)) else (some false)) else (if x3_1 = true then (some false) else (some false))) else (if x3_1 = true then (some false) else (some false)))) else (if x3_1 = true then (some false) else (some false)))) else (if x3_1 = true then (some false) else (some false))) = some r := H
    have A20 := Aside0.mk A200
    clear A200
    by_cases c21 : t192 = true
    ·as_aux_lemma =>
     subst c21
     have H1 : ((r27_in.f a0_8 0 5).bind fun t193 => (if t193 = true then ((r27_in.f a0_9 0 10000).bind fun t194 => (if t194 = true then (if a0_10 > a0_9 then (if x3_1 = true then (if a0_10 ≤ 10000 then ((r27_in.f a0_11 1 16).bind fun t195 => (if t195 = true then ((r27_in.f a0_12 1 24).bind fun t196 => (if t196 = true then ((r27_in.f a0_24 1 100000).bind fun t197 => (some t197)) else (some false))) else (some false))) else (some false)) else (some false)) else (if x3_1 = true then (some false) else (some false))) else (if x3_1 = true then (some false) else (some false)))) else (if x3_1 = true then (some false) else (some false)))) = some r := by rw [if_pos rfl] at H; exact H
     clear H
     have H := H1
     clear H1
     replace H := Option.bind_eq_some_iff.mp H
     obtain ⟨t193, A220, H⟩ := H
     replace H : (if t193 = true then ((r27_in.f a0_9 0 10000).bind fun t194 => (if t194 = true then (if a0_10 > a0_9 then (if x3_1 = true then (if a0_10 ≤ 10000 then ((r27_in.f a0_11 1 16).bind fun t195 => (if t195 = true then ((r27_in.f a0_12 1 24).bind fun t196 => (if t196 = true then ((r27_in.f a0_24 1 100000).bind fun t197 => (some t197)) else (some false))) else (some false))) else (some false)) else (some false)) else (if x3_1 = true then (some false) else (some false))) else (if x3_1 = true then (some false) else (some false)))) else (if x3_1 = true then (some false) else (some false))) = some r := H
     have A22 := Aside0.mk A220
     clear A220
     by_cases c23 : t193 = true
     ·as_aux_lemma =>
      subst c23
      have H1 : ((r27_in.f a0_9 0 10000).bind fun t194 => (if t194 = true then (if a0_10 > a0_9 then (if x3_1 = true then (if a0_10 ≤ 10000 then ((r27_in.f a0_11 1 16).bind fun t195 => (if t195 = true then ((r27_in.f a0_12 1 24).bind fun t196 => (if t196 = true then ((r27_in.f a0_24 1 100000).bind fun t197 => (some t197)) else (some false))) else (some false))) else (some false)) else (some false)) else (if x3_1 = true then (some false) else (some false))) else (if x3_1 = true then (some false) else (some false)))) = some r := by rw [if_pos rfl] at H; exact H
      clear H
      have H := H1
      clear H1
      replace H := Option.bind_eq_some_iff.mp H
      obtain ⟨t194, A240, H⟩ := H
      replace H : (if t194 = true then (if a0_10 > a0_9 then (if x3_1 = true then (if a0_10 ≤ 10000 then ((r27_in.f a0_11 1 16).bind fun t195 => (if t195 = true then ((r27_in.f a0_12 1 24).bind fun t196 => (if t196 = true then ((r27_in.f a0_24 1 100000).bind fun t197 => (some t197)) else (some false))) else (some false))) else (some false)) else (some false)) else (if x3_1 = true then (some false) else (some false))) else (if x3_1 = true then (some false) else (some false))) = some r := H
      have A24 := Aside0.mk A240
      clear A240
      by_cases c25 : t194 = true
      ·as_aux_lemma =>
       subst c25
       have H1 : (if a0_10 > a0_9 then (if x3_1 = true then (if a0_10 ≤ 10000 then ((r27_in.f a0_11 1 16).bind fun t195 => (if t195 = true then ((r27_in.f a0_12 1 24).bind fun t196 => (if t196 = true then ((r27_in.f a0_24 1 100000).bind fun t197 => (some t197)) else (some false))) else (some false))) else (some false)) else (some false)) else (if x3_1 = true then (some false) else (some false))) = some r := by rw [if_pos rfl] at H; exact H
       clear H
       have H := H1
       clear H1
       by_cases c26 : a0_10 > a0_9
       ·as_aux_lemma =>
        rw [if_pos c26] at H
        have c26b0 : decide (a0_9 < a0_10) = true := decide_eq_true c26
        clear c26
        by_cases c27 : x3_1 = true
        ·as_aux_lemma =>
         subst c27
         have H1 : (if a0_10 ≤ 10000 then ((r27_in.f a0_11 1 16).bind fun t195 => (if t195 = true then ((r27_in.f a0_12 1 24).bind fun t196 => (if t196 = true then ((r27_in.f a0_24 1 100000).bind fun t197 => (some t197)) else (some false))) else (some false))) else (some false)) = some r := by rw [if_pos rfl] at H; exact H
         clear H
         have H := H1
         clear H1
         by_cases c28 : a0_10 ≤ 10000
         ·as_aux_lemma =>
          rw [if_pos c28] at H
          have c28b0 : decide (a0_10 ≤ 10000) = true := decide_eq_true c28
          clear c28
          replace H := Option.bind_eq_some_iff.mp H
          obtain ⟨t195, A290, H⟩ := H
          replace H : (if t195 = true then ((r27_in.f a0_12 1 24).bind fun t196 => (if t196 = true then ((r27_in.f a0_24 1 100000).bind fun t197 => (some t197)) else (some false))) else (some false)) = some r := H
          have A29 := Aside0.mk A290
          clear A290
          by_cases c30 : t195 = true
          ·as_aux_lemma =>
           subst c30
           have H1 : ((r27_in.f a0_12 1 24).bind fun t196 => (if t196 = true then ((r27_in.f a0_24 1 100000).bind fun t197 => (some t197)) else (some false))) = some r := by rw [if_pos rfl] at H; exact H
           clear H
           have H := H1
           clear H1
           replace H := Option.bind_eq_some_iff.mp H
           obtain ⟨t196, A310, H⟩ := H
           replace H : (if t196 = true then ((r27_in.f a0_24 1 100000).bind fun t197 => (some t197)) else (some false)) = some r := H
           have A31 := Aside0.mk A310
           clear A310
           by_cases c32 : t196 = true
           ·as_aux_lemma =>
            subst c32
            have H1 : ((r27_in.f a0_24 1 100000).bind fun t197 => (some t197)) = some r := by rw [if_pos rfl] at H; exact H
            clear H
            have H := H1
            clear H1
            replace H := Option.bind_eq_some_iff.mp H
            obtain ⟨t197, A330, H⟩ := H
            replace H : (some t197) = some r := H
            have A33 := Aside0.mk A330
            clear A330
            obtain rfl := Option.some.inj H
            have hcz34_0 := cz25 BK185.out
            have hfz34_0 := blk_frozen BK185.out
            go_wp2_with (first | ((with_reducible refine gate_callee (f := 34) rfl ?_); refine gsl (some 30) Try.func34 #[.int .i64 a0_6, .int .i64 1, .int .i64 20] ?_; (with_reducible refine (r27_in.calls a0_6 1 20 true _ A18.out).mono ?_); rintro e w' ⟨rfl, ⟨nd, rfl⟩⟩; refine ⟨_, rfl, ?_⟩) | (go_at_call 34; (with_reducible refine (r27_in.calls a0_7 1 50 true _ A20.out).mono ?_); rintro e w' ⟨rfl, ⟨nd, rfl⟩⟩; (try clear A20)) | (go_at_call 34; (with_reducible refine (r27_in.calls a0_8 0 5 true _ A22.out).mono ?_); rintro e w' ⟨rfl, ⟨nd, rfl⟩⟩; (try clear A22)) | (go_at_call 34; (with_reducible refine (r27_in.calls a0_9 0 10000 true _ A24.out).mono ?_); rintro e w' ⟨rfl, ⟨nd, rfl⟩⟩; (try clear A24)) | (go_at_call 34; (with_reducible refine (r27_in.calls a0_11 1 16 true _ A29.out).mono ?_); rintro e w' ⟨rfl, ⟨nd, rfl⟩⟩; (try clear A29)) | (go_at_call 34; (with_reducible refine (r27_in.calls a0_12 1 24 true _ A31.out).mono ?_); rintro e w' ⟨rfl, ⟨nd, rfl⟩⟩; (try clear A31)) | (go_at_call 34; (with_reducible refine (r27_in.calls a0_24 1 100000 t197 _ A33.out).mono ?_); rintro e w' ⟨rfl, ⟨nd, rfl⟩⟩; (try clear A33)))
            go_ret
            exact bfin (bel HB.out)
           ·as_aux_lemma =>
            replace c32 := Bool.eq_false_iff.mpr c32
            subst c32
            have H1 : (some false) = some r := by rw [if_neg (show ¬ (false = true) by decide)] at H; exact H
            clear H
            have H := H1
            clear H1
            obtain rfl := Option.some.inj H
            have hcz35_0 := cz25 BK185.out
            have hfz35_0 := blk_frozen BK185.out
            go_wp2_with (first | ((with_reducible refine gate_callee (f := 34) rfl ?_); refine gsl (some 30) Try.func34 #[.int .i64 a0_6, .int .i64 1, .int .i64 20] ?_; (with_reducible refine (r27_in.calls a0_6 1 20 true _ A18.out).mono ?_); rintro e w' ⟨rfl, ⟨nd, rfl⟩⟩; refine ⟨_, rfl, ?_⟩) | (go_at_call 34; (with_reducible refine (r27_in.calls a0_7 1 50 true _ A20.out).mono ?_); rintro e w' ⟨rfl, ⟨nd, rfl⟩⟩; (try clear A20)) | (go_at_call 34; (with_reducible refine (r27_in.calls a0_8 0 5 true _ A22.out).mono ?_); rintro e w' ⟨rfl, ⟨nd, rfl⟩⟩; (try clear A22)) | (go_at_call 34; (with_reducible refine (r27_in.calls a0_9 0 10000 true _ A24.out).mono ?_); rintro e w' ⟨rfl, ⟨nd, rfl⟩⟩; (try clear A24)) | (go_at_call 34; (with_reducible refine (r27_in.calls a0_11 1 16 true _ A29.out).mono ?_); rintro e w' ⟨rfl, ⟨nd, rfl⟩⟩; (try clear A29)) | (go_at_call 34; (with_reducible refine (r27_in.calls a0_12 1 24 false _ A31.out).mono ?_); rintro e w' ⟨rfl, ⟨nd, rfl⟩⟩; (try clear A31)))
            go_ret
            exact bfin (bel HB.out)
          ·as_aux_lemma =>
           replace c30 := Bool.eq_false_iff.mpr c30
           subst c30
           have H1 : (some false) = some r := by rw [if_neg (show ¬ (false = true) by decide)] at H; exact H
           clear H
           have H := H1
           clear H1
           obtain rfl := Option.some.inj H
           have hcz36_0 := cz25 BK185.out
           have hfz36_0 := blk_frozen BK185.out
           go_wp2_with (first | ((with_reducible refine gate_callee (f := 34) rfl ?_); refine gsl (some 30) Try.func34 #[.int .i64 a0_6, .int .i64 1, .int .i64 20] ?_; (with_reducible refine (r27_in.calls a0_6 1 20 true _ A18.out).mono ?_); rintro e w' ⟨rfl, ⟨nd, rfl⟩⟩; refine ⟨_, rfl, ?_⟩) | (go_at_call 34; (with_reducible refine (r27_in.calls a0_7 1 50 true _ A20.out).mono ?_); rintro e w' ⟨rfl, ⟨nd, rfl⟩⟩; (try clear A20)) | (go_at_call 34; (with_reducible refine (r27_in.calls a0_8 0 5 true _ A22.out).mono ?_); rintro e w' ⟨rfl, ⟨nd, rfl⟩⟩; (try clear A22)) | (go_at_call 34; (with_reducible refine (r27_in.calls a0_9 0 10000 true _ A24.out).mono ?_); rintro e w' ⟨rfl, ⟨nd, rfl⟩⟩; (try clear A24)) | (go_at_call 34; (with_reducible refine (r27_in.calls a0_11 1 16 false _ A29.out).mono ?_); rintro e w' ⟨rfl, ⟨nd, rfl⟩⟩; (try clear A29)))
           go_ret
           exact bfin (bel HB.out)
         ·as_aux_lemma =>
          rw [if_neg c28] at H
          have c28b0 : decide (a0_10 ≤ 10000) = false := decide_eq_false c28
          clear c28
          obtain rfl := Option.some.inj H
          have hcz37_0 := cz25 BK185.out
          have hfz37_0 := blk_frozen BK185.out
          go_wp2_with (first | ((with_reducible refine gate_callee (f := 34) rfl ?_); refine gsl (some 30) Try.func34 #[.int .i64 a0_6, .int .i64 1, .int .i64 20] ?_; (with_reducible refine (r27_in.calls a0_6 1 20 true _ A18.out).mono ?_); rintro e w' ⟨rfl, ⟨nd, rfl⟩⟩; refine ⟨_, rfl, ?_⟩) | (go_at_call 34; (with_reducible refine (r27_in.calls a0_7 1 50 true _ A20.out).mono ?_); rintro e w' ⟨rfl, ⟨nd, rfl⟩⟩; (try clear A20)) | (go_at_call 34; (with_reducible refine (r27_in.calls a0_8 0 5 true _ A22.out).mono ?_); rintro e w' ⟨rfl, ⟨nd, rfl⟩⟩; (try clear A22)) | (go_at_call 34; (with_reducible refine (r27_in.calls a0_9 0 10000 true _ A24.out).mono ?_); rintro e w' ⟨rfl, ⟨nd, rfl⟩⟩; (try clear A24)))
          go_ret
          exact bfin (bel HB.out)
        ·as_aux_lemma =>
         replace c27 := Bool.eq_false_iff.mpr c27
         subst c27
         have H1 : (some false) = some r := by rw [if_neg (show ¬ (false = true) by decide)] at H; exact H
         clear H
         have H := H1
         clear H1
         obtain rfl := Option.some.inj H
         have hcz38_0 := cz25 BK185.out
         have hfz38_0 := blk_frozen BK185.out
         go_wp2_with (first | ((with_reducible refine gate_callee (f := 34) rfl ?_); refine gsl (some 30) Try.func34 #[.int .i64 a0_6, .int .i64 1, .int .i64 20] ?_; (with_reducible refine (r27_in.calls a0_6 1 20 true _ A18.out).mono ?_); rintro e w' ⟨rfl, ⟨nd, rfl⟩⟩; refine ⟨_, rfl, ?_⟩) | (go_at_call 34; (with_reducible refine (r27_in.calls a0_7 1 50 true _ A20.out).mono ?_); rintro e w' ⟨rfl, ⟨nd, rfl⟩⟩; (try clear A20)) | (go_at_call 34; (with_reducible refine (r27_in.calls a0_8 0 5 true _ A22.out).mono ?_); rintro e w' ⟨rfl, ⟨nd, rfl⟩⟩; (try clear A22)) | (go_at_call 34; (with_reducible refine (r27_in.calls a0_9 0 10000 true _ A24.out).mono ?_); rintro e w' ⟨rfl, ⟨nd, rfl⟩⟩; (try clear A24)))
         go_ret
         exact bfin (bel HB.out)
       ·as_aux_lemma =>
        rw [if_neg c26] at H
        have c26b0 : decide (a0_9 < a0_10) = false := decide_eq_false c26
        clear c26
        by_cases c39 : x3_1 = true
        ·as_aux_lemma =>
         subst c39
         have H1 : (some false) = some r := by rw [if_pos rfl] at H; exact H
         clear H
         have H := H1
         clear H1
         obtain rfl := Option.some.inj H
         have hcz40_0 := cz25 BK185.out
         have hfz40_0 := blk_frozen BK185.out
         go_wp2_with (first | ((with_reducible refine gate_callee (f := 34) rfl ?_); refine gsl (some 30) Try.func34 #[.int .i64 a0_6, .int .i64 1, .int .i64 20] ?_; (with_reducible refine (r27_in.calls a0_6 1 20 true _ A18.out).mono ?_); rintro e w' ⟨rfl, ⟨nd, rfl⟩⟩; refine ⟨_, rfl, ?_⟩) | (go_at_call 34; (with_reducible refine (r27_in.calls a0_7 1 50 true _ A20.out).mono ?_); rintro e w' ⟨rfl, ⟨nd, rfl⟩⟩; (try clear A20)) | (go_at_call 34; (with_reducible refine (r27_in.calls a0_8 0 5 true _ A22.out).mono ?_); rintro e w' ⟨rfl, ⟨nd, rfl⟩⟩; (try clear A22)) | (go_at_call 34; (with_reducible refine (r27_in.calls a0_9 0 10000 true _ A24.out).mono ?_); rintro e w' ⟨rfl, ⟨nd, rfl⟩⟩; (try clear A24)))
         go_ret
         exact bfin (bel HB.out)
        ·as_aux_lemma =>
         replace c39 := Bool.eq_false_iff.mpr c39
         subst c39
         have H1 : (some false) = some r := by rw [if_neg (show ¬ (false = true) by decide)] at H; exact H
         clear H
         have H := H1
         clear H1
         obtain rfl := Option.some.inj H
         have hcz41_0 := cz25 BK185.out
         have hfz41_0 := blk_frozen BK185.out
         go_wp2_with (first | ((with_reducible refine gate_callee (f := 34) rfl ?_); refine gsl (some 30) Try.func34 #[.int .i64 a0_6, .int .i64 1, .int .i64 20] ?_; (with_reducible refine (r27_in.calls a0_6 1 20 true _ A18.out).mono ?_); rintro e w' ⟨rfl, ⟨nd, rfl⟩⟩; refine ⟨_, rfl, ?_⟩) | (go_at_call 34; (with_reducible refine (r27_in.calls a0_7 1 50 true _ A20.out).mono ?_); rintro e w' ⟨rfl, ⟨nd, rfl⟩⟩; (try clear A20)) | (go_at_call 34; (with_reducible refine (r27_in.calls a0_8 0 5 true _ A22.out).mono ?_); rintro e w' ⟨rfl, ⟨nd, rfl⟩⟩; (try clear A22)) | (go_at_call 34; (with_reducible refine (r27_in.calls a0_9 0 10000 true _ A24.out).mono ?_); rintro e w' ⟨rfl, ⟨nd, rfl⟩⟩; (try clear A24)))
         go_ret
         exact bfin (bel HB.out)
      ·as_aux_lemma =>
       replace c25 := Bool.eq_false_iff.mpr c25
       subst c25
       have H1 : (if x3_1 = true then (some false) else (some false)) = some r := by rw [if_neg (show ¬ (false = true) by decide)] at H; exact H
       clear H
       have H := H1
       clear H1
       by_cases c42 : x3_1 = true
       ·as_aux_lemma =>
        subst c42
        have H1 : (some false) = some r := by rw [if_pos rfl] at H; exact H
        clear H
        have H := H1
        clear H1
        obtain rfl := Option.some.inj H
        have hcz43_0 := cz25 BK185.out
        have hfz43_0 := blk_frozen BK185.out
        go_wp2_with (first | ((with_reducible refine gate_callee (f := 34) rfl ?_); refine gsl (some 30) Try.func34 #[.int .i64 a0_6, .int .i64 1, .int .i64 20] ?_; (with_reducible refine (r27_in.calls a0_6 1 20 true _ A18.out).mono ?_); rintro e w' ⟨rfl, ⟨nd, rfl⟩⟩; refine ⟨_, rfl, ?_⟩) | (go_at_call 34; (with_reducible refine (r27_in.calls a0_7 1 50 true _ A20.out).mono ?_); rintro e w' ⟨rfl, ⟨nd, rfl⟩⟩; (try clear A20)) | (go_at_call 34; (with_reducible refine (r27_in.calls a0_8 0 5 true _ A22.out).mono ?_); rintro e w' ⟨rfl, ⟨nd, rfl⟩⟩; (try clear A22)) | (go_at_call 34; (with_reducible refine (r27_in.calls a0_9 0 10000 false _ A24.out).mono ?_); rintro e w' ⟨rfl, ⟨nd, rfl⟩⟩; (try clear A24)))
        go_ret
        exact bfin (bel HB.out)
       ·as_aux_lemma =>
        replace c42 := Bool.eq_false_iff.mpr c42
        subst c42
        have H1 : (some false) = some r := by rw [if_neg (show ¬ (false = true) by decide)] at H; exact H
        clear H
        have H := H1
        clear H1
        obtain rfl := Option.some.inj H
        have hcz44_0 := cz25 BK185.out
        have hfz44_0 := blk_frozen BK185.out
        go_wp2_with (first | ((with_reducible refine gate_callee (f := 34) rfl ?_); refine gsl (some 30) Try.func34 #[.int .i64 a0_6, .int .i64 1, .int .i64 20] ?_; (with_reducible refine (r27_in.calls a0_6 1 20 true _ A18.out).mono ?_); rintro e w' ⟨rfl, ⟨nd, rfl⟩⟩; refine ⟨_, rfl, ?_⟩) | (go_at_call 34; (with_reducible refine (r27_in.calls a0_7 1 50 true _ A20.out).mono ?_); rintro e w' ⟨rfl, ⟨nd, rfl⟩⟩; (try clear A20)) | (go_at_call 34; (with_reducible refine (r27_in.calls a0_8 0 5 true _ A22.out).mono ?_); rintro e w' ⟨rfl, ⟨nd, rfl⟩⟩; (try clear A22)) | (go_at_call 34; (with_reducible refine (r27_in.calls a0_9 0 10000 false _ A24.out).mono ?_); rintro e w' ⟨rfl, ⟨nd, rfl⟩⟩; (try clear A24)))
        go_ret
        exact bfin (bel HB.out)
     ·as_aux_lemma =>
      replace c23 := Bool.eq_false_iff.mpr c23
      subst c23
      have H1 : (if x3_1 = true then (some false) else (some false)) = some r := by rw [if_neg (show ¬ (false = true) by decide)] at H; exact H
      clear H
      have H := H1
      clear H1
      by_cases c45 : x3_1 = true
      ·as_aux_lemma =>
       subst c45
       have H1 : (some false) = some r := by rw [if_pos rfl] at H; exact H
       clear H
       have H := H1
       clear H1
       obtain rfl := Option.some.inj H
       have hcz46_0 := cz25 BK185.out
       have hfz46_0 := blk_frozen BK185.out
       go_wp2_with (first | ((with_reducible refine gate_callee (f := 34) rfl ?_); refine gsl (some 30) Try.func34 #[.int .i64 a0_6, .int .i64 1, .int .i64 20] ?_; (with_reducible refine (r27_in.calls a0_6 1 20 true _ A18.out).mono ?_); rintro e w' ⟨rfl, ⟨nd, rfl⟩⟩; refine ⟨_, rfl, ?_⟩) | (go_at_call 34; (with_reducible refine (r27_in.calls a0_7 1 50 true _ A20.out).mono ?_); rintro e w' ⟨rfl, ⟨nd, rfl⟩⟩; (try clear A20)) | (go_at_call 34; (with_reducible refine (r27_in.calls a0_8 0 5 false _ A22.out).mono ?_); rintro e w' ⟨rfl, ⟨nd, rfl⟩⟩; (try clear A22)))
       go_ret
       exact bfin (bel HB.out)
      ·as_aux_lemma =>
       replace c45 := Bool.eq_false_iff.mpr c45
       subst c45
       have H1 : (some false) = some r := by rw [if_neg (show ¬ (false = true) by decide)] at H; exact H
       clear H
       have H := H1
       clear H1
       obtain rfl := Option.some.inj H
       have hcz47_0 := cz25 BK185.out
       have hfz47_0 := blk_frozen BK185.out
       go_wp2_with (first | ((with_reducible refine gate_callee (f := 34) rfl ?_); refine gsl (some 30) Try.func34 #[.int .i64 a0_6, .int .i64 1, .int .i64 20] ?_; (with_reducible refine (r27_in.calls a0_6 1 20 true _ A18.out).mono ?_); rintro e w' ⟨rfl, ⟨nd, rfl⟩⟩; refine ⟨_, rfl, ?_⟩) | (go_at_call 34; (with_reducible refine (r27_in.calls a0_7 1 50 true _ A20.out).mono ?_); rintro e w' ⟨rfl, ⟨nd, rfl⟩⟩; (try clear A20)) | (go_at_call 34; (with_reducible refine (r27_in.calls a0_8 0 5 false _ A22.out).mono ?_); rintro e w' ⟨rfl, ⟨nd, rfl⟩⟩; (try clear A22)))
       go_ret
       exact bfin (bel HB.out)
    ·as_aux_lemma =>
     replace c21 := Bool.eq_false_iff.mpr c21
     subst c21
     have H1 : (if x3_1 = true then (some false) else (some false)) = some r := by rw [if_neg (show ¬ (false = true) by decide)] at H; exact H
     clear H
     have H := H1
     clear H1
     by_cases c48 : x3_1 = true
     ·as_aux_lemma =>
      subst c48
      have H1 : (some false) = some r := by rw [if_pos rfl] at H; exact H
      clear H
      have H := H1
      clear H1
      obtain rfl := Option.some.inj H
      have hcz49_0 := cz25 BK185.out
      have hfz49_0 := blk_frozen BK185.out
      go_wp2_with (first | ((with_reducible refine gate_callee (f := 34) rfl ?_); refine gsl (some 30) Try.func34 #[.int .i64 a0_6, .int .i64 1, .int .i64 20] ?_; (with_reducible refine (r27_in.calls a0_6 1 20 true _ A18.out).mono ?_); rintro e w' ⟨rfl, ⟨nd, rfl⟩⟩; refine ⟨_, rfl, ?_⟩) | (go_at_call 34; (with_reducible refine (r27_in.calls a0_7 1 50 false _ A20.out).mono ?_); rintro e w' ⟨rfl, ⟨nd, rfl⟩⟩; (try clear A20)))
      go_ret
      exact bfin (bel HB.out)
     ·as_aux_lemma =>
      replace c48 := Bool.eq_false_iff.mpr c48
      subst c48
      have H1 : (some false) = some r := by rw [if_neg (show ¬ (false = true) by decide)] at H; exact H
      clear H
      have H := H1
      clear H1
      obtain rfl := Option.some.inj H
      have hcz50_0 := cz25 BK185.out
      have hfz50_0 := blk_frozen BK185.out
      go_wp2_with (first | ((with_reducible refine gate_callee (f := 34) rfl ?_); refine gsl (some 30) Try.func34 #[.int .i64 a0_6, .int .i64 1, .int .i64 20] ?_; (with_reducible refine (r27_in.calls a0_6 1 20 true _ A18.out).mono ?_); rintro e w' ⟨rfl, ⟨nd, rfl⟩⟩; refine ⟨_, rfl, ?_⟩) | (go_at_call 34; (with_reducible refine (r27_in.calls a0_7 1 50 false _ A20.out).mono ?_); rintro e w' ⟨rfl, ⟨nd, rfl⟩⟩; (try clear A20)))
      go_ret
      exact bfin (bel HB.out)
   ·as_aux_lemma =>
    replace c19 := Bool.eq_false_iff.mpr c19
    subst c19
    have H1 : (if x3_1 = true then (some false) else (some false)) = some r := by rw [if_neg (show ¬ (false = true) by decide)] at H; exact H
    clear H
    have H := H1
    clear H1
    by_cases c51 : x3_1 = true
    ·as_aux_lemma =>
     subst c51
     have H1 : (some false) = some r := by rw [if_pos rfl] at H; exact H
     clear H
     have H := H1
     clear H1
     obtain rfl := Option.some.inj H
     have hcz52_0 := cz25 BK185.out
     have hfz52_0 := blk_frozen BK185.out
     go_wp2_with (first | ((with_reducible refine gate_callee (f := 34) rfl ?_); refine gsl (some 30) Try.func34 #[.int .i64 a0_6, .int .i64 1, .int .i64 20] ?_; (with_reducible refine (r27_in.calls a0_6 1 20 false _ A18.out).mono ?_); rintro e w' ⟨rfl, ⟨nd, rfl⟩⟩; refine ⟨_, rfl, ?_⟩))
     go_ret
     exact bfin (bel HB.out)
    ·as_aux_lemma =>
     replace c51 := Bool.eq_false_iff.mpr c51
     subst c51
     have H1 : (some false) = some r := by rw [if_neg (show ¬ (false = true) by decide)] at H; exact H
     clear H
     have H := H1
     clear H1
     obtain rfl := Option.some.inj H
     have hcz53_0 := cz25 BK185.out
     have hfz53_0 := blk_frozen BK185.out
     go_wp2_with (first | ((with_reducible refine gate_callee (f := 34) rfl ?_); refine gsl (some 30) Try.func34 #[.int .i64 a0_6, .int .i64 1, .int .i64 20] ?_; (with_reducible refine (r27_in.calls a0_6 1 20 false _ A18.out).mono ?_); rintro e w' ⟨rfl, ⟨nd, rfl⟩⟩; refine ⟨_, rfl, ?_⟩))
     go_ret
     exact bfin (bel HB.out)

end Go.Proofs.Ytmdcjmackhjchaa.P
end
