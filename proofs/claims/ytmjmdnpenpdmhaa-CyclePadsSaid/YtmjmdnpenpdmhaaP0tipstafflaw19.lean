-- Printed by wip/myprint.py of this repo (over the kit's printer). Not trusted: Lean checks it.
import Derived.Test.YtmjmdnpenpdmhaaP0
import Derived.Test.YtmjmdnpenpdmhaaP0tipstaffkit
namespace Go.Proofs.Ytmjmdnpenpdmhaa.P
open Go.RowKit Go.Proofs.YtmjmdnpenpdmhaaW.PrintWords Go.Proofs.YtmjmdnpenpdmhaaW.PrintLast Go.Proofs.YtmjmdnpenpdmhaaW.PrintMore
attribute [local go_sem] cell_same1 cell_some1
attribute [local go_sem] max2_int min2_int max_two min_two max_three min_three max_four min_four   -- for this text's walks alone
set_option linter.unusedVariables false
set_option linter.unusedSimpArgs false

/-! ### q_rule: function 17 -/
def q_rule.f  : Option (Int × Int × Int) := some (2, 1, 1)
set_option maxHeartbeats 8000000 in
set_option maxRecDepth 100000 in
theorem q_rule.calls  (r1 : Int) (r2 : Int) (r3 : Int) (w : World) (h : q_rule.f  = some (r1, r2, r3)) :
  Calls Try.prog 17 #[] w fun e w' => e = .returned (.agg #[.int .i64 r1, .int .i64 r2, .int .i64 r3]) ∧ Below w.heap.size w w' := by
 have hu23 := Try.underlying23
 have HB := Aside0.mk (Below.refl w.heap.size w)
 have H : (some (2, 1, 1)) = some (r1, r2, r3) := h
 clear h
 simp only [Option.some.injEq, Prod.mk.injEq] at H
 obtain ⟨rfl, rfl, rfl⟩ := H
 go_enter Try.func17, Try.ntmps17
 go_wp2_with (first | ((with_reducible refine gate_dst (N := 0) rfl ?_); refine bxe (cs := #[.int .i64 0, .int .i64 0, .int .i64 0]) (t := 23) ?_; intro gb101 hg w1 hbox hb; have BK101 := Aside0.mk (hbox); have GW101 := Aside0.mk (bge hg HB.out); have GE101 := Aside0.mk (bge hg HB.out); replace HB := Aside0.mk (bst HB.out hb); clear hb hbox hg; have hcz2_0 := cz3 BK101.out; have hfz2_0 := blk_frozen BK101.out))
 refine bodyPost_ret (results_cell_row rfl _ _ gb101 23 #[.int .i64 2, .int .i64 1, .int .i64 1] (0, 0) _ rfl (bkt BK101.out) Try.underlying23 rfl (by kernel_rfl)) rfl ?_
 exact bfin (bel HB.out)

/-! ### q_marks: function 39 -/
def q_marks.l0 : Nat → ByteArray → List Bool → Int → Option (List Bool)
 | 0, _, _, _ => none
 | k + 1, x0, x3, x4 => if x4 < (x0.size : Int) then (if 0 ≤ x4 then (if x3.length < 140737488355328 then (q_marks.l0 k x0 (x3 ++ [((bt x0 x4) == 120)]) (wrap64 (x4 + 1))) else (none)) else (none)) else (some x3)
def q_marks.f (k : Nat) (a0 : ByteArray) : Option (List Bool) := q_marks.l0 k a0 ([] : List Bool) 0
theorem q_marks.mono_l : ∀ k, (∀ y0 y1 y2, LeO (q_marks.l0 k y0 y1 y2) (q_marks.l0 (k + 1) y0 y1 y2))
 | 0 => fun _ _ _ r h => by simp [q_marks.l0] at h
 | k + 1 => by
  have ih0 := q_marks.mono_l k
  ·intro y0 y1 y2
   unfold q_marks.l0
   repeat' first
   | (with_reducible exact ih0 _ _ _)
   | (with_reducible exact LeO.refl _)
   | (with_reducible exact LeO.none _)
   | (with_reducible refine LeO.ite ?_ ?_)
   | (with_reducible refine LeO.bind ?_ (fun _ => ?_))
   | exact ih0 _ _ _
   | exact LeO.none _
   | refine LeO.ite ?_ ?_
   | refine LeO.bind ?_ (fun _ => ?_)
theorem q_marks.mono : ∀ a0 k, LeO (q_marks.f k a0) (q_marks.f (k + 1) a0) := by
 intro a0 k
 have ih0 := q_marks.mono_l k
 unfold q_marks.f
 repeat' first
   | (with_reducible exact ih0 _ _ _)
   | (with_reducible exact LeO.refl _)
   | (with_reducible exact LeO.none _)
   | (with_reducible refine LeO.ite ?_ ?_)
   | (with_reducible refine LeO.bind ?_ (fun _ => ?_))
   | exact ih0 _ _ _
   | exact LeO.none _
   | refine LeO.ite ?_ ?_
   | refine LeO.bind ?_ (fun _ => ?_)
set_option maxHeartbeats 8000000 in
set_option maxRecDepth 100000 in
theorem q_marks.calls (k : Nat) (a0 : ByteArray) (r : List Bool) (w : World) (h : q_marks.f k a0 = some r) :
  Calls Try.prog 39 #[.string a0] w fun e w' => ∃ v0_ : Value, e = .returned (v0_) ∧ Kd.R Kd.bool 4 w' w.heap.size (fun _ => True) v0_ r ∧ Below w.heap.size w w' := by
 have HB := Aside0.mk (Below.refl w.heap.size w)
 have H : (q_marks.l0 k a0 ([] : List Bool) 0) = some r := h
 clear h
 have H' := Aside0.mk H
 clear H
 go_enter Try.func39, Try.ntmps39
 go_wp2
 go_loopg [3, 4] k (fun kq v3 v4 w' => ∃ (x3_1 : List Bool) (x4_1 : Int), v4 = .int .i64 x4_1 ∧ Aside0 (q_marks.l0 kq a0 x3_1 x4_1 = some r) ∧ Aside0 (kq ≤ k) ∧ Aside0 (Kd.R Kd.bool 4 w' w.heap.size (fun _ => True) v3 x3_1) ∧ Aside0 (Below w.heap.size w w'))
 case atStart => exact ⟨(([] : List Bool)), (0), (by first | rfl | (simp; done) | (simp [*]; done)), H', ⟨Nat.le_refl _⟩, ⟨by first | exact Kd.R_nil _ _ _ _ _ | exact Kd.N_nil _ _ _ _ _ | exact Kd.V_nil _ _ _ _ _ | exact Kd.Q_nil _ _ _ _ _ | exact Kd.S_nil _ _ _ _ _⟩, ⟨bel HB.out⟩⟩
 case round =>
  clear H'
  obtain ⟨x3_1, x4_1, rfl, HA, HK1, HO_3, HB⟩ := hrel
  cases gk with
  | zero => exact absurd HA.out (by simp [q_marks.l0])
  | succ k1 =>
   have H := HA.out
   clear HA
   simp only [q_marks.l0] at H
   by_cases c2 : x4_1 < (a0.size : Int)
   ·rw [if_pos c2] at H
    have c2b0 : decide (x4_1 < (a0.size : Int)) = true := decide_eq_true c2
    clear c2
    by_cases c3 : 0 ≤ x4_1
    ·rw [if_pos c3] at H
     have c3b0 : decide (0 ≤ x4_1) = true := decide_eq_true c3
     clear c3
     by_cases c5 : x3_1.length < 140737488355328
     ·rw [if_pos c5] at H
      have LMc5 := Aside0.mk c5
      clear c5
      obtain ⟨y177, hy177⟩ : ∃ y_ : List Bool, y_ = (x3_1 ++ [((bt a0 x4_1) == 120)]) := ⟨_, rfl⟩
      replace H : (q_marks.l0 k1 a0 y177 (wrap64 (x4_1 + 1))) = some r := by first | (rw [hy177]; with_reducible exact H) | (have H2_ := (Option.bind_some _ _).symm.trans H; rw [hy177]; with_reducible exact H2_) | (have H2_ := (Option.bind_some _ _).symm.trans H; with_reducible exact H2_) | with_reducible exact H | (rw [hy177]; exact H) | exact H
      have Ny177 := Aside0.mk hy177
      clear hy177
      have H' := Aside0.mk H
      clear H
      have p4 : 0 ≤ (x4_1 : Int) := of_decide_eq_true (by first | (with_reducible assumption) | assumption)
      have q4 : x4_1 < (a0.size : Int) := of_decide_eq_true (by first | (with_reducible assumption) | assumption)
      have hx4 := bt_at a0 x4_1
      replace p4 := eq_true p4
      replace q4 := eq_true q4
      go_wp2_with (first | ((with_reducible refine gate_builtin (b := .append) (xs := #[.tmp 11, .tmp 16]) rfl ?_); at_builtin; refine Kd.R_append Kd.bool (w0 := w) w.heap.size rfl (.tmp 11) (.tmp 16) 24 4 (.bool false) 1 rfl Try.underlying24 info4 rfl (by decide) (by omega) u3 x3_1 ((bt a0 x4_1) == 120) [.bool ((bt a0 x4_1) == 120)] (fun _ => True) (fun _ => False) rfl rfl ?aP (fun _ hk => hk.elim) ?aF ?aO ?aB ?aS ?aL ?_; (case aP => exact rfl); (case aB => exact (bel HB.out)); (case aF => exact (fun _ _ => trivial)); (case aO => exact (kdt HO_3.out)); (case aS => exact (bsz HB.out)); (case aL => have := LMc5.out; omega); intro v178 w6 ho hb hg hat; rw [← Ny177.out] at ho; have n0_ := Aside0.mk (hb); have n1_ := Aside0.mk (ho); clear HB; clear HO_3; have HB := n0_; have HO179 := n1_; clear n0_ n1_; clear ho hb hg hat))
      go_roundg k1
      case measure => have := HK1.out; omega
      case rel => exact ⟨(y177), (wrap64 (x4_1 + 1)), (by first | rfl | (simp; done) | (simp [*]; done)), H', ⟨by have := HK1.out; omega⟩, ⟨kdt HO179.out⟩, ⟨bel HB.out⟩⟩
     ·rw [if_neg c5] at H
      exact absurd H (by simp)
    ·rw [if_neg c3] at H
     exact absurd H (by simp)
   ·rw [if_neg c2] at H
    have c2b0 : decide (x4_1 < (a0.size : Int)) = false := decide_eq_false c2
    clear c2
    obtain rfl := Option.some.inj H
    go_wp2
    go_ret
    exact ⟨_, by first | rfl | (simp [errW_none, errW_some] <;> rfl) | (simp [*, errW_none, errW_some] <;> rfl), by (with_reducible repeat (first | apply Kd.R_alloc | apply Kd.R_drewN | apply Kd.R_drew)); exact HO_3.out, bel HB.out⟩

/-! ### q_made: function 23 -/
def q_made.l0 : Nat → List Int → List Bool → Int → Int → Int → Int → Option (Int × Int × Int × List Bool)
 | 0, _, _, _, _, _, _ => none
 | k + 1, x1, x7, x8, x569000, x569001, x569002 => if x8 < (x1.length : Int) then (if x8 < (wrap64 ((wrap64 ((wrap64 (2 * x569000)) + x569001)) + (wrap64 (x569002 * (wrap64 ((wrap64 ((wrap64 (2 * x569000)) - 1)) + x569001)))))) then (if 0 ≤ x8 then ((kit_Mod.f (rd x1 x8) 3).bind fun t570 => (if x7.length < 140737488355328 then (q_made.l0 k x1 (x7 ++ [(t570 == 0)]) (wrap64 (x8 + 1)) x569000 x569001 x569002) else (none))) else (none)) else (some (x569000, x569001, x569002, x7))) else (some (x569000, x569001, x569002, x7))
def q_made.f (k : Nat) (a0 : Int) (l1 : List Int) : Option (Int × Int × Int × List Bool) := (kit_Mod.f a0 1000).bind fun t567 => (q_made.l0 k l1 ([] : List Bool) 0 (wrap64 (1 + (Int.tmod t567 5))) (wrap64 (1 + (Int.tmod (wrap64 (Int.tdiv t567 5)) 5))) (Int.tmod (wrap64 (Int.tdiv t567 25)) 4))
theorem q_made.mono_l : ∀ k, (∀ y0 y1 y2 y3 y4 y5, LeO (q_made.l0 k y0 y1 y2 y3 y4 y5) (q_made.l0 (k + 1) y0 y1 y2 y3 y4 y5))
 | 0 => fun _ _ _ _ _ _ r h => by simp [q_made.l0] at h
 | k + 1 => by
  have ih0 := q_made.mono_l k
  ·intro y0 y1 y2 y3 y4 y5
   unfold q_made.l0
   repeat' first
   | (with_reducible exact ih0 _ _ _ _ _ _)
   | (with_reducible exact LeO.refl _)
   | (with_reducible exact LeO.none _)
   | (with_reducible refine LeO.ite ?_ ?_)
   | (with_reducible refine LeO.bind ?_ (fun _ => ?_))
   | exact ih0 _ _ _ _ _ _
   | exact LeO.none _
   | refine LeO.ite ?_ ?_
   | refine LeO.bind ?_ (fun _ => ?_)
theorem q_made.mono : ∀ a0 a1 k, LeO (q_made.f k a0 a1) (q_made.f (k + 1) a0 a1) := by
 intro a0 a1 k
 have ih0 := q_made.mono_l k
 unfold q_made.f
 repeat' first
   | (with_reducible exact ih0 _ _ _ _ _ _)
   | (with_reducible exact LeO.refl _)
   | (with_reducible exact LeO.none _)
   | (with_reducible refine LeO.ite ?_ ?_)
   | (with_reducible refine LeO.bind ?_ (fun _ => ?_))
   | exact ih0 _ _ _ _ _ _
   | exact LeO.none _
   | refine LeO.ite ?_ ?_
   | refine LeO.bind ?_ (fun _ => ?_)
set_option maxHeartbeats 8000000 in
set_option maxRecDepth 100000 in
theorem q_made.calls (k : Nat) (a0 : Int) (A1 : Option Addr) (c1 : Nat) (l1 : List Int) (r1 : Int) (r2 : Int) (r3 : Int) (r4 : List Bool) (w : World) (hr1 : Kd.C (Kd.int .i64) w A1 l1.length l1) (hc1 : l1.length ≤ c1) (h : q_made.f k a0 l1 = some (r1, r2, r3, r4)) :
  Calls Try.prog 23 #[.int .i64 a0, .slice A1 l1.length c1] w fun e w' => ∃ v3_ : Value, e = .returned (.tuple #[.agg #[.int .i64 r1, .int .i64 r2, .int .i64 r3], v3_]) ∧ Kd.R Kd.bool 4 w' w.heap.size (fun _ => True) v3_ r4 ∧ Below w.heap.size w w' := by
 have hu23 := Try.underlying23
 have HR1 := Aside0.mk hr1
 have HC1 := Aside0.mk hc1
 clear hr1 hc1
 have HB := Aside0.mk (Below.refl w.heap.size w)
 have H : ((kit_Mod.f a0 1000).bind fun t567 => (q_made.l0 k l1 ([] : List Bool) 0 (wrap64 (1 + (Int.tmod t567 5))) (wrap64 (1 + (Int.tmod (wrap64 (Int.tdiv t567 5)) 5))) (Int.tmod (wrap64 (Int.tdiv t567 25)) 4))) = some (r1, r2, r3, r4) := h
 clear h
 replace H := Option.bind_eq_some_iff.mp H
 obtain ⟨t567, A30, H⟩ := H
 replace H : (q_made.l0 k l1 ([] : List Bool) 0 (wrap64 (1 + (Int.tmod t567 5))) (wrap64 (1 + (Int.tmod (wrap64 (Int.tdiv t567 5)) 5))) (Int.tmod (wrap64 (Int.tdiv t567 25)) 4)) = some (r1, r2, r3, r4) := H
 have A3 := Aside0.mk A30
 clear A30
 have H' := Aside0.mk H
 clear H
 go_enter Try.func23, Try.ntmps23
 go_wp2_with (first | ((with_reducible refine gate_dst (N := 4) rfl ?_); refine bxe (cs := #[.int .i64 0, .int .i64 0, .int .i64 0]) (t := 23) ?_; intro gb566 hg w4 hbox hb; have BK566 := Aside0.mk (hbox); have GW566 := Aside0.mk (bge hg HB.out); have GE566 := Aside0.mk (bge hg HB.out); replace HB := Aside0.mk (bst HB.out hb); clear hb hbox hg) | ((with_reducible refine gate_callee (f := 25) rfl ?_); refine gsl (some 10) Try.func25 #[.int .i64 a0, .int .i64 1000] ?_; (with_reducible refine (kit_Mod.calls a0 1000 t567 _ A3.out).mono ?_); rintro e w' ⟨rfl, ⟨nd, rfl⟩⟩; refine ⟨_, rfl, ?_⟩; (try (rw [drewN_self w4]; generalize hq_ : World.drewN w4 _ = w4; have n0_ : Aside0 (w4.heap[gb566]? = some (.cells #[.int .i64 0, .int .i64 0, .int .i64 0] 23 (0, 0))) := ⟨by rw [← hq_]; exact (bkt BK566.out)⟩; have n1_ : Aside0 (Below w.heap.size w w4) := ⟨by rw [← hq_]; exact (bel HB.out)⟩; clear BK566 HB hq_; have BK566 := n0_; have HB := n1_; clear n0_ n1_))) | ((with_reducible refine gate_dst (N := 6) rfl ?_); refine bxe (cs := #[.int .i64 0, .int .i64 0, .int .i64 0]) (t := 23) ?_; intro gb568 hg w5 hbox hb; have BK568 := Aside0.mk (hbox); have GW568 := Aside0.mk (bge hg HB.out); have GE568 := Aside0.mk (bge hg HB.out); have NB566_568 := Aside0.mk ((bkl hg BK566.out)); have NB568_566 := Aside0.mk ((bkg hg BK566.out)); replace BK566 := Aside0.mk (bkb BK566.out hb); replace HB := Aside0.mk (bst HB.out hb); clear hb hbox hg; have hnb6 := NB568_566.out; have hnc6 := NB566_568.out; have hcz7_0 := cz3 BK568.out; have hfz7_0 := blk_frozen BK568.out))
 go_loopg [7, 8] k (fun kq v7 v8 w' => ∃ (x7_1 : List Bool) (x8_1 : Int), v8 = .int .i64 x8_1 ∧ Aside0 (q_made.l0 kq l1 x7_1 x8_1 (wrap64 (1 + (Int.tmod t567 5))) (wrap64 (1 + (Int.tmod (wrap64 (Int.tdiv t567 5)) 5))) (Int.tmod (wrap64 (Int.tdiv t567 25)) 4) = some (r1, r2, r3, r4)) ∧ Aside0 (kq ≤ k) ∧ Aside0 (Kd.R Kd.bool 4 w' w.heap.size (fun _ => True) v7 x7_1) ∧ Aside0 (w'.heap[gb566]? = some (.cells #[.int .i64 0, .int .i64 0, .int .i64 0] 23 (0, 0))) ∧ Aside0 (w'.heap[gb568]? = some (.cells #[.int .i64 (wrap64 (1 + (Int.tmod t567 5))), .int .i64 (wrap64 (1 + (Int.tmod (wrap64 (Int.tdiv t567 5)) 5))), .int .i64 (Int.tmod (wrap64 (Int.tdiv t567 25)) 4)] 23 (0, 0))) ∧ Aside0 (Below w.heap.size w w'))
 case atStart => exact ⟨(([] : List Bool)), (0), (by first | rfl | (simp; done) | (simp [*]; done)), H', ⟨Nat.le_refl _⟩, ⟨by first | exact Kd.R_nil _ _ _ _ _ | exact Kd.N_nil _ _ _ _ _ | exact Kd.V_nil _ _ _ _ _ | exact Kd.Q_nil _ _ _ _ _ | exact Kd.S_nil _ _ _ _ _⟩, ⟨bkt BK566.out⟩, ⟨bkt BK568.out⟩, ⟨bel HB.out⟩⟩
 case round =>
  clear H'
  try clear c1
  try clear c2
  try clear p2
  try clear c6
  try clear p6
  try clear hcz7_0
  try clear hfz7_0
  obtain ⟨x7_1, x8_1, rfl, HA, HK1, HO_7, BK566, BK568, HB⟩ := hrel
  cases gk with
  | zero => exact absurd HA.out (by simp [q_made.l0])
  | succ k1 =>
   have H := HA.out
   clear HA
   simp only [q_made.l0] at H
   by_cases c8 : x8_1 < (l1.length : Int)
   ·rw [if_pos c8] at H
    have c8b0 : decide (x8_1 < (l1.length : Int)) = true := decide_eq_true c8
    clear c8
    by_cases c9 : x8_1 < (wrap64 ((wrap64 ((wrap64 (2 * (wrap64 (1 + (Int.tmod t567 5))))) + (wrap64 (1 + (Int.tmod (wrap64 (Int.tdiv t567 5)) 5))))) + (wrap64 ((Int.tmod (wrap64 (Int.tdiv t567 25)) 4) * (wrap64 ((wrap64 ((wrap64 (2 * (wrap64 (1 + (Int.tmod t567 5))))) - 1)) + (wrap64 (1 + (Int.tmod (wrap64 (Int.tdiv t567 5)) 5)))))))))
    ·rw [if_pos c9] at H
     have c9b0 : decide (x8_1 < (wrap64 ((wrap64 ((wrap64 (2 * (wrap64 (1 + (Int.tmod t567 5))))) + (wrap64 (1 + (Int.tmod (wrap64 (Int.tdiv t567 5)) 5))))) + (wrap64 ((Int.tmod (wrap64 (Int.tdiv t567 25)) 4) * (wrap64 ((wrap64 ((wrap64 (2 * (wrap64 (1 + (Int.tmod t567 5))))) - 1)) + (wrap64 (1 + (Int.tmod (wrap64 (Int.tdiv t567 5)) 5)))))))))) = true := decide_eq_true c9
     clear c9
     by_cases c10 : 0 ≤ x8_1
     ·rw [if_pos c10] at H
      have c10b0 : decide (0 ≤ x8_1) = true := decide_eq_true c10
      clear c10
      replace H := Option.bind_eq_some_iff.mp H
      obtain ⟨t570, A110, H⟩ := H
      replace H : (if x7_1.length < 140737488355328 then (q_made.l0 k1 l1 (x7_1 ++ [(t570 == 0)]) (wrap64 (x8_1 + 1)) (wrap64 (1 + (Int.tmod t567 5))) (wrap64 (1 + (Int.tmod (wrap64 (Int.tdiv t567 5)) 5))) (Int.tmod (wrap64 (Int.tdiv t567 25)) 4)) else (none)) = some (r1, r2, r3, r4) := H
      have A11 := Aside0.mk A110
      clear A110
      by_cases c12 : x7_1.length < 140737488355328
      ·rw [if_pos c12] at H
       have LMc12 := Aside0.mk c12
       clear c12
       obtain ⟨y571, hy571⟩ : ∃ y_ : List Bool, y_ = (x7_1 ++ [(t570 == 0)]) := ⟨_, rfl⟩
       replace H : (q_made.l0 k1 l1 y571 (wrap64 (x8_1 + 1)) (wrap64 (1 + (Int.tmod t567 5))) (wrap64 (1 + (Int.tmod (wrap64 (Int.tdiv t567 5)) 5))) (Int.tmod (wrap64 (Int.tdiv t567 25)) 4)) = some (r1, r2, r3, r4) := by first | (rw [hy571]; with_reducible exact H) | (have H2_ := (Option.bind_some _ _).symm.trans H; rw [hy571]; with_reducible exact H2_) | (have H2_ := (Option.bind_some _ _).symm.trans H; with_reducible exact H2_) | with_reducible exact H | (rw [hy571]; exact H) | exact H
       have Ny571 := Aside0.mk hy571
       clear hy571
       have H' := Aside0.mk H
       clear H
       have hnb13 := NB568_566.out
       have hnc13 := NB566_568.out
       have hcz14_0 := cz3 BK568.out
       have hfz14_0 := blk_frozen BK568.out
       have p569 : 0 ≤ (x8_1 : Int) := of_decide_eq_true (by first | (with_reducible assumption) | assumption)
       have q569 : x8_1 < (l1.length : Int) := of_decide_eq_true (by first | (with_reducible assumption) | assumption)
       obtain ⟨ad569, e569, hx569_0⟩ := Kd.at_int HR1.out x8_1 p569 q569
       cases e569
       replace hx569_0 := (HB.out.cell (World.block_lt_of_cell? w _ hx569_0)).trans hx569_0
       replace p569 := eq_true p569
       replace q569 := eq_true q569
       go_wp2_with (first | ((with_reducible refine gate_callee (f := 25) rfl ?_); refine gsl (some 54) Try.func25 #[.int .i64 (rd l1 x8_1), .int .i64 3] ?_; (with_reducible refine (kit_Mod.calls (rd l1 x8_1) 3 t570 _ A11.out).mono ?_); rintro e w' ⟨rfl, ⟨nd, rfl⟩⟩; refine ⟨_, rfl, ?_⟩) | ((with_reducible refine gate_builtin (b := .append) (xs := #[.tmp 49, .tmp 56]) rfl ?_); at_builtin; refine Kd.R_append Kd.bool (w0 := w) w.heap.size rfl (.tmp 49) (.tmp 56) 24 4 (.bool false) 1 rfl Try.underlying24 info4 rfl (by decide) (by omega) u7 x7_1 (t570 == 0) [.bool (t570 == 0)] (fun _ => True) (fun _ => False) rfl rfl ?aP (fun _ hk => hk.elim) ?aF ?aO ?aB ?aS ?aL ?_; (case aP => exact rfl); (case aB => exact (bel HB.out)); (case aF => exact (fun _ _ => trivial)); (case aO => exact (kdt HO_7.out)); (case aS => exact (bsz HB.out)); (case aL => have := LMc12.out; omega); intro v572 w15 ho hb hg hat; rw [← Ny571.out] at ho; have n0_ := Aside0.mk (blk_grown (g := gb566) (o := .cells #[.int .i64 0, .int .i64 0, .int .i64 0] 23 (0, 0)) (bkt BK566.out) hg (Kd.R_ne HO_7.out BK566.out (by decide))); have n1_ := Aside0.mk (blk_grown (g := gb568) (o := .cells #[.int .i64 (wrap64 (1 + (Int.tmod t567 5))), .int .i64 (wrap64 (1 + (Int.tmod (wrap64 (Int.tdiv t567 5)) 5))), .int .i64 (Int.tmod (wrap64 (Int.tdiv t567 25)) 4)] 23 (0, 0)) (bkt BK568.out) hg (Kd.R_ne HO_7.out BK568.out (by decide))); have n2_ := Aside0.mk (hb); have n3_ := Aside0.mk (ho); clear BK566; clear BK568; clear HB; clear HO_7; have BK566 := n0_; have BK568 := n1_; have HB := n2_; have HO573 := n3_; clear n0_ n1_ n2_ n3_; clear ho hb hg hat))
       go_roundg k1
       case measure => have := HK1.out; omega
       case rel => exact ⟨(y571), (wrap64 (x8_1 + 1)), (by first | rfl | (simp; done) | (simp [*]; done)), H', ⟨by have := HK1.out; omega⟩, ⟨kdt HO573.out⟩, ⟨bkt BK566.out⟩, ⟨bkt BK568.out⟩, ⟨bel HB.out⟩⟩
      ·rw [if_neg c12] at H
       exact absurd H (by simp)
     ·rw [if_neg c10] at H
      exact absurd H (by simp)
    ·rw [if_neg c9] at H
     have c9b0 : decide (x8_1 < (wrap64 ((wrap64 ((wrap64 (2 * (wrap64 (1 + (Int.tmod t567 5))))) + (wrap64 (1 + (Int.tmod (wrap64 (Int.tdiv t567 5)) 5))))) + (wrap64 ((Int.tmod (wrap64 (Int.tdiv t567 25)) 4) * (wrap64 ((wrap64 ((wrap64 (2 * (wrap64 (1 + (Int.tmod t567 5))))) - 1)) + (wrap64 (1 + (Int.tmod (wrap64 (Int.tdiv t567 5)) 5)))))))))) = false := decide_eq_false c9
     clear c9
     simp only [Option.some.injEq, Prod.mk.injEq] at H
     obtain ⟨rfl, rfl, rfl, rfl⟩ := H
     have hnb16 := NB568_566.out
     have hnc16 := NB566_568.out
     have hcz17_0 := cz3 BK568.out
     have hfz17_0 := blk_frozen BK568.out
     have hcz18_0 := cz3 BK566.out
     have hfz18_0 := blk_frozen BK566.out
     go_wp2
     refine bodyPost_ret (results_ct rfl _ _ gb566 23 #[.int .i64 (wrap64 (1 + (Int.tmod t567 5))), .int .i64 (wrap64 (1 + (Int.tmod (wrap64 (Int.tdiv t567 5)) 5))), .int .i64 (Int.tmod (wrap64 (Int.tdiv t567 25)) 4)] (0, 0) _ rfl (bkt BK566.out) Try.underlying23 rfl (by kernel_rfl)) rfl ?_
     exact ⟨_, by first | rfl | (simp [errW_none, errW_some] <;> rfl) | (simp [*, errW_none, errW_some] <;> rfl), by (with_reducible repeat (first | apply Kd.R_alloc | apply Kd.R_drewN | apply Kd.R_drew)); exact Kd.R_mono (Kd.R_far (p := ⟨gb566, 2, none⟩) (Kd.R_far (p := ⟨gb566, 1, none⟩) (Kd.R_far (p := ⟨gb566, 0, none⟩) (Kd.R_types HO_7.out BK566.out (by decide)) (fun _ hk => hk.2) (.int .i64 (wrap64 (1 + (Int.tmod t567 5))))) (fun _ hk => hk.2) (.int .i64 (wrap64 (1 + (Int.tmod (wrap64 (Int.tdiv t567 5)) 5))))) (fun _ hk => hk.2) (.int .i64 (Int.tmod (wrap64 (Int.tdiv t567 25)) 4))) (fun _ hk => trivial), bel HB.out⟩
   ·rw [if_neg c8] at H
    have c8b0 : decide (x8_1 < (l1.length : Int)) = false := decide_eq_false c8
    clear c8
    simp only [Option.some.injEq, Prod.mk.injEq] at H
    obtain ⟨rfl, rfl, rfl, rfl⟩ := H
    have hnb19 := NB568_566.out
    have hnc19 := NB566_568.out
    have hcz20_0 := cz3 BK568.out
    have hfz20_0 := blk_frozen BK568.out
    have hcz21_0 := cz3 BK566.out
    have hfz21_0 := blk_frozen BK566.out
    go_wp2
    refine bodyPost_ret (results_ct rfl _ _ gb566 23 #[.int .i64 (wrap64 (1 + (Int.tmod t567 5))), .int .i64 (wrap64 (1 + (Int.tmod (wrap64 (Int.tdiv t567 5)) 5))), .int .i64 (Int.tmod (wrap64 (Int.tdiv t567 25)) 4)] (0, 0) _ rfl (bkt BK566.out) Try.underlying23 rfl (by kernel_rfl)) rfl ?_
    exact ⟨_, by first | rfl | (simp [errW_none, errW_some] <;> rfl) | (simp [*, errW_none, errW_some] <;> rfl), by (with_reducible repeat (first | apply Kd.R_alloc | apply Kd.R_drewN | apply Kd.R_drew)); exact Kd.R_mono (Kd.R_far (p := ⟨gb566, 2, none⟩) (Kd.R_far (p := ⟨gb566, 1, none⟩) (Kd.R_far (p := ⟨gb566, 0, none⟩) (Kd.R_types HO_7.out BK566.out (by decide)) (fun _ hk => hk.2) (.int .i64 (wrap64 (1 + (Int.tmod t567 5))))) (fun _ hk => hk.2) (.int .i64 (wrap64 (1 + (Int.tmod (wrap64 (Int.tdiv t567 5)) 5))))) (fun _ hk => hk.2) (.int .i64 (Int.tmod (wrap64 (Int.tdiv t567 25)) 4))) (fun _ hk => trivial), bel HB.out⟩

end Go.Proofs.Ytmjmdnpenpdmhaa.P
