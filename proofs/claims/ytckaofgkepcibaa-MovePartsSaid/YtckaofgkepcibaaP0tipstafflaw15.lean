-- Printed by wip/myprint.py of this repo (over the kit's printer). Not trusted: Lean checks it.
import Derived.Test.YtckaofgkepcibaaP0
import Derived.Test.YtckaofgkepcibaaP0drivea
import Derived.Test.YtckaofgkepcibaaP0tipstaffkit
namespace Go.Proofs.Ytckaofgkepcibaa.P
open Go.RowKit Go.Proofs.YtckaofgkepcibaaW.PrintWords Go.Proofs.YtckaofgkepcibaaW.PrintLast Go.Proofs.YtckaofgkepcibaaW.PrintMore
attribute [local go_sem] cell_same1 cell_some1
attribute [local go_sem] max2_int min2_int max_two min_two max_three min_three max_four min_four   -- for this text's walks alone
set_option linter.unusedVariables false
set_option linter.unusedSimpArgs false

/-! ### q_at: function 12 -/
def q_at.f (a0 : Int) : Option (Int × Int × Int × Int × Int) := (drive_At.f a0).bind fun bt161 => (some (bt161.1, bt161.2.1, bt161.2.2.1, bt161.2.2.2.1, bt161.2.2.2.2.1))
set_option maxHeartbeats 8000000 in
set_option maxRecDepth 100000 in
theorem q_at.calls (a0 : Int) (r1 : Int) (r2 : Int) (r3 : Int) (r4 : Int) (r5 : Int) (w : World) (h : q_at.f a0 = some (r1, r2, r3, r4, r5)) :
  Calls Try.prog 12 #[.int .i64 a0] w fun e w' => e = .returned (.agg #[.int .i64 r1, .int .i64 r2, .int .i64 r3, .int .i64 r4, .int .i64 r5]) ∧ Below w.heap.size w w' := by
 have hu33 := Try.underlying33
 have HB := Aside0.mk (Below.refl w.heap.size w)
 have H : ((drive_At.f a0).bind fun bt161 => (some (bt161.1, bt161.2.1, bt161.2.2.1, bt161.2.2.2.1, bt161.2.2.2.2.1))) = some (r1, r2, r3, r4, r5) := h
 clear h
 replace H := Option.bind_eq_some_iff.mp H
 obtain ⟨⟨t161, t162, t163, t164, t165, t166⟩, A20, H⟩ := H
 replace H : (some (t161, t162, t163, t164, t165)) = some (r1, r2, r3, r4, r5) := H
 have A2 := Aside0.mk A20
 clear A20
 simp only [Option.some.injEq, Prod.mk.injEq] at H
 obtain ⟨rfl, rfl, rfl, rfl, rfl⟩ := H
 go_enter Try.func12, Try.ntmps12
 go_wp2_with (first | ((with_reducible refine gate_dst (N := 2) rfl ?_); refine bxe (cs := #[.int .i64 0, .int .i64 0, .int .i64 0, .int .i64 0, .int .i64 0]) (t := 33) ?_; intro gb160 hg w3 hbox hb; have BK160 := Aside0.mk (hbox); have GW160 := Aside0.mk (bge hg HB.out); have GE160 := Aside0.mk (bge hg HB.out); replace HB := Aside0.mk (bst HB.out hb); clear hb hbox hg) | ((with_reducible refine gate_callee (f := 32) rfl ?_); refine gsl (some 7) Try.func32 #[.int .i64 a0] ?_; (with_reducible refine (drive_At.calls a0 t161 t162 t163 t164 t165 t166 _ A2.out).mono ?_); rintro e w4 ⟨rfl, hb⟩; refine ⟨_, rfl, ?_⟩; replace BK160 := Aside0.mk (bkb BK160.out hb); replace HB := Aside0.mk (bst HB.out hb); (try clear hb); (try clear hb2); (try clear hk); (try clear hi)) | ((with_reducible refine gate_dst (N := 3) rfl ?_); refine bxe (cs := #[.int .i64 0, .int .i64 0, .int .i64 0, .int .i64 0, .int .i64 0]) (t := 33) ?_; intro gb167 hg w5 hbox hb; have BK167 := Aside0.mk (hbox); have GW167 := Aside0.mk (bge hg HB.out); have GE167 := Aside0.mk (bge hg HB.out); have NB160_167 := Aside0.mk ((bkl hg BK160.out)); have NB167_160 := Aside0.mk ((bkg hg BK160.out)); replace BK160 := Aside0.mk (bkb BK160.out hb); replace HB := Aside0.mk (bst HB.out hb); clear hb hbox hg; have hnb6 := NB167_160.out; have hnc6 := NB160_167.out; have hcz7_0 := cz5 BK167.out; have hfz7_0 := blk_frozen BK167.out; have hcz8_0 := cz5 BK160.out; have hfz8_0 := blk_frozen BK160.out))
 refine bodyPost_ret (results_cell_row rfl _ _ gb160 33 #[.int .i64 t161, .int .i64 t162, .int .i64 t163, .int .i64 t164, .int .i64 t165] (0, 0) _ rfl (bkt BK160.out) Try.underlying33 rfl (by kernel_rfl)) rfl ?_
 exact bfin (bel HB.out)

/-! ### q_shaft: function 10 -/
mutual
def q_shaft.l0 : Nat → List Int → Int → List Int → Int → Option (List Int × Int × Int × Int × Int × Int)
 | 0, _, _, _, _ => none
 | k + 1, x0, x1, x8, x9 => if x9 < (x0.length : Int) then (if x9 < 8 then (q_shaft.j1 k x0 x1 x8 x9 true) else (q_shaft.j1 k x0 x1 x8 x9 (decide (x9 < 1)))) else (q_shaft.j1 k x0 x1 x8 x9 (decide (x9 < 1)))
def q_shaft.j1 : Nat → List Int → Int → List Int → Int → Bool → Option (List Int × Int × Int × Int × Int × Int)
 | 0, _, _, _, _, _ => none
 | k + 1, x0, x1, x8, x9, x26 => if x26 = true then ((kit_At.f x0 x9).bind fun t275 => ((kit_Mod.f t275 40).bind fun t276 => (if x8.length < 17592186044416 then (q_shaft.l0 k x0 x1 (x8 ++ [wrap64 (1 + t276)]) (wrap64 (x9 + 1))) else (none)))) else ((kit_Mod.f x1 1073741824).bind fun t280 => (q_shaft.l1 k x8 t280 0 0 0))
def q_shaft.l1 : Nat → List Int → Int → Int → Int → Int → Option (List Int × Int × Int × Int × Int × Int)
 | 0, _, _, _, _, _ => none
 | k + 1, x8, x10, x11, x12, x13 => if (wrap64 ((x8.length : Int) + 1)) = 0 then (none) else (if x13 < (Int.tmod (wrap64 (Int.tdiv x10 64)) (wrap64 ((x8.length : Int) + 1))) then (if 0 ≤ x13 then (if x13 < (x8.length : Int) then (q_shaft.l1 k x8 x10 (wrap64 (x11 + (rd x8 x13))) x12 (wrap64 (x13 + 1))) else (none)) else (none)) else (q_shaft.l2 k x8 x10 x11 x12 0))
def q_shaft.l2 : Nat → List Int → Int → Int → Int → Int → Option (List Int × Int × Int × Int × Int × Int)
 | 0, _, _, _, _, _ => none
 | k + 1, x8, x10, x11, x12, x14 => if (wrap64 ((x8.length : Int) + 1)) = 0 then (none) else (if x14 < (Int.tmod (wrap64 (Int.tdiv x10 1024)) (wrap64 ((x8.length : Int) + 1))) then (if 0 ≤ x14 then (if x14 < (x8.length : Int) then (q_shaft.l2 k x8 x10 x11 (wrap64 (x12 + (rd x8 x14))) (wrap64 (x14 + 1))) else (none)) else (none)) else (some (x8, wrap64 (1 + (Int.tmod x10 8)), Int.tmod (wrap64 (Int.tdiv x10 8)) 4, 0, x11, x12)))
end
def q_shaft.f (k : Nat) (l0 : List Int) (a1 : Int) : Option (List Int × Int × Int × Int × Int × Int) := q_shaft.l0 k l0 a1 ([] : List Int) 0
theorem q_shaft.mono_l : ∀ k, (∀ y0 y1 y2 y3, LeO (q_shaft.l0 k y0 y1 y2 y3) (q_shaft.l0 (k + 1) y0 y1 y2 y3)) ∧ (∀ y0 y1 y2 y3 y4, LeO (q_shaft.j1 k y0 y1 y2 y3 y4) (q_shaft.j1 (k + 1) y0 y1 y2 y3 y4)) ∧ (∀ y0 y1 y2 y3 y4, LeO (q_shaft.l1 k y0 y1 y2 y3 y4) (q_shaft.l1 (k + 1) y0 y1 y2 y3 y4)) ∧ (∀ y0 y1 y2 y3 y4, LeO (q_shaft.l2 k y0 y1 y2 y3 y4) (q_shaft.l2 (k + 1) y0 y1 y2 y3 y4))
 | 0 => ⟨fun _ _ _ _ r h => by simp [q_shaft.l0] at h, fun _ _ _ _ _ r h => by simp [q_shaft.j1] at h, fun _ _ _ _ _ r h => by simp [q_shaft.l1] at h, fun _ _ _ _ _ r h => by simp [q_shaft.l2] at h⟩
 | k + 1 => by
  obtain ⟨ih0, ih1, ih2, ih3⟩ := q_shaft.mono_l k
  refine ⟨?_, ?_, ?_, ?_⟩
  ·intro y0 y1 y2 y3
   unfold q_shaft.l0
   repeat' first
   | (with_reducible exact ih0 _ _ _ _)
   | (with_reducible exact ih1 _ _ _ _ _)
   | (with_reducible exact ih2 _ _ _ _ _)
   | (with_reducible exact ih3 _ _ _ _ _)
   | (with_reducible exact LeO.refl _)
   | (with_reducible exact LeO.none _)
   | (with_reducible refine LeO.ite ?_ ?_)
   | (with_reducible refine LeO.bind ?_ (fun _ => ?_))
   | exact ih0 _ _ _ _
   | exact ih1 _ _ _ _ _
   | exact ih2 _ _ _ _ _
   | exact ih3 _ _ _ _ _
   | exact LeO.none _
   | refine LeO.ite ?_ ?_
   | refine LeO.bind ?_ (fun _ => ?_)
  ·intro y0 y1 y2 y3 y4
   unfold q_shaft.j1
   repeat' first
   | (with_reducible exact ih0 _ _ _ _)
   | (with_reducible exact ih1 _ _ _ _ _)
   | (with_reducible exact ih2 _ _ _ _ _)
   | (with_reducible exact ih3 _ _ _ _ _)
   | (with_reducible exact LeO.refl _)
   | (with_reducible exact LeO.none _)
   | (with_reducible refine LeO.ite ?_ ?_)
   | (with_reducible refine LeO.bind ?_ (fun _ => ?_))
   | exact ih0 _ _ _ _
   | exact ih1 _ _ _ _ _
   | exact ih2 _ _ _ _ _
   | exact ih3 _ _ _ _ _
   | exact LeO.none _
   | refine LeO.ite ?_ ?_
   | refine LeO.bind ?_ (fun _ => ?_)
  ·intro y0 y1 y2 y3 y4
   unfold q_shaft.l1
   repeat' first
   | (with_reducible exact ih0 _ _ _ _)
   | (with_reducible exact ih1 _ _ _ _ _)
   | (with_reducible exact ih2 _ _ _ _ _)
   | (with_reducible exact ih3 _ _ _ _ _)
   | (with_reducible exact LeO.refl _)
   | (with_reducible exact LeO.none _)
   | (with_reducible refine LeO.ite ?_ ?_)
   | (with_reducible refine LeO.bind ?_ (fun _ => ?_))
   | exact ih0 _ _ _ _
   | exact ih1 _ _ _ _ _
   | exact ih2 _ _ _ _ _
   | exact ih3 _ _ _ _ _
   | exact LeO.none _
   | refine LeO.ite ?_ ?_
   | refine LeO.bind ?_ (fun _ => ?_)
  ·intro y0 y1 y2 y3 y4
   unfold q_shaft.l2
   repeat' first
   | (with_reducible exact ih0 _ _ _ _)
   | (with_reducible exact ih1 _ _ _ _ _)
   | (with_reducible exact ih2 _ _ _ _ _)
   | (with_reducible exact ih3 _ _ _ _ _)
   | (with_reducible exact LeO.refl _)
   | (with_reducible exact LeO.none _)
   | (with_reducible refine LeO.ite ?_ ?_)
   | (with_reducible refine LeO.bind ?_ (fun _ => ?_))
   | exact ih0 _ _ _ _
   | exact ih1 _ _ _ _ _
   | exact ih2 _ _ _ _ _
   | exact ih3 _ _ _ _ _
   | exact LeO.none _
   | refine LeO.ite ?_ ?_
   | refine LeO.bind ?_ (fun _ => ?_)
theorem q_shaft.mono : ∀ a0 a1 k, LeO (q_shaft.f k a0 a1) (q_shaft.f (k + 1) a0 a1) := by
 intro a0 a1 k
 obtain ⟨ih0, ih1, ih2, ih3⟩ := q_shaft.mono_l k
 unfold q_shaft.f
 repeat' first
   | (with_reducible exact ih0 _ _ _ _)
   | (with_reducible exact ih1 _ _ _ _ _)
   | (with_reducible exact ih2 _ _ _ _ _)
   | (with_reducible exact ih3 _ _ _ _ _)
   | (with_reducible exact LeO.refl _)
   | (with_reducible exact LeO.none _)
   | (with_reducible refine LeO.ite ?_ ?_)
   | (with_reducible refine LeO.bind ?_ (fun _ => ?_))
   | exact ih0 _ _ _ _
   | exact ih1 _ _ _ _ _
   | exact ih2 _ _ _ _ _
   | exact ih3 _ _ _ _ _
   | exact LeO.none _
   | refine LeO.ite ?_ ?_
   | refine LeO.bind ?_ (fun _ => ?_)
set_option maxHeartbeats 8000000 in
set_option maxRecDepth 100000 in
theorem q_shaft.calls (k : Nat) (A0 : Option Addr) (c0 : Nat) (l0 : List Int) (a1 : Int) (r1 : List Int) (r2 : Int) (r3 : Int) (r4 : Int) (r5 : Int) (r6 : Int) (w : World) (hr0 : Kd.C (Kd.int .i64) w A0 l0.length l0) (hc0 : l0.length ≤ c0) (h : q_shaft.f k l0 a1 = some (r1, r2, r3, r4, r5, r6)) :
  Calls Try.prog 10 #[.slice A0 l0.length c0, .int .i64 a1] w fun e w' => ∃ v0_ : Value, e = .returned (.tuple #[v0_, .agg #[.int .i64 r2, .int .i64 r3, .int .i64 r4], .int .i64 r5, .int .i64 r6]) ∧ Kd.R (Kd.int .i64) 3 w' w.heap.size (fun _ => True) v0_ r1 ∧ Below w.heap.size w w' := by
 have hu29 := Try.underlying29
 have HR0 := Aside0.mk hr0
 have HC0 := Aside0.mk hc0
 clear hr0 hc0
 have HB := Aside0.mk (Below.refl w.heap.size w)
 have H : (q_shaft.l0 k l0 a1 ([] : List Int) 0) = some (r1, r2, r3, r4, r5, r6) := h
 clear h
 have H' := Aside0.mk H
 clear H
 go_enter Try.func10, Try.ntmps10
 go_wp2_with (first | ((with_reducible refine gate_dst (N := 5) rfl ?_); refine bxe (cs := #[.int .i64 0, .int .i64 0, .int .i64 0]) (t := 29) ?_; intro gb274 hg w3 hbox hb; have BK274 := Aside0.mk (hbox); have GW274 := Aside0.mk (bge hg HB.out); have GE274 := Aside0.mk (bge hg HB.out); replace HB := Aside0.mk (bst HB.out hb); clear hb hbox hg))
 go_loopg [8, 9] k (fun kq v8 v9 w' => ∃ (x8_1 : List Int) (x9_1 : Int), v9 = .int .i64 x9_1 ∧ Aside0 (q_shaft.l0 kq l0 a1 x8_1 x9_1 = some (r1, r2, r3, r4, r5, r6)) ∧ Aside0 (kq ≤ k) ∧ Aside0 (Kd.R (Kd.int .i64) 3 w' w.heap.size (fun _ => True) v8 x8_1) ∧ Aside0 (w'.heap[gb274]? = some (.cells #[.int .i64 0, .int .i64 0, .int .i64 0] 29 (0, 0))) ∧ Aside0 (Below w.heap.size w w'))
 case atStart => exact ⟨(([] : List Int)), (0), (by first | rfl | (simp; done) | (simp [*]; done)), H', ⟨Nat.le_refl _⟩, ⟨by first | exact Kd.R_nil _ _ _ _ _ | exact Kd.N_nil _ _ _ _ _ | exact Kd.V_nil _ _ _ _ _ | exact Kd.Q_nil _ _ _ _ _ | exact Kd.S_nil _ _ _ _ _⟩, ⟨bkt BK274.out⟩, ⟨bel HB.out⟩⟩
 case round =>
  clear H'
  try clear c1
  try clear p2
  obtain ⟨x8_1, x9_1, rfl, HA, HK1, HO_8, BK274, HB⟩ := hrel
  cases gk with
  | zero => exact absurd HA.out (by simp [q_shaft.l0])
  | succ k1 =>
   have H := HA.out
   clear HA
   simp only [q_shaft.l0] at H
   have HC4 := Aside0.mk H
   clear H
   go_upto_region 3 with (fail)
   go_cut [26] (fun v26 wc => ∃ (kq : Nat) (x26_3 : Bool), v26 = .bool x26_3 ∧ Aside0 (q_shaft.j1 kq l0 a1 x8_1 x9_1 x26_3 = some (r1, r2, r3, r4, r5, r6)) ∧ Aside0 (kq ≤ k1) ∧ Aside0 (Kd.R (Kd.int .i64) 3 wc w.heap.size (fun _ => True) u8 x8_1) ∧ Aside0 (wc.heap[gb274]? = some (.cells #[.int .i64 0, .int .i64 0, .int .i64 0] 29 (0, 0))) ∧ Aside0 (Below w.heap.size w wc))
   case first =>
    have H := HC4.out
    clear HC4
    by_cases c5 : x9_1 < (l0.length : Int)
    ·rw [if_pos c5] at H
     have c5b0 : decide (x9_1 < (l0.length : Int)) = true := decide_eq_true c5
     clear c5
     (first | rw [c5b0] | (simp only [i64_w, i32_w]; rw [c5b0]) | skip)
     by_cases c6 : x9_1 < 8
     ·rw [if_pos c6] at H
      have c6b0 : decide (x9_1 < 8) = true := decide_eq_true c6
      clear c6
      have H' := Aside0.mk H
      clear H
      go_wp2
      go_meet
      case rel => exact ⟨_, (true), (by first | rfl | (simp; done) | (simp [*]; done)), H', ⟨by have := HK1.out; first | omega | exact Nat.le_refl _⟩, ⟨kdt HO_8.out⟩, ⟨bkt BK274.out⟩, ⟨bel HB.out⟩⟩
     ·rw [if_neg c6] at H
      have c6b0 : decide (x9_1 < 8) = false := decide_eq_false c6
      clear c6
      have H' := Aside0.mk H
      clear H
      go_wp2
      go_meet
      case rel => exact ⟨_, (decide (x9_1 < 1)), (by first | rfl | (simp; done) | (simp [*]; done)), H', ⟨by have := HK1.out; first | omega | exact Nat.le_refl _⟩, ⟨kdt HO_8.out⟩, ⟨bkt BK274.out⟩, ⟨bel HB.out⟩⟩
    ·rw [if_neg c5] at H
     have c5b0 : decide (x9_1 < (l0.length : Int)) = false := decide_eq_false c5
     clear c5
     (first | rw [c5b0] | (simp only [i64_w, i32_w]; rw [c5b0]) | skip)
     have H' := Aside0.mk H
     clear H
     go_wp2
     go_meet
     case rel => exact ⟨_, (decide (x9_1 < 1)), (by first | rfl | (simp; done) | (simp [*]; done)), H', ⟨by have := HK1.out; first | omega | exact Nat.le_refl _⟩, ⟨kdt HO_8.out⟩, ⟨bkt BK274.out⟩, ⟨bel HB.out⟩⟩
   case rest =>
    clear HC4
    try clear c1
    try clear p2
    try clear c5
    try clear c5b0
    try clear c6
    try clear c6b0
    try clear p2
    obtain ⟨kq, x26_3, rfl, HA, HJ3, HO_8, BK274, HB⟩ := hcut
    cases kq with
    | zero => exact absurd HA.out (by simp [q_shaft.j1])
    | succ kj3 =>
     have H := HA.out
     clear HA
     simp only [q_shaft.j1] at H
     by_cases c7 : x26_3 = true
     ·subst c7
      have H1 : ((kit_At.f l0 x9_1).bind fun t275 => ((kit_Mod.f t275 40).bind fun t276 => (if x8_1.length < 17592186044416 then (q_shaft.l0 kj3 l0 a1 (x8_1 ++ [wrap64 (1 + t276)]) (wrap64 (x9_1 + 1))) else (none)))) = some (r1, r2, r3, r4, r5, r6) := by rw [if_pos rfl] at H; exact H
      clear H
      have H := H1
      clear H1
      replace H := Option.bind_eq_some_iff.mp H
      obtain ⟨t275, A80, H⟩ := H
      replace H : ((kit_Mod.f t275 40).bind fun t276 => (if x8_1.length < 17592186044416 then (q_shaft.l0 kj3 l0 a1 (x8_1 ++ [wrap64 (1 + t276)]) (wrap64 (x9_1 + 1))) else (none))) = some (r1, r2, r3, r4, r5, r6) := H
      have A8 := Aside0.mk A80
      clear A80
      replace H := Option.bind_eq_some_iff.mp H
      obtain ⟨t276, A90, H⟩ := H
      replace H : (if x8_1.length < 17592186044416 then (q_shaft.l0 kj3 l0 a1 (x8_1 ++ [wrap64 (1 + t276)]) (wrap64 (x9_1 + 1))) else (none)) = some (r1, r2, r3, r4, r5, r6) := H
      have A9 := Aside0.mk A90
      clear A90
      by_cases c10 : x8_1.length < 17592186044416
      ·rw [if_pos c10] at H
       have LMc10 := Aside0.mk c10
       clear c10
       obtain ⟨y277, hy277⟩ : ∃ y_ : List Int, y_ = (x8_1 ++ [wrap64 (1 + t276)]) := ⟨_, rfl⟩
       replace H : (q_shaft.l0 kj3 l0 a1 y277 (wrap64 (x9_1 + 1))) = some (r1, r2, r3, r4, r5, r6) := by first | (rw [hy277]; with_reducible exact H) | (have H2_ := (Option.bind_some _ _).symm.trans H; rw [hy277]; with_reducible exact H2_) | (have H2_ := (Option.bind_some _ _).symm.trans H; with_reducible exact H2_) | with_reducible exact H | (rw [hy277]; exact H) | exact H
       have Ny277 := Aside0.mk hy277
       clear hy277
       have H' := Aside0.mk H
       clear H
       go_wp2_with (first | ((with_reducible refine gate_callee (f := 28) rfl ?_); refine gsl (some 32) Try.func28 #[.slice A0 l0.length c0, .int .i64 x9_1] ?_; (with_reducible refine (kit_At.calls _ _ l0 x9_1 t275 _ ?side1 ?side2 A8.out).mono ?_); (case side1 => repeat (first | exact (Kd.C_below HR0.out HB.out) | (with_reducible refine Kd.C_alloc ?_ _) | (with_reducible refine Kd.C_drewN ?_ _) | (with_reducible refine Kd.C_drew ?_))); (case side2 => exact HC0.out); rintro e w' ⟨rfl, ⟨nd, rfl⟩⟩; refine ⟨_, rfl, ?_⟩) | ((with_reducible refine gate_callee (f := 17) rfl ?_); refine gsl (some 33) Try.func17 #[.int .i64 t275, .int .i64 40] ?_; (with_reducible refine (kit_Mod.calls t275 40 t276 _ A9.out).mono ?_); rintro e w' ⟨rfl, ⟨nd, rfl⟩⟩; refine ⟨_, rfl, ?_⟩) | ((with_reducible refine gate_builtin (b := .append) (xs := #[.tmp 29, .tmp 35]) rfl ?_); at_builtin; refine Kd.R_append (Kd.int .i64) (w0 := w) w.heap.size rfl (.tmp 29) (.tmp 35) 22 3 (.int .i64 0) 8 rfl Try.underlying22 info3 rfl (by decide) (by omega) u8 x8_1 (wrap64 (1 + t276)) [.int .i64 (wrap64 (1 + t276))] (fun _ => True) (fun _ => False) rfl rfl ?aP (fun _ hk => hk.elim) ?aF ?aO ?aB ?aS ?aL ?_; (case aP => exact rfl); (case aB => exact (bel HB.out)); (case aF => exact (fun _ _ => trivial)); (case aO => exact (kdt HO_8.out)); (case aS => exact (bsz HB.out)); (case aL => have := LMc10.out; omega); intro v278 w11 ho hb hg hat; rw [← Ny277.out] at ho; have n0_ := Aside0.mk (blk_grown (g := gb274) (o := .cells #[.int .i64 0, .int .i64 0, .int .i64 0] 29 (0, 0)) (bkt BK274.out) hg (Kd.R_ne HO_8.out BK274.out (by decide))); have n1_ := Aside0.mk (hb); have n2_ := Aside0.mk (ho); clear BK274; clear HB; clear HO_8; have BK274 := n0_; have HB := n1_; have HO279 := n2_; clear n0_ n1_ n2_; clear ho hb hg hat))
       go_roundg kj3
       case measure => have := HK1.out; have := HJ3.out; omega
       case rel => exact ⟨(y277), (wrap64 (x9_1 + 1)), (by first | rfl | (simp; done) | (simp [*]; done)), H', ⟨by have := HK1.out; have := HJ3.out; omega⟩, ⟨kdt HO279.out⟩, ⟨bkt BK274.out⟩, ⟨bel HB.out⟩⟩
      ·rw [if_neg c10] at H
       exact absurd H (by simp)
     ·replace c7 := Bool.eq_false_iff.mpr c7
      subst c7
      have H1 : ((kit_Mod.f a1 1073741824).bind fun t280 => (q_shaft.l1 kj3 x8_1 t280 0 0 0)) = some (r1, r2, r3, r4, r5, r6) := by rw [if_neg (show ¬ (false = true) by decide)] at H; exact H
      clear H
      have H := H1
      clear H1
      replace H := Option.bind_eq_some_iff.mp H
      obtain ⟨t280, A120, H⟩ := H
      replace H : (q_shaft.l1 kj3 x8_1 t280 0 0 0) = some (r1, r2, r3, r4, r5, r6) := H
      have A12 := Aside0.mk A120
      clear A120
      have H' := Aside0.mk H
      clear H
      go_wp2_with (first | ((with_reducible refine gate_callee (f := 17) rfl ?_); refine gsl (some 38) Try.func17 #[.int .i64 a1, .int .i64 1073741824] ?_; (with_reducible refine (kit_Mod.calls a1 1073741824 t280 _ A12.out).mono ?_); rintro e w' ⟨rfl, ⟨nd, rfl⟩⟩; refine ⟨_, rfl, ?_⟩))
      go_loopg [11, 13] kj3 (fun kq v11 v13 w' => ∃ (x11_3 : Int) (x13_3 : Int), v11 = .int .i64 x11_3 ∧ v13 = .int .i64 x13_3 ∧ Aside0 (q_shaft.l1 kq x8_1 t280 x11_3 0 x13_3 = some (r1, r2, r3, r4, r5, r6)) ∧ Aside0 (kq ≤ kj3) ∧ Aside0 (Kd.R (Kd.int .i64) 3 w' w.heap.size (fun _ => True) u8 x8_1) ∧ Aside0 (w'.heap[gb274]? = some (.cells #[.int .i64 0, .int .i64 0, .int .i64 0] 29 (0, 0))) ∧ Aside0 (Below w.heap.size w w'))
      case atStart => exact ⟨(0), (0), (by first | rfl | (simp; done) | (simp [*]; done)), (by first | rfl | (simp; done) | (simp [*]; done)), H', ⟨Nat.le_refl _⟩, ⟨kdt HO_8.out⟩, ⟨bkt BK274.out⟩, ⟨bel HB.out⟩⟩
      case round =>
       clear H'
       try clear c1
       try clear c2
       try clear p2
       try clear c5
       try clear c5b0
       try clear c6
       try clear c6b0
       try clear p6
       try clear c7
       try clear c10
       try clear p2
       obtain ⟨x11_3, x13_3, rfl, rfl, HA, HK3, HO_8, BK274, HB⟩ := hrel
       cases gk with
       | zero => exact absurd HA.out (by simp [q_shaft.l1])
       | succ k3 =>
        have H := HA.out
        clear HA
        simp only [q_shaft.l1] at H
        by_cases c13 : (wrap64 ((x8_1.length : Int) + 1)) = 0
        ·rw [if_pos c13] at H
         exact absurd H (by simp)
        ·rw [if_neg c13] at H
         have c13b0 : ((wrap64 ((x8_1.length : Int) + 1)) == 0) = false := beq_eq_false_iff_ne.mpr c13
         have c13b1 : ((wrap64 ((x8_1.length : Int) + 1)) != 0) = true := bne_iff_ne.mpr c13
         by_cases c14 : x13_3 < (Int.tmod (wrap64 (Int.tdiv t280 64)) (wrap64 ((x8_1.length : Int) + 1)))
         ·rw [if_pos c14] at H
          have c14b0 : decide (x13_3 < (Int.tmod (wrap64 (Int.tdiv t280 64)) (wrap64 ((x8_1.length : Int) + 1)))) = true := decide_eq_true c14
          clear c14
          by_cases c15 : 0 ≤ x13_3
          ·rw [if_pos c15] at H
           have c15b0 : decide (0 ≤ x13_3) = true := decide_eq_true c15
           clear c15
           by_cases c16 : x13_3 < (x8_1.length : Int)
           ·rw [if_pos c16] at H
            have c16b0 : decide (x13_3 < (x8_1.length : Int)) = true := decide_eq_true c16
            clear c16
            have H' := Aside0.mk H
            clear H
            obtain ⟨Ao17, co17, eo17⟩ := Kd.R_slice HO_8.out
            subst eo17
            have p281 : 0 ≤ (x13_3 : Int) := of_decide_eq_true (by first | (with_reducible assumption) | assumption)
            have q281 : x13_3 < (x8_1.length : Int) := of_decide_eq_true (by first | (with_reducible assumption) | assumption)
            obtain ⟨ad281, e281, hx281_0⟩ := Kd.at_int (Kd.R_reads' HO_8.out).2.2 x13_3 p281 q281
            cases e281
            replace p281 := eq_true p281
            replace q281 := eq_true q281
            go_wp2
            go_roundg k3
            case measure => have := HK1.out; have := HJ3.out; have := HK3.out; omega
            case rel => exact ⟨(wrap64 (x11_3 + (rd x8_1 x13_3))), (wrap64 (x13_3 + 1)), (by first | rfl | (simp; done) | (simp [*]; done)), (by first | rfl | (simp; done) | (simp [*]; done)), H', ⟨by have := HK1.out; have := HJ3.out; have := HK3.out; omega⟩, ⟨kdt HO_8.out⟩, ⟨bkt BK274.out⟩, ⟨bel HB.out⟩⟩
           ·rw [if_neg c16] at H
            exact absurd H (by simp)
          ·rw [if_neg c15] at H
           exact absurd H (by simp)
         ·rw [if_neg c14] at H
          have c14b0 : decide (x13_3 < (Int.tmod (wrap64 (Int.tdiv t280 64)) (wrap64 ((x8_1.length : Int) + 1)))) = false := decide_eq_false c14
          clear c14
          have H' := Aside0.mk H
          clear H
          obtain ⟨Ao18, co18, eo18⟩ := Kd.R_slice HO_8.out
          subst eo18
          go_wp2
          go_loopg [12, 14] k3 (fun kq v12 v14 w' => ∃ (x12_4 : Int) (x14_4 : Int), v12 = .int .i64 x12_4 ∧ v14 = .int .i64 x14_4 ∧ Aside0 (q_shaft.l2 kq x8_1 t280 x11_3 x12_4 x14_4 = some (r1, r2, r3, r4, r5, r6)) ∧ Aside0 (kq ≤ k3) ∧ Aside0 (Kd.R (Kd.int .i64) 3 w' w.heap.size (fun _ => True) (.slice Ao18 x8_1.length co18) x8_1) ∧ Aside0 (w'.heap[gb274]? = some (.cells #[.int .i64 0, .int .i64 0, .int .i64 0] 29 (0, 0))) ∧ Aside0 (Below w.heap.size w w'))
          case atStart => exact ⟨(0), (0), (by first | rfl | (simp; done) | (simp [*]; done)), (by first | rfl | (simp; done) | (simp [*]; done)), H', ⟨Nat.le_refl _⟩, ⟨kdt HO_8.out⟩, ⟨bkt BK274.out⟩, ⟨bel HB.out⟩⟩
          case round =>
           clear H'
           try clear c1
           try clear c2
           try clear p2
           try clear q2
           try clear hx2
           try clear c5
           try clear c5b0
           try clear c6
           try clear c6b0
           try clear p6
           try clear c7
           try clear c10
           try clear c13
           try clear c13b0
           try clear c13b1
           try clear c14
           try clear c14b0
           try clear c15
           try clear c15b0
           try clear c16
           try clear c16b0
           try clear c17
           try clear hx281_0
           try clear p2
           try clear p281
           try clear p6
           try clear q281
           obtain ⟨x12_4, x14_4, rfl, rfl, HA, HK4, HO_8, BK274, HB⟩ := hrel
           cases gk with
           | zero => exact absurd HA.out (by simp [q_shaft.l2])
           | succ k4 =>
            have H := HA.out
            clear HA
            simp only [q_shaft.l2] at H
            by_cases c19 : (wrap64 ((x8_1.length : Int) + 1)) = 0
            ·rw [if_pos c19] at H
             exact absurd H (by simp)
            ·rw [if_neg c19] at H
             have c19b0 : ((wrap64 ((x8_1.length : Int) + 1)) == 0) = false := beq_eq_false_iff_ne.mpr c19
             have c19b1 : ((wrap64 ((x8_1.length : Int) + 1)) != 0) = true := bne_iff_ne.mpr c19
             by_cases c20 : x14_4 < (Int.tmod (wrap64 (Int.tdiv t280 1024)) (wrap64 ((x8_1.length : Int) + 1)))
             ·rw [if_pos c20] at H
              have c20b0 : decide (x14_4 < (Int.tmod (wrap64 (Int.tdiv t280 1024)) (wrap64 ((x8_1.length : Int) + 1)))) = true := decide_eq_true c20
              clear c20
              by_cases c21 : 0 ≤ x14_4
              ·rw [if_pos c21] at H
               have c21b0 : decide (0 ≤ x14_4) = true := decide_eq_true c21
               clear c21
               by_cases c22 : x14_4 < (x8_1.length : Int)
               ·rw [if_pos c22] at H
                have c22b0 : decide (x14_4 < (x8_1.length : Int)) = true := decide_eq_true c22
                clear c22
                have H' := Aside0.mk H
                clear H
                have p282 : 0 ≤ (x14_4 : Int) := of_decide_eq_true (by first | (with_reducible assumption) | assumption)
                have q282 : x14_4 < (x8_1.length : Int) := of_decide_eq_true (by first | (with_reducible assumption) | assumption)
                obtain ⟨ad282, e282, hx282_0⟩ := Kd.at_int (Kd.R_reads' HO_8.out).2.2 x14_4 p282 q282
                cases e282
                replace p282 := eq_true p282
                replace q282 := eq_true q282
                go_wp2
                go_roundg k4
                case measure => have := HK1.out; have := HJ3.out; have := HK3.out; have := HK4.out; omega
                case rel => exact ⟨(wrap64 (x12_4 + (rd x8_1 x14_4))), (wrap64 (x14_4 + 1)), (by first | rfl | (simp; done) | (simp [*]; done)), (by first | rfl | (simp; done) | (simp [*]; done)), H', ⟨by have := HK1.out; have := HJ3.out; have := HK3.out; have := HK4.out; omega⟩, ⟨kdt HO_8.out⟩, ⟨bkt BK274.out⟩, ⟨bel HB.out⟩⟩
               ·rw [if_neg c22] at H
                exact absurd H (by simp)
              ·rw [if_neg c21] at H
               exact absurd H (by simp)
             ·rw [if_neg c20] at H
              have c20b0 : decide (x14_4 < (Int.tmod (wrap64 (Int.tdiv t280 1024)) (wrap64 ((x8_1.length : Int) + 1)))) = false := decide_eq_false c20
              clear c20
              simp only [Option.some.injEq, Prod.mk.injEq] at H
              obtain ⟨rfl, rfl, rfl, rfl, rfl, rfl⟩ := H
              have hcz23_0 := cz3 BK274.out
              have hfz23_0 := blk_frozen BK274.out
              go_wp2
              refine bodyPost_ret (results_list (rs := [.tmp 4, .cell 5 29, .tmp 6, .tmp 7]) rfl (by simp) (.tmp (.cell gb274 29 #[.int .i64 (wrap64 (1 + (Int.tmod t280 8))), .int .i64 (Int.tmod (wrap64 (Int.tdiv t280 8)) 4), .int .i64 0] (0, 0) _ rfl (bkt BK274.out) Try.underlying29 rfl (by kernel_rfl) (.tmp (.tmp .nil))))) rfl ?_
              exact ⟨_, by first | rfl | (simp [errW_none, errW_some] <;> rfl) | (simp [*, errW_none, errW_some] <;> rfl), by (with_reducible repeat (first | apply Kd.R_alloc | apply Kd.R_drewN | apply Kd.R_drew)); exact Kd.R_mono (Kd.R_far (p := ⟨gb274, 2, none⟩) (Kd.R_far (p := ⟨gb274, 1, none⟩) (Kd.R_far (p := ⟨gb274, 0, none⟩) (Kd.R_types HO_8.out BK274.out (by decide)) (fun _ hk => hk.2) (.int .i64 (wrap64 (1 + (Int.tmod t280 8))))) (fun _ hk => hk.2) (.int .i64 (Int.tmod (wrap64 (Int.tdiv t280 8)) 4))) (fun _ hk => hk.2) (.int .i64 0)) (fun _ hk => trivial), bel HB.out⟩

end Go.Proofs.Ytckaofgkepcibaa.P
