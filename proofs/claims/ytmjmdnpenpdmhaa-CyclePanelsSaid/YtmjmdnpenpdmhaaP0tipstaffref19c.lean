-- Printed by wip/myprint.py of this repo (over the kit's printer). Not trusted: Lean checks it.
import Derived.Test.YtmjmdnpenpdmhaaP0
import Derived.Test.YtmjmdnpenpdmhaaP0tipstaffref18a
import Derived.Test.YtmjmdnpenpdmhaaP0tipstaffref19
import Derived.Test.YtmjmdnpenpdmhaaP0tipstaffref19b
namespace Go.Proofs.Ytmjmdnpenpdmhaa.P
open Go.RowKit Go.Proofs.YtmjmdnpenpdmhaaW.PrintWords Go.Proofs.YtmjmdnpenpdmhaaW.PrintLast Go.Proofs.YtmjmdnpenpdmhaaW.PrintMore
attribute [local go_sem] cell_same1 cell_some1
attribute [local go_sem] max2_int min2_int max_two min_two max_three min_three max_four min_four   -- for this text's walks alone
set_option linter.unusedVariables false
set_option linter.unusedSimpArgs false

/-! ### ref_panels: function 33 -/
mutual
def ref_panels.j0 : Nat → List Bool → Int → Int → Int → Bool → Int → Int → Int → Option (List Int × Int)
 | 0, _, _, _, _, _, _, _, _ => none
 | k + 1, x1, x2, x8, x9, x26, x372000, x372001, x372002 => if x26 = true then (ref_panels.j1 k x1 x2 x8 4 x372000 x372001 x372002) else (ref_panels.j1 k x1 x2 x8 x9 x372000 x372001 x372002)
def ref_panels.j1 : Nat → List Bool → Int → Int → Int → Int → Int → Int → Option (List Int × Int)
 | 0, _, _, _, _, _, _, _ => none
 | k + 1, x1, x2, x8, x9, x372000, x372001, x372002 => if x9 = 0 then (if x2 < (-1) then (ref_panels.j2 k x1 x2 x8 true x372000 x372001 x372002) else (ref_panels.j2 k x1 x2 x8 (decide (x2 ≥ x8)) x372000 x372001 x372002)) else (some (([] : List Int), x9))
def ref_panels.j2 : Nat → List Bool → Int → Int → Bool → Int → Int → Int → Option (List Int × Int)
 | 0, _, _, _, _, _, _, _ => none
 | k + 1, x1, x2, x8, x36, x372000, x372001, x372002 => if x36 = true then (some (([] : List Int), 2)) else ((ref_Begin.f k x372000 x372001 x372002 true).bind fun bt374 => (ref_panels.l0 k x1 x2 x8 ([] : List Int) 0 x372000 x372001 x372002 bt374.1 bt374.2.1 bt374.2.2.1 bt374.2.2.2.1 bt374.2.2.2.2.1 bt374.2.2.2.2.2.1))
def ref_panels.l0 : Nat → List Bool → Int → Int → List Int → Int → Int → Int → Int → Int → Int → Int → Int → Int → Bool → Option (List Int × Int)
 | 0, _, _, _, _, _, _, _, _, _, _, _, _, _, _ => none
 | k + 1, x1, x2, x8, x12, x13, x372000, x372001, x372002, x382000, x382001, x382002, x382003, x382004, x382005 => if x13 < x8 then (if x13 = x2 then ((ref_Force.f k x382000 x382001 x382002 x382003 x382004 x382005 x372000 x372001 x372002).bind fun bt382 => (if x13 < (x1.length : Int) then (if 0 ≤ x13 then ((ref_Step.f k bt382.1 bt382.2.1 bt382.2.2.1 bt382.2.2.2.1 bt382.2.2.2.2.1 bt382.2.2.2.2.2.1 x372000 x372001 x372002 (rdOf false x1 x13)).bind fun bt390 => (if x12.length < 17592186044416 then (ref_panels.l0 k x1 x2 x8 (x12 ++ [bt390.2.1]) (wrap64 (x13 + 1)) x372000 x372001 x372002 bt390.1 bt390.2.1 bt390.2.2.1 bt390.2.2.2.1 bt390.2.2.2.2.1 bt390.2.2.2.2.2.1) else (none))) else (none)) else ((ref_Step.f k bt382.1 bt382.2.1 bt382.2.2.1 bt382.2.2.2.1 bt382.2.2.2.2.1 bt382.2.2.2.2.2.1 x372000 x372001 x372002 false).bind fun bt401 => (if x12.length < 17592186044416 then (ref_panels.l0 k x1 x2 x8 (x12 ++ [bt401.2.1]) (wrap64 (x13 + 1)) x372000 x372001 x372002 bt401.1 bt401.2.1 bt401.2.2.1 bt401.2.2.2.1 bt401.2.2.2.2.1 bt401.2.2.2.2.2.1) else (none))))) else (if x13 < (x1.length : Int) then (if 0 ≤ x13 then ((ref_Step.f k x382000 x382001 x382002 x382003 x382004 x382005 x372000 x372001 x372002 (rdOf false x1 x13)).bind fun bt413 => (if x12.length < 17592186044416 then (ref_panels.l0 k x1 x2 x8 (x12 ++ [bt413.2.1]) (wrap64 (x13 + 1)) x372000 x372001 x372002 bt413.1 bt413.2.1 bt413.2.2.1 bt413.2.2.2.1 bt413.2.2.2.2.1 bt413.2.2.2.2.2.1) else (none))) else (none)) else ((ref_Step.f k x382000 x382001 x382002 x382003 x382004 x382005 x372000 x372001 x372002 false).bind fun bt424 => (if x12.length < 17592186044416 then (ref_panels.l0 k x1 x2 x8 (x12 ++ [bt424.2.1]) (wrap64 (x13 + 1)) x372000 x372001 x372002 bt424.1 bt424.2.1 bt424.2.2.1 bt424.2.2.2.1 bt424.2.2.2.2.1 bt424.2.2.2.2.2.1) else (none))))) else (some (x12, 0))
end
def ref_panels.f (k : Nat) (a0_0 : Int) (a0_1 : Int) (a0_2 : Int) (l1 : List Bool) (a2 : Int) : Option (List Int × Int) := (r18_Worst.f a0_0 a0_1 a0_2).bind fun bt372 => (if bt372.2 = 0 then (ref_panels.j0 k l1 a2 bt372.1 bt372.2 (decide ((l1.length : Int) > bt372.1)) a0_0 a0_1 a0_2) else (ref_panels.j0 k l1 a2 bt372.1 bt372.2 false a0_0 a0_1 a0_2))
theorem ref_panels.mono_l : ∀ k, (∀ y0 y1 y2 y3 y4 y5 y6 y7, LeO (ref_panels.j0 k y0 y1 y2 y3 y4 y5 y6 y7) (ref_panels.j0 (k + 1) y0 y1 y2 y3 y4 y5 y6 y7)) ∧ (∀ y0 y1 y2 y3 y4 y5 y6, LeO (ref_panels.j1 k y0 y1 y2 y3 y4 y5 y6) (ref_panels.j1 (k + 1) y0 y1 y2 y3 y4 y5 y6)) ∧ (∀ y0 y1 y2 y3 y4 y5 y6, LeO (ref_panels.j2 k y0 y1 y2 y3 y4 y5 y6) (ref_panels.j2 (k + 1) y0 y1 y2 y3 y4 y5 y6)) ∧ (∀ y0 y1 y2 y3 y4 y5 y6 y7 y8 y9 y10 y11 y12 y13, LeO (ref_panels.l0 k y0 y1 y2 y3 y4 y5 y6 y7 y8 y9 y10 y11 y12 y13) (ref_panels.l0 (k + 1) y0 y1 y2 y3 y4 y5 y6 y7 y8 y9 y10 y11 y12 y13))
 | 0 => ⟨fun _ _ _ _ _ _ _ _ r h => by simp [ref_panels.j0] at h, fun _ _ _ _ _ _ _ r h => by simp [ref_panels.j1] at h, fun _ _ _ _ _ _ _ r h => by simp [ref_panels.j2] at h, fun _ _ _ _ _ _ _ _ _ _ _ _ _ _ r h => by simp [ref_panels.l0] at h⟩
 | k + 1 => by
  obtain ⟨ih0, ih1, ih2, ih3⟩ := ref_panels.mono_l k
  refine ⟨?_, ?_, ?_, ?_⟩
  ·intro y0 y1 y2 y3 y4 y5 y6 y7
   unfold ref_panels.j0
   repeat' first
   | (with_reducible exact ih0 _ _ _ _ _ _ _ _)
   | (with_reducible exact ih1 _ _ _ _ _ _ _)
   | (with_reducible exact ih2 _ _ _ _ _ _ _)
   | (with_reducible exact ih3 _ _ _ _ _ _ _ _ _ _ _ _ _ _)
   | (with_reducible exact ref_Begin.mono _ _ _ _ _)
   | (with_reducible exact ref_Force.mono _ _ _ _ _ _ _ _ _ _)
   | (with_reducible exact ref_Step.mono _ _ _ _ _ _ _ _ _ _ _)
   | (with_reducible exact LeO.refl _)
   | (with_reducible exact LeO.none _)
   | (with_reducible refine LeO.ite ?_ ?_)
   | (with_reducible refine LeO.bind ?_ (fun _ => ?_))
   | exact ih0 _ _ _ _ _ _ _ _
   | exact ih1 _ _ _ _ _ _ _
   | exact ih2 _ _ _ _ _ _ _
   | exact ih3 _ _ _ _ _ _ _ _ _ _ _ _ _ _
   | exact ref_Begin.mono _ _ _ _ _
   | exact ref_Force.mono _ _ _ _ _ _ _ _ _ _
   | exact ref_Step.mono _ _ _ _ _ _ _ _ _ _ _
   | exact LeO.none _
   | refine LeO.ite ?_ ?_
   | refine LeO.bind ?_ (fun _ => ?_)
  ·intro y0 y1 y2 y3 y4 y5 y6
   unfold ref_panels.j1
   repeat' first
   | (with_reducible exact ih0 _ _ _ _ _ _ _ _)
   | (with_reducible exact ih1 _ _ _ _ _ _ _)
   | (with_reducible exact ih2 _ _ _ _ _ _ _)
   | (with_reducible exact ih3 _ _ _ _ _ _ _ _ _ _ _ _ _ _)
   | (with_reducible exact ref_Begin.mono _ _ _ _ _)
   | (with_reducible exact ref_Force.mono _ _ _ _ _ _ _ _ _ _)
   | (with_reducible exact ref_Step.mono _ _ _ _ _ _ _ _ _ _ _)
   | (with_reducible exact LeO.refl _)
   | (with_reducible exact LeO.none _)
   | (with_reducible refine LeO.ite ?_ ?_)
   | (with_reducible refine LeO.bind ?_ (fun _ => ?_))
   | exact ih0 _ _ _ _ _ _ _ _
   | exact ih1 _ _ _ _ _ _ _
   | exact ih2 _ _ _ _ _ _ _
   | exact ih3 _ _ _ _ _ _ _ _ _ _ _ _ _ _
   | exact ref_Begin.mono _ _ _ _ _
   | exact ref_Force.mono _ _ _ _ _ _ _ _ _ _
   | exact ref_Step.mono _ _ _ _ _ _ _ _ _ _ _
   | exact LeO.none _
   | refine LeO.ite ?_ ?_
   | refine LeO.bind ?_ (fun _ => ?_)
  ·intro y0 y1 y2 y3 y4 y5 y6
   unfold ref_panels.j2
   repeat' first
   | (with_reducible exact ih0 _ _ _ _ _ _ _ _)
   | (with_reducible exact ih1 _ _ _ _ _ _ _)
   | (with_reducible exact ih2 _ _ _ _ _ _ _)
   | (with_reducible exact ih3 _ _ _ _ _ _ _ _ _ _ _ _ _ _)
   | (with_reducible exact ref_Begin.mono _ _ _ _ _)
   | (with_reducible exact ref_Force.mono _ _ _ _ _ _ _ _ _ _)
   | (with_reducible exact ref_Step.mono _ _ _ _ _ _ _ _ _ _ _)
   | (with_reducible exact LeO.refl _)
   | (with_reducible exact LeO.none _)
   | (with_reducible refine LeO.ite ?_ ?_)
   | (with_reducible refine LeO.bind ?_ (fun _ => ?_))
   | exact ih0 _ _ _ _ _ _ _ _
   | exact ih1 _ _ _ _ _ _ _
   | exact ih2 _ _ _ _ _ _ _
   | exact ih3 _ _ _ _ _ _ _ _ _ _ _ _ _ _
   | exact ref_Begin.mono _ _ _ _ _
   | exact ref_Force.mono _ _ _ _ _ _ _ _ _ _
   | exact ref_Step.mono _ _ _ _ _ _ _ _ _ _ _
   | exact LeO.none _
   | refine LeO.ite ?_ ?_
   | refine LeO.bind ?_ (fun _ => ?_)
  ·intro y0 y1 y2 y3 y4 y5 y6 y7 y8 y9 y10 y11 y12 y13
   unfold ref_panels.l0
   repeat' first
   | (with_reducible exact ih0 _ _ _ _ _ _ _ _)
   | (with_reducible exact ih1 _ _ _ _ _ _ _)
   | (with_reducible exact ih2 _ _ _ _ _ _ _)
   | (with_reducible exact ih3 _ _ _ _ _ _ _ _ _ _ _ _ _ _)
   | (with_reducible exact ref_Begin.mono _ _ _ _ _)
   | (with_reducible exact ref_Force.mono _ _ _ _ _ _ _ _ _ _)
   | (with_reducible exact ref_Step.mono _ _ _ _ _ _ _ _ _ _ _)
   | (with_reducible exact LeO.refl _)
   | (with_reducible exact LeO.none _)
   | (with_reducible refine LeO.ite ?_ ?_)
   | (with_reducible refine LeO.bind ?_ (fun _ => ?_))
   | exact ih0 _ _ _ _ _ _ _ _
   | exact ih1 _ _ _ _ _ _ _
   | exact ih2 _ _ _ _ _ _ _
   | exact ih3 _ _ _ _ _ _ _ _ _ _ _ _ _ _
   | exact ref_Begin.mono _ _ _ _ _
   | exact ref_Force.mono _ _ _ _ _ _ _ _ _ _
   | exact ref_Step.mono _ _ _ _ _ _ _ _ _ _ _
   | exact LeO.none _
   | refine LeO.ite ?_ ?_
   | refine LeO.bind ?_ (fun _ => ?_)
theorem ref_panels.mono : ∀ a0 a1 a2 a3 a4 k, LeO (ref_panels.f k a0 a1 a2 a3 a4) (ref_panels.f (k + 1) a0 a1 a2 a3 a4) := by
 intro a0 a1 a2 a3 a4 k
 obtain ⟨ih0, ih1, ih2, ih3⟩ := ref_panels.mono_l k
 unfold ref_panels.f
 repeat' first
   | (with_reducible exact ih0 _ _ _ _ _ _ _ _)
   | (with_reducible exact ih1 _ _ _ _ _ _ _)
   | (with_reducible exact ih2 _ _ _ _ _ _ _)
   | (with_reducible exact ih3 _ _ _ _ _ _ _ _ _ _ _ _ _ _)
   | (with_reducible exact ref_Begin.mono _ _ _ _ _)
   | (with_reducible exact ref_Force.mono _ _ _ _ _ _ _ _ _ _)
   | (with_reducible exact ref_Step.mono _ _ _ _ _ _ _ _ _ _ _)
   | (with_reducible exact LeO.refl _)
   | (with_reducible exact LeO.none _)
   | (with_reducible refine LeO.ite ?_ ?_)
   | (with_reducible refine LeO.bind ?_ (fun _ => ?_))
   | exact ih0 _ _ _ _ _ _ _ _
   | exact ih1 _ _ _ _ _ _ _
   | exact ih2 _ _ _ _ _ _ _
   | exact ih3 _ _ _ _ _ _ _ _ _ _ _ _ _ _
   | exact ref_Begin.mono _ _ _ _ _
   | exact ref_Force.mono _ _ _ _ _ _ _ _ _ _
   | exact ref_Step.mono _ _ _ _ _ _ _ _ _ _ _
   | exact LeO.none _
   | refine LeO.ite ?_ ?_
   | refine LeO.bind ?_ (fun _ => ?_)
def ref_panels.T15 : Bool × List (List Nat × List Nat) := (true, [([], []), ([], []), ([], []), ([], []), ([3], [3]), ([2, 4], [2, 4]), ([5], [5]), ([6], [6]), ([6], [6]), ([7, 8, 6], [6, 7, 8]), ([9, 6], [6, 9]), ([6, 10], [6, 10]), ([0, 1, 11, 6], [0, 1, 11]), ([12], [12]), ([13], [13]), ([13], [13]), ([13], [13]), ([14, 12, 0, 1, 2, 3, 4, 5, 6, 7, 8, 9, 10, 11, 12, 13, 14], [14])])
def ref_panels.B15 : List Nat := [0, 0, 0, 0, 8, 28, 60, 124, 124, 508, 1020, 2044, 4095, 8191, 16383, 16383, 16383, 32767]
theorem ref_panels.tab15 : rtab .any (opsOf Try.f33 15) = ref_panels.T15 := by kernel_rfl
theorem ref_panels.bits15 : waitsOk ref_panels.T15.2 ref_panels.B15 = true := by kernel_rfl
set_option maxHeartbeats 8000000 in
set_option maxRecDepth 100000 in
theorem ref_panels.calls (k : Nat) (a0_0 : Int) (a0_1 : Int) (a0_2 : Int) (A1 : Option Addr) (c1 : Nat) (l1 : List Bool) (a2 : Int) (r1 : List Int) (r2 : Int) (w : World) (hr1 : Kd.C Kd.bool w A1 l1.length l1) (hc1 : l1.length ≤ c1) (h : ref_panels.f k a0_0 a0_1 a0_2 l1 a2 = some (r1, r2)) :
  Calls Try.prog 33 #[.agg #[.int .i64 a0_0, .int .i64 a0_1, .int .i64 a0_2], .slice A1 l1.length c1, .int .i64 a2] w fun e w' => ∃ v0_ : Value, e = .returned (.tuple #[v0_, .int .i64 r2]) ∧ Kd.R (Kd.int .i64) 3 w' w.heap.size (fun _ => True) v0_ r1 ∧ Below w.heap.size w w' := by
 have hu23 := Try.underlying23
 have hu39 := Try.underlying39
 have HR1 := Aside0.mk hr1
 have HC1 := Aside0.mk hc1
 clear hr1 hc1
 have HB := Aside0.mk (Below.refl w.heap.size w)
 have H : ((r18_Worst.f a0_0 a0_1 a0_2).bind fun bt372 => (if bt372.2 = 0 then (ref_panels.j0 k l1 a2 bt372.1 bt372.2 (decide ((l1.length : Int) > bt372.1)) a0_0 a0_1 a0_2) else (ref_panels.j0 k l1 a2 bt372.1 bt372.2 false a0_0 a0_1 a0_2))) = some (r1, r2) := h
 clear h
 replace H := Option.bind_eq_some_iff.mp H
 obtain ⟨⟨t372, t373⟩, A40, H⟩ := H
 replace H : (if t373 = 0 then (ref_panels.j0 k l1 a2 t372 t373 (decide ((l1.length : Int) > t372)) a0_0 a0_1 a0_2) else (ref_panels.j0 k l1 a2 t372 t373 false a0_0 a0_1 a0_2)) = some (r1, r2) := H
 have A4 := Aside0.mk A40
 clear A40
 have HC5 := Aside0.mk H
 clear H
 go_enter Try.func33, Try.ntmps33
 go_upto_region 2 with (first | ((with_reducible refine gate_dst (N := 3) rfl ?_); (try (refine gate_guard (by rfl) ?_; dsimp only)); refine bxe (cs := #[.int .i64 a0_0, .int .i64 a0_1, .int .i64 a0_2]) (t := 23) ?_; intro gb371 hg w6 hbox hb; have BK371 := Aside0.mk (hbox); have GW371 := Aside0.mk (bge hg HB.out); have GE371 := Aside0.mk (bge hg HB.out); replace HB := Aside0.mk (bst HB.out hb); clear hb hbox hg; have hcz7_0 := cz3 BK371.out; have hfz7_0 := blk_frozen BK371.out) | ((with_reducible refine gate_callee (f := 42) rfl ?_); refine gsl (some 16) Try.func42 #[.agg #[.int .i64 a0_0, .int .i64 a0_1, .int .i64 a0_2]] ?_; (with_reducible refine (r18_Worst.calls a0_0 a0_1 a0_2 t372 t373 _ A4.out).mono ?_); rintro e w8 ⟨rfl, hb⟩; refine ⟨_, rfl, ?_⟩; replace BK371 := Aside0.mk (bkb BK371.out hb); replace HB := Aside0.mk (bst HB.out hb); (try clear hb); (try clear hb2); (try clear hk); (try clear hi)))
 (try simp only [Act.put, List.setIfInBounds_toArray, List.set_cons_zero, List.set_cons_succ])
 go_cut [26] (fun v26 wc => ∃ (kq : Nat) (x26_4 : Bool), v26 = .bool x26_4 ∧ Aside0 (ref_panels.j0 kq l1 a2 t372 t373 x26_4 a0_0 a0_1 a0_2 = some (r1, r2)) ∧ Aside0 (kq ≤ k) ∧ Aside0 (wc.heap[gb371]? = some (.cells #[.int .i64 a0_0, .int .i64 a0_1, .int .i64 a0_2] 23 (0, 0))) ∧ Aside0 (Below w.heap.size w wc))
 case first =>
  have H := HC5.out
  clear HC5
  by_cases c9 : t373 = 0
  ·rw [if_pos c9] at H
   have c9b0 : (t373 == 0) = true := beq_iff_eq.mpr c9
   have c9b1 : (t373 != 0) = false := bne_eq_false_iff_eq.mpr c9
   clear c9
   (first | rw [c9b0] | (simp only [i64_w, i32_w]; rw [c9b0]) | skip)
   have H' := Aside0.mk H
   clear H
   go_wp2
   go_meet
   case rel => exact ⟨_, (decide ((l1.length : Int) > t372)), (by first | rfl | (simp; done) | (simp [*]; done)), H', ⟨by first | omega | exact Nat.le_refl _⟩, ⟨bkt BK371.out⟩, ⟨bel HB.out⟩⟩
  ·rw [if_neg c9] at H
   have c9b0 : (t373 == 0) = false := beq_eq_false_iff_ne.mpr c9
   have c9b1 : (t373 != 0) = true := bne_iff_ne.mpr c9
   (first | rw [c9b0] | (simp only [i64_w, i32_w]; rw [c9b0]) | skip)
   have H' := Aside0.mk H
   clear H
   go_wp2
   go_meet
   case rel => exact ⟨_, (false), (by first | rfl | (simp; done) | (simp [*]; done)), H', ⟨by first | omega | exact Nat.le_refl _⟩, ⟨bkt BK371.out⟩, ⟨bel HB.out⟩⟩
 case rest =>
  clear HC5
  try clear c1
  try clear p2
  try clear c3
  try clear c4
  try clear c9
  try clear c9b0
  try clear c9b1
  try clear hcz7_0
  try clear hfz7_0
  obtain ⟨kq, x26_4, rfl, HA, HJ4, BK371, HB⟩ := hcut
  cases kq with
  | zero => exact absurd HA.out (by simp [ref_panels.j0])
  | succ kj4 =>
   have H := HA.out
   clear HA
   simp only [ref_panels.j0] at H
   have HC10 := Aside0.mk H
   clear H
   go_upto_if 26 with (fail)
   go_cut [9] (fun v9 wc => ∃ (kq : Nat) (x9_9 : Int), v9 = .int .i64 x9_9 ∧ Aside0 (ref_panels.j1 kq l1 a2 t372 x9_9 a0_0 a0_1 a0_2 = some (r1, r2)) ∧ Aside0 (kq ≤ kj4) ∧ Aside0 (wc.heap[gb371]? = some (.cells #[.int .i64 a0_0, .int .i64 a0_1, .int .i64 a0_2] 23 (0, 0))) ∧ Aside0 (Below w.heap.size w wc))
   case first =>
    have H := HC10.out
    clear HC10
    by_cases c11 : x26_4 = true
    ·subst c11
     have H1 : (ref_panels.j1 kj4 l1 a2 t372 4 a0_0 a0_1 a0_2) = some (r1, r2) := by rw [if_pos rfl] at H; exact H
     clear H
     have H := H1
     clear H1
     have H' := Aside0.mk H
     clear H
     go_wp2
     go_meet
     case rel => exact ⟨_, (4), (by first | rfl | (simp; done) | (simp [*]; done)), H', ⟨by have := HJ4.out; first | omega | exact Nat.le_refl _⟩, ⟨bkt BK371.out⟩, ⟨bel HB.out⟩⟩
    ·replace c11 := Bool.eq_false_iff.mpr c11
     subst c11
     have H1 : (ref_panels.j1 kj4 l1 a2 t372 t373 a0_0 a0_1 a0_2) = some (r1, r2) := by rw [if_neg (show ¬ (false = true) by decide)] at H; exact H
     clear H
     have H := H1
     clear H1
     have H' := Aside0.mk H
     clear H
     go_wp2
     go_meet
     case rel => exact ⟨_, (t373), (by first | rfl | (simp; done) | (simp [*]; done)), H', ⟨by have := HJ4.out; first | omega | exact Nat.le_refl _⟩, ⟨bkt BK371.out⟩, ⟨bel HB.out⟩⟩
   case rest =>
    clear HC10
    try clear c1
    try clear p2
    try clear c3
    try clear c4
    try clear c9
    try clear c9b0
    try clear c9b1
    try clear c11
    try clear hcz7_0
    try clear hfz7_0
    try clear p2
    obtain ⟨kq, x9_9, rfl, HA, HJ9, BK371, HB⟩ := hcut
    cases kq with
    | zero => exact absurd HA.out (by simp [ref_panels.j1])
    | succ kj9 =>
     have H := HA.out
     clear HA
     simp only [ref_panels.j1] at H
     by_cases c12 : x9_9 = 0
     ·rw [if_pos c12] at H
      have c12b0 : (x9_9 == 0) = true := beq_iff_eq.mpr c12
      have c12b1 : (x9_9 != 0) = false := bne_eq_false_iff_eq.mpr c12
      clear c12
      have HC13 := Aside0.mk H
      clear H
      go_upto_region 6 with (fail)
      go_cut [36] (fun v36 wc => ∃ (kq : Nat) (x36_12 : Bool), v36 = .bool x36_12 ∧ Aside0 (ref_panels.j2 kq l1 a2 t372 x36_12 a0_0 a0_1 a0_2 = some (r1, r2)) ∧ Aside0 (kq ≤ kj9) ∧ Aside0 (wc.heap[gb371]? = some (.cells #[.int .i64 a0_0, .int .i64 a0_1, .int .i64 a0_2] 23 (0, 0))) ∧ Aside0 (Below w.heap.size w wc))
      case first =>
       have H := HC13.out
       clear HC13
       by_cases c14 : a2 < (-1)
       ·rw [if_pos c14] at H
        have c14b0 : decide (a2 < (-1)) = true := decide_eq_true c14
        clear c14
        (first | rw [c14b0] | (simp only [i64_w, i32_w]; rw [c14b0]) | skip)
        have H' := Aside0.mk H
        clear H
        go_wp2
        go_meet
        case rel => exact ⟨_, (true), (by first | rfl | (simp; done) | (simp [*]; done)), H', ⟨by have := HJ4.out; have := HJ9.out; first | omega | exact Nat.le_refl _⟩, ⟨bkt BK371.out⟩, ⟨bel HB.out⟩⟩
       ·rw [if_neg c14] at H
        have c14b0 : decide (a2 < (-1)) = false := decide_eq_false c14
        clear c14
        (first | rw [c14b0] | (simp only [i64_w, i32_w]; rw [c14b0]) | skip)
        have H' := Aside0.mk H
        clear H
        go_wp2
        go_meet
        case rel => exact ⟨_, (decide (a2 ≥ t372)), (by first | rfl | (simp; done) | (simp [*]; done)), H', ⟨by have := HJ4.out; have := HJ9.out; first | omega | exact Nat.le_refl _⟩, ⟨bkt BK371.out⟩, ⟨bel HB.out⟩⟩
      case rest =>
       clear HC13
       try clear c1
       try clear p2
       try clear c3
       try clear c4
       try clear c9
       try clear c9b0
       try clear c9b1
       try clear c11
       try clear c12
       try clear c12b0
       try clear c12b1
       try clear c14
       try clear c14b0
       try clear hcz7_0
       try clear hfz7_0
       try clear p2
       obtain ⟨kq, x36_12, rfl, HA, HJ12, BK371, HB⟩ := hcut
       cases kq with
       | zero => exact absurd HA.out (by simp [ref_panels.j2])
       | succ kj12 =>
        have H := HA.out
        clear HA
        simp only [ref_panels.j2] at H
        by_cases c15 : x36_12 = true
        ·subst c15
         have H1 : (some (([] : List Int), 2)) = some (r1, r2) := by rw [if_pos rfl] at H; exact H
         clear H
         have H := H1
         clear H1
         simp only [Option.some.injEq, Prod.mk.injEq] at H
         obtain ⟨rfl, rfl⟩ := H
         go_wp2
         go_ret2
         exact ⟨_, by first | rfl | (simp [errW_none, errW_some] <;> rfl) | (simp [*, errW_none, errW_some] <;> rfl), by first | exact Kd.R_nil _ _ _ _ _ | exact Kd.N_nil _ _ _ _ _ | exact Kd.V_nil _ _ _ _ _ | exact Kd.Q_nil _ _ _ _ _ | exact Kd.S_nil _ _ _ _ _, bel HB.out⟩
        ·replace c15 := Bool.eq_false_iff.mpr c15
         subst c15
         have H1 : ((ref_Begin.f kj12 a0_0 a0_1 a0_2 true).bind fun bt374 => (ref_panels.l0 kj12 l1 a2 t372 ([] : List Int) 0 a0_0 a0_1 a0_2 bt374.1 bt374.2.1 bt374.2.2.1 bt374.2.2.2.1 bt374.2.2.2.2.1 bt374.2.2.2.2.2.1)) = some (r1, r2) := by rw [if_neg (show ¬ (false = true) by decide)] at H; exact H
         clear H
         have H := H1
         clear H1
         replace H := Option.bind_eq_some_iff.mp H
         obtain ⟨⟨t374, t375, t376, t377, t378, t379, t380⟩, A160, H⟩ := H
         replace H : (ref_panels.l0 kj12 l1 a2 t372 ([] : List Int) 0 a0_0 a0_1 a0_2 t374 t375 t376 t377 t378 t379) = some (r1, r2) := H
         have A16 := Aside0.mk A160
         clear A160
         have H' := Aside0.mk H
         clear H
         have hcz17_0 := cz3 BK371.out
         have hfz17_0 := blk_frozen BK371.out
         go_wp2_with (first | ((with_reducible refine gate_callee (f := 26) rfl ?_); refine gsl (some 39) Try.func26 #[.agg #[.int .i64 a0_0, .int .i64 a0_1, .int .i64 a0_2], .bool true] ?_; (with_reducible refine (ref_Begin.calls kj12 a0_0 a0_1 a0_2 true t374 t375 t376 t377 t378 t379 t380 _ A16.out).mono ?_); rintro e w18 ⟨rfl, hb⟩; refine ⟨_, rfl, ?_⟩; replace BK371 := Aside0.mk (bkb BK371.out hb); replace HB := Aside0.mk (bst HB.out hb); (try clear hb); (try clear hb2); (try clear hk); (try clear hi)) | ((with_reducible refine gate_dst (N := 10) rfl ?_); (try (refine gate_guard (by rfl) ?_; dsimp only)); refine bxe (cs := #[.int .i64 0, .int .i64 0, .int .i64 0, .int .i64 0, .int .i64 0, .bool false]) (t := 39) ?_; intro gb381 hg w19 hbox hb; have BK381 := Aside0.mk (hbox); have GW381 := Aside0.mk (bge hg HB.out); have GE381 := Aside0.mk (bge hg HB.out); have NB371_381 := Aside0.mk ((bkl hg BK371.out)); have NB381_371 := Aside0.mk ((bkg hg BK371.out)); replace BK371 := Aside0.mk (bkb BK371.out hb); replace HB := Aside0.mk (bst HB.out hb); clear hb hbox hg; have hnb20 := NB381_371.out; have hnc20 := NB371_381.out; have hcz21_0 := cz6 BK381.out; have hfz21_0 := blk_frozen BK381.out))
         go_loopg [12, 13] kj12 (fun kq v12 v13 w' => ∃ (x12_4 : List Int) (x13_4 : Int) (x382000_4 : Int) (x382001_4 : Int) (x382002_4 : Int) (x382003_4 : Int) (x382004_4 : Int) (x382005_4 : Bool), v13 = .int .i64 x13_4 ∧ Aside0 (ref_panels.l0 kq l1 a2 t372 x12_4 x13_4 a0_0 a0_1 a0_2 x382000_4 x382001_4 x382002_4 x382003_4 x382004_4 x382005_4 = some (r1, r2)) ∧ Aside0 (kq ≤ kj12) ∧ Aside0 (Kd.R (Kd.int .i64) 3 w' w.heap.size (fun _ => True) v12 x12_4) ∧ Aside0 (w'.heap[gb371]? = some (.cells #[.int .i64 a0_0, .int .i64 a0_1, .int .i64 a0_2] 23 (0, 0))) ∧ Aside0 (w'.heap[gb381]? = some (.cells #[.int .i64 x382000_4, .int .i64 x382001_4, .int .i64 x382002_4, .int .i64 x382003_4, .int .i64 x382004_4, .bool x382005_4] 39 (0, 0))) ∧ Aside0 (Below w.heap.size w w'))
         case atStart => exact ⟨(([] : List Int)), (0), (t374), (t375), (t376), (t377), (t378), (t379), (by first | rfl | (simp; done) | (simp [*]; done)), H', ⟨Nat.le_refl _⟩, ⟨by first | exact Kd.R_nil _ _ _ _ _ | exact Kd.N_nil _ _ _ _ _ | exact Kd.V_nil _ _ _ _ _ | exact Kd.Q_nil _ _ _ _ _ | exact Kd.S_nil _ _ _ _ _⟩, ⟨bkt BK371.out⟩, ⟨bkt BK381.out⟩, ⟨bel HB.out⟩⟩
         case round =>
          clear H'
          try clear c1
          try clear c2
          try clear p2
          try clear c3
          try clear c4
          try clear c9
          try clear c9b0
          try clear c9b1
          try clear c11
          try clear c12
          try clear c12b0
          try clear c12b1
          try clear c14
          try clear c14b0
          try clear c15
          try clear c20
          try clear hcz17_0
          try clear hcz21_0
          try clear hcz7_0
          try clear hfz17_0
          try clear hfz21_0
          try clear hfz7_0
          try clear p2
          obtain ⟨x12_4, x13_4, x382000_4, x382001_4, x382002_4, x382003_4, x382004_4, x382005_4, rfl, HA, HK4, HO_12, BK371, BK381, HB⟩ := hrel
          cases gk with
          | zero => exact absurd HA.out (by simp [ref_panels.l0])
          | succ k4 =>
           have H := HA.out
           clear HA
           simp only [ref_panels.l0] at H
           by_cases c22 : x13_4 < t372
           ·rw [if_pos c22] at H
            have c22b0 : decide (x13_4 < t372) = true := decide_eq_true c22
            clear c22
            by_cases c23 : x13_4 = a2
            ·rw [if_pos c23] at H
             have c23b0 : (x13_4 == a2) = true := beq_iff_eq.mpr c23
             have c23b1 : (x13_4 != a2) = false := bne_eq_false_iff_eq.mpr c23
             clear c23
             replace H := Option.bind_eq_some_iff.mp H
             obtain ⟨⟨t382, t383, t384, t385, t386, t387, t388⟩, A240, H⟩ := H
             replace H : (if x13_4 < (l1.length : Int) then (if 0 ≤ x13_4 then ((ref_Step.f k4 t382 t383 t384 t385 t386 t387 a0_0 a0_1 a0_2 (rdOf false l1 x13_4)).bind fun bt390 => (if x12_4.length < 17592186044416 then (ref_panels.l0 k4 l1 a2 t372 (x12_4 ++ [bt390.2.1]) (wrap64 (x13_4 + 1)) a0_0 a0_1 a0_2 bt390.1 bt390.2.1 bt390.2.2.1 bt390.2.2.2.1 bt390.2.2.2.2.1 bt390.2.2.2.2.2.1) else (none))) else (none)) else ((ref_Step.f k4 t382 t383 t384 t385 t386 t387 a0_0 a0_1 a0_2 false).bind fun bt401 => (if x12_4.length < 17592186044416 then (ref_panels.l0 k4 l1 a2 t372 (x12_4 ++ [bt401.2.1]) (wrap64 (x13_4 + 1)) a0_0 a0_1 a0_2 bt401.1 bt401.2.1 bt401.2.2.1 bt401.2.2.2.1 bt401.2.2.2.2.1 bt401.2.2.2.2.2.1) else (none)))) = some (r1, r2) := H
             have A24 := Aside0.mk A240
             clear A240
             by_cases c25 : x13_4 < (l1.length : Int)
             ·rw [if_pos c25] at H
              have c25b0 : decide (x13_4 < (l1.length : Int)) = true := decide_eq_true c25
              clear c25
              by_cases c26 : 0 ≤ x13_4
              ·rw [if_pos c26] at H
               have c26b0 : decide (0 ≤ x13_4) = true := decide_eq_true c26
               clear c26
               replace H := Option.bind_eq_some_iff.mp H
               obtain ⟨⟨t390, t391, t392, t393, t394, t395, t396, t397⟩, A270, H⟩ := H
               replace H : (if x12_4.length < 17592186044416 then (ref_panels.l0 k4 l1 a2 t372 (x12_4 ++ [t391]) (wrap64 (x13_4 + 1)) a0_0 a0_1 a0_2 t390 t391 t392 t393 t394 t395) else (none)) = some (r1, r2) := H
               have A27 := Aside0.mk A270
               clear A270
               by_cases c28 : x12_4.length < 17592186044416
               ·rw [if_pos c28] at H
                have LMc28 := Aside0.mk c28
                clear c28
                obtain ⟨y398, hy398⟩ : ∃ y_ : List Int, y_ = (x12_4 ++ [t391]) := ⟨_, rfl⟩
                replace H : (ref_panels.l0 k4 l1 a2 t372 y398 (wrap64 (x13_4 + 1)) a0_0 a0_1 a0_2 t390 t391 t392 t393 t394 t395) = some (r1, r2) := by first | (rw [hy398]; with_reducible exact H) | (have H2_ := (Option.bind_some _ _).symm.trans H; rw [hy398]; with_reducible exact H2_) | (have H2_ := (Option.bind_some _ _).symm.trans H; with_reducible exact H2_) | with_reducible exact H | (rw [hy398]; exact H) | exact H
                have Ny398 := Aside0.mk hy398
                clear hy398
                have H' := Aside0.mk H
                clear H
                have hnb29 := NB381_371.out
                have hnc29 := NB371_381.out
                have hcz30_0 := cz6 BK381.out
                have hfz30_0 := blk_frozen BK381.out
                have hcz31_0 := cz3 BK371.out
                have hfz31_0 := blk_frozen BK371.out
                try go_wp2_with (first | ((with_reducible refine gate_callee (f := 30) rfl ?_); refine gsl (some 53) Try.func30 #[.agg #[.int .i64 x382000_4, .int .i64 x382001_4, .int .i64 x382002_4, .int .i64 x382003_4, .int .i64 x382004_4, .bool x382005_4], .agg #[.int .i64 a0_0, .int .i64 a0_1, .int .i64 a0_2]] ?_; (with_reducible refine (ref_Force.calls k4 x382000_4 x382001_4 x382002_4 x382003_4 x382004_4 x382005_4 a0_0 a0_1 a0_2 t382 t383 t384 t385 t386 t387 t388 _ A24.out).mono ?_); rintro e w32 ⟨rfl, hb⟩; refine ⟨_, rfl, ?_⟩; replace HO_12 := Aside0.mk (Kd.R_below (kdt HO_12.out) hb); replace BK371 := Aside0.mk (bkb BK371.out hb); replace BK381 := Aside0.mk (bkb BK381.out hb); replace HB := Aside0.mk (bst HB.out hb); (try clear hb); (try clear hb2); (try clear hk); (try clear hi); have hcz33_0 := cz6 BK381.out; have hfz33_0 := blk_frozen BK381.out))
                have n0_ : Aside0 (Kd.R (Kd.int .i64) 3 ((((((w32.setCell ⟨gb381, 0, none⟩ (.int .i64 t382)).setCell ⟨gb381, 1, none⟩ (.int .i64 t383)).setCell ⟨gb381, 2, none⟩ (.int .i64 t384)).setCell ⟨gb381, 3, none⟩ (.int .i64 t385)).setCell ⟨gb381, 4, none⟩ (.int .i64 t386)).setCell ⟨gb381, 5, none⟩ (.bool t387)) w.heap.size (fun _ => True) u12 x12_4) := ⟨by (with_reducible repeat (first | apply Kd.R_alloc | apply Kd.R_drewN | apply Kd.R_drew)); exact Kd.R_mono (Kd.R_far (p := ⟨gb381, 5, none⟩) (Kd.R_far (p := ⟨gb381, 4, none⟩) (Kd.R_far (p := ⟨gb381, 3, none⟩) (Kd.R_far (p := ⟨gb381, 2, none⟩) (Kd.R_far (p := ⟨gb381, 1, none⟩) (Kd.R_far (p := ⟨gb381, 0, none⟩) (Kd.R_types HO_12.out BK381.out (by decide)) (fun _ hk => hk.2) (.int .i64 t382)) (fun _ hk => hk.2) (.int .i64 t383)) (fun _ hk => hk.2) (.int .i64 t384)) (fun _ hk => hk.2) (.int .i64 t385)) (fun _ hk => hk.2) (.int .i64 t386)) (fun _ hk => hk.2) (.bool t387)) (fun _ hk => trivial)⟩
                have n1_ : Aside0 (((((((w32.setCell ⟨gb381, 0, none⟩ (.int .i64 t382)).setCell ⟨gb381, 1, none⟩ (.int .i64 t383)).setCell ⟨gb381, 2, none⟩ (.int .i64 t384)).setCell ⟨gb381, 3, none⟩ (.int .i64 t385)).setCell ⟨gb381, 4, none⟩ (.int .i64 t386)).setCell ⟨gb381, 5, none⟩ (.bool t387)).heap[gb371]? = some (.cells #[.int .i64 a0_0, .int .i64 a0_1, .int .i64 a0_2] 23 (0, 0))) := ⟨bkt BK371.out⟩
                have n2_ : Aside0 (((((((w32.setCell ⟨gb381, 0, none⟩ (.int .i64 t382)).setCell ⟨gb381, 1, none⟩ (.int .i64 t383)).setCell ⟨gb381, 2, none⟩ (.int .i64 t384)).setCell ⟨gb381, 3, none⟩ (.int .i64 t385)).setCell ⟨gb381, 4, none⟩ (.int .i64 t386)).setCell ⟨gb381, 5, none⟩ (.bool t387)).heap[gb381]? = some (.cells #[.int .i64 t382, .int .i64 t383, .int .i64 t384, .int .i64 t385, .int .i64 t386, .bool t387] 39 (0, 0))) := ⟨bkt BK381.out⟩
                have n3_ : Aside0 (Below w.heap.size w ((((((w32.setCell ⟨gb381, 0, none⟩ (.int .i64 t382)).setCell ⟨gb381, 1, none⟩ (.int .i64 t383)).setCell ⟨gb381, 2, none⟩ (.int .i64 t384)).setCell ⟨gb381, 3, none⟩ (.int .i64 t385)).setCell ⟨gb381, 4, none⟩ (.int .i64 t386)).setCell ⟨gb381, 5, none⟩ (.bool t387))) := ⟨bel HB.out⟩
                (try clear HO_12)
                (try clear BK371)
                (try clear BK381)
                (try clear HB)
                generalize ((((((w32.setCell ⟨gb381, 0, none⟩ (.int .i64 t382)).setCell ⟨gb381, 1, none⟩ (.int .i64 t383)).setCell ⟨gb381, 2, none⟩ (.int .i64 t384)).setCell ⟨gb381, 3, none⟩ (.int .i64 t385)).setCell ⟨gb381, 4, none⟩ (.int .i64 t386)).setCell ⟨gb381, 5, none⟩ (.bool t387)) = w34 at n0_ n1_ n2_ n3_ ⊢
                have HO_12 := n0_
                have BK371 := n1_
                have BK381 := n2_
                have HB := n3_
                clear n0_ n1_ n2_ n3_
                have n0_ := Aside0.mk (Kd.R_drew HO_12.out)
                have n1_ := Aside0.mk (blk_drew BK371.out)
                have n2_ := Aside0.mk (blk_drew BK381.out)
                have n3_ := Aside0.mk (below_drew1 HB.out)
                clear HO_12
                clear BK371
                clear BK381
                clear HB
                have HO_12 := n0_
                have BK371 := n1_
                have BK381 := n2_
                have HB := n3_
                clear n0_ n1_ n2_ n3_
                have p389 : 0 ≤ (x13_4 : Int) := of_decide_eq_true (by first | (with_reducible assumption) | assumption)
                have q389 : x13_4 < (l1.length : Int) := of_decide_eq_true (by first | (with_reducible assumption) | assumption)
                obtain ⟨ad389, e389, hx389_0⟩ := Kd.at_bool HR1.out x13_4 p389 q389
                have hw389_0 := hx389_0
                cases e389
                replace hx389_0 := (HB.out.cell (World.block_lt_of_cell? w _ hx389_0)).trans hx389_0
                replace p389 := eq_true p389
                replace q389 := eq_true q389
                refine start_ (n := 18) (S := fun w' => w'.cell? ⟨gb381, 0, none⟩ = some (.int .i64 t382) ∧ w'.cell? ⟨gb381, 1, none⟩ = some (.int .i64 t383) ∧ w'.cell? ⟨gb381, 2, none⟩ = some (.int .i64 t384) ∧ w'.cell? ⟨gb381, 3, none⟩ = some (.int .i64 t385) ∧ w'.cell? ⟨gb381, 4, none⟩ = some (.int .i64 t386) ∧ w'.cell? ⟨gb381, 5, none⟩ = some (.bool t387) ∧ w'.cell? ⟨gb371, 0, none⟩ = some (.int .i64 a0_0) ∧ w'.cell? ⟨gb371, 1, none⟩ = some (.int .i64 a0_1) ∧ w'.cell? ⟨gb371, 2, none⟩ = some (.int .i64 a0_2) ∧ w'.cell? (ad389.add (x13_4).toNat) = some (.bool (rdOf false l1 x13_4))) (ds := [17]) #[false, false, false, false, false, false, false, false, false, false, false, false, false, false, false, false, false, false] (by kernel_rfl) rfl rfl ⟨(blk_cell BK381.out 0).trans rfl, (blk_cell BK381.out 1).trans rfl, (blk_cell BK381.out 2).trans rfl, (blk_cell BK381.out 3).trans rfl, (blk_cell BK381.out 4).trans rfl, (blk_cell BK381.out 5).trans rfl, (blk_cell BK371.out 0).trans rfl, (blk_cell BK371.out 1).trans rfl, (blk_cell BK371.out 2).trans rfl, ((HB.out.cell (World.block_lt_of_cell? w _ hw389_0)).trans hw389_0)⟩ (fun hHeld => ?_); refine with_tabW ref_panels.tab15 ref_panels.bits15 (fun HT_ HW_ => ?_)
                generalize w34.drew = w35 at HO_12 BK371 BK381 HB hx389_0 hHeld ⊢
                refine pur 2 (some 59) (bm 18 4) HT_.out ?_
                refine pur 3 (some 60) (bm 18 12) HT_.out ?_
                refine pur 4 (some 61) (bm 18 28) HT_.out ?_
                refine pur 5 (some 62) (bm 18 60) HT_.out ?_
                refine pur 6 (some 63) (bm 18 124) HT_.out ?_
                refine pur 7 (some 64) (bm 18 252) HT_.out ?_
                refine pur 8 (some 65) (bm 18 508) HT_.out ?_
                refine pur 9 (some 66) (bm 18 1020) HT_.out ?_
                refine tkp 0 (some 57) (bm 18 1021) HT_.out HW_.out hHeld ?_
                refine tkp 1 (some 58) (bm 18 1023) HT_.out HW_.out hHeld ?_
                refine tkp 10 (some 67) (bm 18 2047) HT_.out HW_.out hHeld ?_
                refine pur 11 (some 68) (bm 18 4095) HT_.out ?_
                refine one_ (i := 12) (N := some 69) (bm 18 8191) rfl rfl (one_of HT_.out (by kernel_rfl)) (by decide) (fun K hK => ?_)
                refine goes_ Try.func28 (by kernel_rfl) rfl #[.agg #[.int .i64 t382, .int .i64 t383, .int .i64 t384, .int .i64 t385, .int .i64 t386, .bool t387], .agg #[.int .i64 a0_0, .int .i64 a0_1, .int .i64 a0_2], .bool (rdOf false l1 x13_4)] (by rfl) rfl rfl (by (try simp only [List.map_toArray, List.map_cons, List.map_nil]); first | done | rfl | (simp only [List.length_drop, List.length_take]; rfl)) ?_
                with_reducible refine (ref_Step.calls k4 t382 t383 t384 t385 t386 t387 a0_0 a0_1 a0_2 (rdOf false l1 x13_4) t390 t391 t392 t393 t394 t395 t396 t397 _ A27.out).mono ?_
                rintro e w36 ⟨rfl, hb⟩
                refine ⟨_, rfl, ?_⟩
                have n0_ := Aside0.mk (Kd.R_below (kdt HO_12.out) hb)
                have n1_ := Aside0.mk (bkb BK371.out hb)
                have n2_ := Aside0.mk (bkb BK381.out hb)
                have n3_ := Aside0.mk (bst HB.out hb)
                clear HO_12
                clear BK371
                clear BK381
                clear HB
                have HO_12 := n0_
                have BK371 := n1_
                have BK381 := n2_
                have HB := n3_
                clear n0_ n1_ n2_ n3_
                (try clear hb)
                (try clear hb2)
                (try clear hk)
                (try clear hi)
                refine hK.out _ _ ⟨(blk_cell BK381.out 0).trans rfl, (blk_cell BK381.out 1).trans rfl, (blk_cell BK381.out 2).trans rfl, (blk_cell BK381.out 3).trans rfl, (blk_cell BK381.out 4).trans rfl, (blk_cell BK381.out 5).trans rfl, (blk_cell BK371.out 0).trans rfl, (blk_cell BK371.out 1).trans rfl, (blk_cell BK371.out 2).trans rfl, ((HB.out.cell (World.block_lt_of_cell? w _ hw389_0)).trans hw389_0)⟩ (fun hHeld => ?_)
                clear hK K
                refine norm_ (a' := ?_) ?_ ?_
                rotate_left
                ·show Act.put _ (some 69) _ = _
                 simp only [Act.put, List.setIfInBounds_toArray, List.set_cons_zero, List.set_cons_succ, i64_w, i32_w]
                 rfl
                refine pur 13 (some 56) (bm 18 16383) HT_.out ?_
                refine pur 14 (some 70) (bm 18 32767) HT_.out ?_
                refine pur 15 (some 71) (bm 18 65535) HT_.out ?_
                refine pur 16 (some 72) (bm 18 131071) HT_.out ?_
                refine last_ (i := 17) (N := none) #[true, true, true, true, true, true, true, true, true, true, true, true, true, true, true, true, true, true] rfl rfl (one_of HT_.out (by kernel_rfl)) (by decide) (fun K hK => ?_)
                have hs37 : w36.cell? ⟨gb381, 0, none⟩ = some (.int .i64 t382) := (blk_cell BK381.out 0).trans rfl
                have hfs37 := blk_frozen BK381.out 0
                have hns37_0 := NB371_381.out
                have hms37_0 := NB381_371.out
                have hs38 : w36.cell? ⟨gb381, 1, none⟩ = some (.int .i64 t383) := (blk_cell BK381.out 1).trans rfl
                have hfs38 := blk_frozen BK381.out 1
                have hns38_0 := NB371_381.out
                have hms38_0 := NB381_371.out
                have hs39 : w36.cell? ⟨gb381, 2, none⟩ = some (.int .i64 t384) := (blk_cell BK381.out 2).trans rfl
                have hfs39 := blk_frozen BK381.out 2
                have hns39_0 := NB371_381.out
                have hms39_0 := NB381_371.out
                have hs40 : w36.cell? ⟨gb381, 3, none⟩ = some (.int .i64 t385) := (blk_cell BK381.out 3).trans rfl
                have hfs40 := blk_frozen BK381.out 3
                have hns40_0 := NB371_381.out
                have hms40_0 := NB381_371.out
                have hs41 : w36.cell? ⟨gb381, 4, none⟩ = some (.int .i64 t386) := (blk_cell BK381.out 4).trans rfl
                have hfs41 := blk_frozen BK381.out 4
                have hns41_0 := NB371_381.out
                have hms41_0 := NB381_371.out
                have hs42 : w36.cell? ⟨gb381, 5, none⟩ = some (.bool t387) := (blk_cell BK381.out 5).trans rfl
                have hfs42 := blk_frozen BK381.out 5
                have hns42_0 := NB371_381.out
                have hms42_0 := NB381_371.out
                refine skip_ (w1 := ?_) (by rfl) rfl ?_ ?_
                rotate_left
                ·go_simp
                 rfl
                refine hK.out _ _ ?_
                clear hK K
                refine done_ (done_of HT_.out (by kernel_rfl)) ?_
                have hcz43_0 := cz6 BK381.out
                have hfz43_0 := blk_frozen BK381.out
                try go_wp2_with (first | ((with_reducible refine gate_builtin (b := .append) (xs := #[.tmp 73, .tmp 77]) rfl ?_); (try (refine gate_guard (by rfl) ?_; dsimp only)); at_builtin; refine Kd.R_append (Kd.int .i64) (w0 := w) w.heap.size rfl (.tmp 73) (.tmp 77) 27 3 (.int .i64 0) 8 rfl Try.underlying27 info3 rfl (by decide) (by omega) u12 x12_4 t391 [.int .i64 t391] (fun _ => True) (fun _ => False) rfl (by first | (go_simp; done) | (go_simp; rfl)) ?aP (fun _ hk => hk.elim) ?aF ?aO ?aB ?aS ?aL ?_; (case aP => exact rfl); (case aB => exact (bel HB.out)); (case aF => exact (fun _ _ => trivial)); (case aO => exact (by (with_reducible repeat (first | apply Kd.R_alloc | apply Kd.R_drewN | apply Kd.R_drew)); exact Kd.R_mono (Kd.R_far (p := ⟨gb381, 5, none⟩) (Kd.R_far (p := ⟨gb381, 4, none⟩) (Kd.R_far (p := ⟨gb381, 3, none⟩) (Kd.R_far (p := ⟨gb381, 2, none⟩) (Kd.R_far (p := ⟨gb381, 1, none⟩) (Kd.R_far (p := ⟨gb381, 0, none⟩) (Kd.R_types HO_12.out BK381.out (by decide)) (fun _ hk => hk.2) (.int .i64 t390)) (fun _ hk => hk.2) (.int .i64 t391)) (fun _ hk => hk.2) (.int .i64 t392)) (fun _ hk => hk.2) (.int .i64 t393)) (fun _ hk => hk.2) (.int .i64 t394)) (fun _ hk => hk.2) (.bool t395)) (fun _ hk => trivial))); (case aS => exact (bsz HB.out)); (case aL => have := LMc28.out; omega); intro v399 w44 ho hb hg hat; rw [← Ny398.out] at ho; have n0_ := Aside0.mk (blk_grown (g := gb371) (o := .cells #[.int .i64 a0_0, .int .i64 a0_1, .int .i64 a0_2] 23 (0, 0)) (bkt BK371.out) hg (Kd.R_ne HO_12.out BK371.out (by decide))); have n1_ := Aside0.mk (blk_grown (g := gb381) (o := .cells #[.int .i64 t390, .int .i64 t391, .int .i64 t392, .int .i64 t393, .int .i64 t394, .bool t395] 39 (0, 0)) (bkt BK381.out) hg (Kd.R_ne HO_12.out BK381.out (by decide))); have n2_ := Aside0.mk (hb); have n3_ := Aside0.mk (ho); clear BK371; clear BK381; clear HB; clear HO_12; have BK371 := n0_; have BK381 := n1_; have HB := n2_; have HO400 := n3_; clear n0_ n1_ n2_ n3_; clear ho hb hg hat))
                go_roundg k4
                case measure => have := HJ4.out; have := HJ9.out; have := HJ12.out; have := HK4.out; omega
                case rel => exact ⟨(y398), (wrap64 (x13_4 + 1)), (t390), (t391), (t392), (t393), (t394), (t395), (by first | rfl | (simp; done) | (simp [*]; done)), H', ⟨by have := HJ4.out; have := HJ9.out; have := HJ12.out; have := HK4.out; omega⟩, ⟨kdt HO400.out⟩, ⟨bkt BK371.out⟩, ⟨bkt BK381.out⟩, ⟨bel HB.out⟩⟩
               ·rw [if_neg c28] at H
                exact absurd H (by simp)
              ·rw [if_neg c26] at H
               exact absurd H (by simp)
             ·rw [if_neg c25] at H
              have c25b0 : decide (x13_4 < (l1.length : Int)) = false := decide_eq_false c25
              clear c25
              replace H := Option.bind_eq_some_iff.mp H
              obtain ⟨⟨t401, t402, t403, t404, t405, t406, t407, t408⟩, A450, H⟩ := H
              replace H : (if x12_4.length < 17592186044416 then (ref_panels.l0 k4 l1 a2 t372 (x12_4 ++ [t402]) (wrap64 (x13_4 + 1)) a0_0 a0_1 a0_2 t401 t402 t403 t404 t405 t406) else (none)) = some (r1, r2) := H
              have A45 := Aside0.mk A450
              clear A450
              by_cases c46 : x12_4.length < 17592186044416
              ·rw [if_pos c46] at H
               have LMc46 := Aside0.mk c46
               clear c46
               obtain ⟨y409, hy409⟩ : ∃ y_ : List Int, y_ = (x12_4 ++ [t402]) := ⟨_, rfl⟩
               replace H : (ref_panels.l0 k4 l1 a2 t372 y409 (wrap64 (x13_4 + 1)) a0_0 a0_1 a0_2 t401 t402 t403 t404 t405 t406) = some (r1, r2) := by first | (rw [hy409]; with_reducible exact H) | (have H2_ := (Option.bind_some _ _).symm.trans H; rw [hy409]; with_reducible exact H2_) | (have H2_ := (Option.bind_some _ _).symm.trans H; with_reducible exact H2_) | with_reducible exact H | (rw [hy409]; exact H) | exact H
               have Ny409 := Aside0.mk hy409
               clear hy409
               have H' := Aside0.mk H
               clear H
               have hnb47 := NB381_371.out
               have hnc47 := NB371_381.out
               have hcz48_0 := cz6 BK381.out
               have hfz48_0 := blk_frozen BK381.out
               have hcz49_0 := cz3 BK371.out
               have hfz49_0 := blk_frozen BK371.out
               try go_wp2_with (first | ((with_reducible refine gate_callee (f := 30) rfl ?_); refine gsl (some 53) Try.func30 #[.agg #[.int .i64 x382000_4, .int .i64 x382001_4, .int .i64 x382002_4, .int .i64 x382003_4, .int .i64 x382004_4, .bool x382005_4], .agg #[.int .i64 a0_0, .int .i64 a0_1, .int .i64 a0_2]] ?_; (with_reducible refine (ref_Force.calls k4 x382000_4 x382001_4 x382002_4 x382003_4 x382004_4 x382005_4 a0_0 a0_1 a0_2 t382 t383 t384 t385 t386 t387 t388 _ A24.out).mono ?_); rintro e w50 ⟨rfl, hb⟩; refine ⟨_, rfl, ?_⟩; replace HO_12 := Aside0.mk (Kd.R_below (kdt HO_12.out) hb); replace BK371 := Aside0.mk (bkb BK371.out hb); replace BK381 := Aside0.mk (bkb BK381.out hb); replace HB := Aside0.mk (bst HB.out hb); (try clear hb); (try clear hb2); (try clear hk); (try clear hi); have hcz51_0 := cz6 BK381.out; have hfz51_0 := blk_frozen BK381.out))
               have n0_ : Aside0 (Kd.R (Kd.int .i64) 3 ((((((w50.setCell ⟨gb381, 0, none⟩ (.int .i64 t382)).setCell ⟨gb381, 1, none⟩ (.int .i64 t383)).setCell ⟨gb381, 2, none⟩ (.int .i64 t384)).setCell ⟨gb381, 3, none⟩ (.int .i64 t385)).setCell ⟨gb381, 4, none⟩ (.int .i64 t386)).setCell ⟨gb381, 5, none⟩ (.bool t387)) w.heap.size (fun _ => True) u12 x12_4) := ⟨by (with_reducible repeat (first | apply Kd.R_alloc | apply Kd.R_drewN | apply Kd.R_drew)); exact Kd.R_mono (Kd.R_far (p := ⟨gb381, 5, none⟩) (Kd.R_far (p := ⟨gb381, 4, none⟩) (Kd.R_far (p := ⟨gb381, 3, none⟩) (Kd.R_far (p := ⟨gb381, 2, none⟩) (Kd.R_far (p := ⟨gb381, 1, none⟩) (Kd.R_far (p := ⟨gb381, 0, none⟩) (Kd.R_types HO_12.out BK381.out (by decide)) (fun _ hk => hk.2) (.int .i64 t382)) (fun _ hk => hk.2) (.int .i64 t383)) (fun _ hk => hk.2) (.int .i64 t384)) (fun _ hk => hk.2) (.int .i64 t385)) (fun _ hk => hk.2) (.int .i64 t386)) (fun _ hk => hk.2) (.bool t387)) (fun _ hk => trivial)⟩
               have n1_ : Aside0 (((((((w50.setCell ⟨gb381, 0, none⟩ (.int .i64 t382)).setCell ⟨gb381, 1, none⟩ (.int .i64 t383)).setCell ⟨gb381, 2, none⟩ (.int .i64 t384)).setCell ⟨gb381, 3, none⟩ (.int .i64 t385)).setCell ⟨gb381, 4, none⟩ (.int .i64 t386)).setCell ⟨gb381, 5, none⟩ (.bool t387)).heap[gb371]? = some (.cells #[.int .i64 a0_0, .int .i64 a0_1, .int .i64 a0_2] 23 (0, 0))) := ⟨bkt BK371.out⟩
               have n2_ : Aside0 (((((((w50.setCell ⟨gb381, 0, none⟩ (.int .i64 t382)).setCell ⟨gb381, 1, none⟩ (.int .i64 t383)).setCell ⟨gb381, 2, none⟩ (.int .i64 t384)).setCell ⟨gb381, 3, none⟩ (.int .i64 t385)).setCell ⟨gb381, 4, none⟩ (.int .i64 t386)).setCell ⟨gb381, 5, none⟩ (.bool t387)).heap[gb381]? = some (.cells #[.int .i64 t382, .int .i64 t383, .int .i64 t384, .int .i64 t385, .int .i64 t386, .bool t387] 39 (0, 0))) := ⟨bkt BK381.out⟩
               have n3_ : Aside0 (Below w.heap.size w ((((((w50.setCell ⟨gb381, 0, none⟩ (.int .i64 t382)).setCell ⟨gb381, 1, none⟩ (.int .i64 t383)).setCell ⟨gb381, 2, none⟩ (.int .i64 t384)).setCell ⟨gb381, 3, none⟩ (.int .i64 t385)).setCell ⟨gb381, 4, none⟩ (.int .i64 t386)).setCell ⟨gb381, 5, none⟩ (.bool t387))) := ⟨bel HB.out⟩
               (try clear HO_12)
               (try clear BK371)
               (try clear BK381)
               (try clear HB)
               generalize ((((((w50.setCell ⟨gb381, 0, none⟩ (.int .i64 t382)).setCell ⟨gb381, 1, none⟩ (.int .i64 t383)).setCell ⟨gb381, 2, none⟩ (.int .i64 t384)).setCell ⟨gb381, 3, none⟩ (.int .i64 t385)).setCell ⟨gb381, 4, none⟩ (.int .i64 t386)).setCell ⟨gb381, 5, none⟩ (.bool t387)) = w52 at n0_ n1_ n2_ n3_ ⊢
               have HO_12 := n0_
               have BK371 := n1_
               have BK381 := n2_
               have HB := n3_
               clear n0_ n1_ n2_ n3_
               have n0_ := Aside0.mk (Kd.R_drew HO_12.out)
               have n1_ := Aside0.mk (blk_drew BK371.out)
               have n2_ := Aside0.mk (blk_drew BK381.out)
               have n3_ := Aside0.mk (below_drew1 HB.out)
               clear HO_12
               clear BK371
               clear BK381
               clear HB
               have HO_12 := n0_
               have BK371 := n1_
               have BK381 := n2_
               have HB := n3_
               clear n0_ n1_ n2_ n3_
               refine start_ (n := 18) (S := fun w' => w'.cell? ⟨gb381, 0, none⟩ = some (.int .i64 t382) ∧ w'.cell? ⟨gb381, 1, none⟩ = some (.int .i64 t383) ∧ w'.cell? ⟨gb381, 2, none⟩ = some (.int .i64 t384) ∧ w'.cell? ⟨gb381, 3, none⟩ = some (.int .i64 t385) ∧ w'.cell? ⟨gb381, 4, none⟩ = some (.int .i64 t386) ∧ w'.cell? ⟨gb381, 5, none⟩ = some (.bool t387) ∧ w'.cell? ⟨gb371, 0, none⟩ = some (.int .i64 a0_0) ∧ w'.cell? ⟨gb371, 1, none⟩ = some (.int .i64 a0_1) ∧ w'.cell? ⟨gb371, 2, none⟩ = some (.int .i64 a0_2)) (ds := [17]) #[false, false, false, false, false, false, false, false, false, false, false, false, false, false, false, false, false, false] (by kernel_rfl) rfl rfl ⟨(blk_cell BK381.out 0).trans rfl, (blk_cell BK381.out 1).trans rfl, (blk_cell BK381.out 2).trans rfl, (blk_cell BK381.out 3).trans rfl, (blk_cell BK381.out 4).trans rfl, (blk_cell BK381.out 5).trans rfl, (blk_cell BK371.out 0).trans rfl, (blk_cell BK371.out 1).trans rfl, (blk_cell BK371.out 2).trans rfl⟩ (fun hHeld => ?_); refine with_tabW ref_panels.tab15 ref_panels.bits15 (fun HT_ HW_ => ?_)
               generalize w52.drew = w53 at HO_12 BK371 BK381 HB hHeld ⊢
               refine pur 2 (some 59) (bm 18 4) HT_.out ?_
               refine pur 3 (some 60) (bm 18 12) HT_.out ?_
               refine pur 4 (some 61) (bm 18 28) HT_.out ?_
               refine pur 5 (some 62) (bm 18 60) HT_.out ?_
               refine pur 6 (some 63) (bm 18 124) HT_.out ?_
               refine purn 7 (some 64) (bm 18 252) HT_.out ?_
               refine purn 8 (some 65) (bm 18 508) HT_.out ?_
               refine purn 9 (some 66) (bm 18 1020) HT_.out ?_
               refine purn 10 (some 67) (bm 18 2044) HT_.out ?_
               refine pur 11 (some 68) (bm 18 4092) HT_.out ?_
               refine tkp 0 (some 57) (bm 18 4093) HT_.out HW_.out hHeld ?_
               refine tkp 1 (some 58) (bm 18 4095) HT_.out HW_.out hHeld ?_
               refine one_ (i := 12) (N := some 69) (bm 18 8191) rfl rfl (one_of HT_.out (by kernel_rfl)) (by decide) (fun K hK => ?_)
               refine goes_ Try.func28 (by kernel_rfl) rfl #[.agg #[.int .i64 t382, .int .i64 t383, .int .i64 t384, .int .i64 t385, .int .i64 t386, .bool t387], .agg #[.int .i64 a0_0, .int .i64 a0_1, .int .i64 a0_2], .bool false] (by rfl) rfl rfl (by (try simp only [List.map_toArray, List.map_cons, List.map_nil]); first | done | rfl | (simp only [List.length_drop, List.length_take]; rfl)) ?_
               with_reducible refine (ref_Step.calls k4 t382 t383 t384 t385 t386 t387 a0_0 a0_1 a0_2 false t401 t402 t403 t404 t405 t406 t407 t408 _ A45.out).mono ?_
               rintro e w54 ⟨rfl, hb⟩
               refine ⟨_, rfl, ?_⟩
               have n0_ := Aside0.mk (Kd.R_below (kdt HO_12.out) hb)
               have n1_ := Aside0.mk (bkb BK371.out hb)
               have n2_ := Aside0.mk (bkb BK381.out hb)
               have n3_ := Aside0.mk (bst HB.out hb)
               clear HO_12
               clear BK371
               clear BK381
               clear HB
               have HO_12 := n0_
               have BK371 := n1_
               have BK381 := n2_
               have HB := n3_
               clear n0_ n1_ n2_ n3_
               (try clear hb)
               (try clear hb2)
               (try clear hk)
               (try clear hi)
               refine hK.out _ _ ⟨(blk_cell BK381.out 0).trans rfl, (blk_cell BK381.out 1).trans rfl, (blk_cell BK381.out 2).trans rfl, (blk_cell BK381.out 3).trans rfl, (blk_cell BK381.out 4).trans rfl, (blk_cell BK381.out 5).trans rfl, (blk_cell BK371.out 0).trans rfl, (blk_cell BK371.out 1).trans rfl, (blk_cell BK371.out 2).trans rfl⟩ (fun hHeld => ?_)
               clear hK K
               refine norm_ (a' := ?_) ?_ ?_
               rotate_left
               ·show Act.put _ (some 69) _ = _
                simp only [Act.put, List.setIfInBounds_toArray, List.set_cons_zero, List.set_cons_succ, i64_w, i32_w]
                rfl
               refine pur 13 (some 56) (bm 18 16383) HT_.out ?_
               refine pur 14 (some 70) (bm 18 32767) HT_.out ?_
               refine pur 15 (some 71) (bm 18 65535) HT_.out ?_
               refine pur 16 (some 72) (bm 18 131071) HT_.out ?_
               refine last_ (i := 17) (N := none) #[true, true, true, true, true, true, true, true, true, true, true, true, true, true, true, true, true, true] rfl rfl (one_of HT_.out (by kernel_rfl)) (by decide) (fun K hK => ?_)
               have hs55 : w54.cell? ⟨gb381, 0, none⟩ = some (.int .i64 t382) := (blk_cell BK381.out 0).trans rfl
               have hfs55 := blk_frozen BK381.out 0
               have hns55_0 := NB371_381.out
               have hms55_0 := NB381_371.out
               have hs56 : w54.cell? ⟨gb381, 1, none⟩ = some (.int .i64 t383) := (blk_cell BK381.out 1).trans rfl
               have hfs56 := blk_frozen BK381.out 1
               have hns56_0 := NB371_381.out
               have hms56_0 := NB381_371.out
               have hs57 : w54.cell? ⟨gb381, 2, none⟩ = some (.int .i64 t384) := (blk_cell BK381.out 2).trans rfl
               have hfs57 := blk_frozen BK381.out 2
               have hns57_0 := NB371_381.out
               have hms57_0 := NB381_371.out
               have hs58 : w54.cell? ⟨gb381, 3, none⟩ = some (.int .i64 t385) := (blk_cell BK381.out 3).trans rfl
               have hfs58 := blk_frozen BK381.out 3
               have hns58_0 := NB371_381.out
               have hms58_0 := NB381_371.out
               have hs59 : w54.cell? ⟨gb381, 4, none⟩ = some (.int .i64 t386) := (blk_cell BK381.out 4).trans rfl
               have hfs59 := blk_frozen BK381.out 4
               have hns59_0 := NB371_381.out
               have hms59_0 := NB381_371.out
               have hs60 : w54.cell? ⟨gb381, 5, none⟩ = some (.bool t387) := (blk_cell BK381.out 5).trans rfl
               have hfs60 := blk_frozen BK381.out 5
               have hns60_0 := NB371_381.out
               have hms60_0 := NB381_371.out
               refine skip_ (w1 := ?_) (by rfl) rfl ?_ ?_
               rotate_left
               ·go_simp
                rfl
               refine hK.out _ _ ?_
               clear hK K
               refine done_ (done_of HT_.out (by kernel_rfl)) ?_
               have hcz61_0 := cz6 BK381.out
               have hfz61_0 := blk_frozen BK381.out
               try go_wp2_with (first | ((with_reducible refine gate_builtin (b := .append) (xs := #[.tmp 73, .tmp 77]) rfl ?_); (try (refine gate_guard (by rfl) ?_; dsimp only)); at_builtin; refine Kd.R_append (Kd.int .i64) (w0 := w) w.heap.size rfl (.tmp 73) (.tmp 77) 27 3 (.int .i64 0) 8 rfl Try.underlying27 info3 rfl (by decide) (by omega) u12 x12_4 t402 [.int .i64 t402] (fun _ => True) (fun _ => False) rfl (by first | (go_simp; done) | (go_simp; rfl)) ?aP (fun _ hk => hk.elim) ?aF ?aO ?aB ?aS ?aL ?_; (case aP => exact rfl); (case aB => exact (bel HB.out)); (case aF => exact (fun _ _ => trivial)); (case aO => exact (by (with_reducible repeat (first | apply Kd.R_alloc | apply Kd.R_drewN | apply Kd.R_drew)); exact Kd.R_mono (Kd.R_far (p := ⟨gb381, 5, none⟩) (Kd.R_far (p := ⟨gb381, 4, none⟩) (Kd.R_far (p := ⟨gb381, 3, none⟩) (Kd.R_far (p := ⟨gb381, 2, none⟩) (Kd.R_far (p := ⟨gb381, 1, none⟩) (Kd.R_far (p := ⟨gb381, 0, none⟩) (Kd.R_types HO_12.out BK381.out (by decide)) (fun _ hk => hk.2) (.int .i64 t401)) (fun _ hk => hk.2) (.int .i64 t402)) (fun _ hk => hk.2) (.int .i64 t403)) (fun _ hk => hk.2) (.int .i64 t404)) (fun _ hk => hk.2) (.int .i64 t405)) (fun _ hk => hk.2) (.bool t406)) (fun _ hk => trivial))); (case aS => exact (bsz HB.out)); (case aL => have := LMc46.out; omega); intro v410 w62 ho hb hg hat; rw [← Ny409.out] at ho; have n0_ := Aside0.mk (blk_grown (g := gb371) (o := .cells #[.int .i64 a0_0, .int .i64 a0_1, .int .i64 a0_2] 23 (0, 0)) (bkt BK371.out) hg (Kd.R_ne HO_12.out BK371.out (by decide))); have n1_ := Aside0.mk (blk_grown (g := gb381) (o := .cells #[.int .i64 t401, .int .i64 t402, .int .i64 t403, .int .i64 t404, .int .i64 t405, .bool t406] 39 (0, 0)) (bkt BK381.out) hg (Kd.R_ne HO_12.out BK381.out (by decide))); have n2_ := Aside0.mk (hb); have n3_ := Aside0.mk (ho); clear BK371; clear BK381; clear HB; clear HO_12; have BK371 := n0_; have BK381 := n1_; have HB := n2_; have HO411 := n3_; clear n0_ n1_ n2_ n3_; clear ho hb hg hat))
               go_roundg k4
               case measure => have := HJ4.out; have := HJ9.out; have := HJ12.out; have := HK4.out; omega
               case rel => exact ⟨(y409), (wrap64 (x13_4 + 1)), (t401), (t402), (t403), (t404), (t405), (t406), (by first | rfl | (simp; done) | (simp [*]; done)), H', ⟨by have := HJ4.out; have := HJ9.out; have := HJ12.out; have := HK4.out; omega⟩, ⟨kdt HO411.out⟩, ⟨bkt BK371.out⟩, ⟨bkt BK381.out⟩, ⟨bel HB.out⟩⟩
              ·rw [if_neg c46] at H
               exact absurd H (by simp)
            ·rw [if_neg c23] at H
             have c23b0 : (x13_4 == a2) = false := beq_eq_false_iff_ne.mpr c23
             have c23b1 : (x13_4 != a2) = true := bne_iff_ne.mpr c23
             by_cases c63 : x13_4 < (l1.length : Int)
             ·rw [if_pos c63] at H
              have c63b0 : decide (x13_4 < (l1.length : Int)) = true := decide_eq_true c63
              clear c63
              by_cases c64 : 0 ≤ x13_4
              ·rw [if_pos c64] at H
               have c64b0 : decide (0 ≤ x13_4) = true := decide_eq_true c64
               clear c64
               replace H := Option.bind_eq_some_iff.mp H
               obtain ⟨⟨t413, t414, t415, t416, t417, t418, t419, t420⟩, A650, H⟩ := H
               replace H : (if x12_4.length < 17592186044416 then (ref_panels.l0 k4 l1 a2 t372 (x12_4 ++ [t414]) (wrap64 (x13_4 + 1)) a0_0 a0_1 a0_2 t413 t414 t415 t416 t417 t418) else (none)) = some (r1, r2) := H
               have A65 := Aside0.mk A650
               clear A650
               by_cases c66 : x12_4.length < 17592186044416
               ·rw [if_pos c66] at H
                have LMc66 := Aside0.mk c66
                clear c66
                obtain ⟨y421, hy421⟩ : ∃ y_ : List Int, y_ = (x12_4 ++ [t414]) := ⟨_, rfl⟩
                replace H : (ref_panels.l0 k4 l1 a2 t372 y421 (wrap64 (x13_4 + 1)) a0_0 a0_1 a0_2 t413 t414 t415 t416 t417 t418) = some (r1, r2) := by first | (rw [hy421]; with_reducible exact H) | (have H2_ := (Option.bind_some _ _).symm.trans H; rw [hy421]; with_reducible exact H2_) | (have H2_ := (Option.bind_some _ _).symm.trans H; with_reducible exact H2_) | with_reducible exact H | (rw [hy421]; exact H) | exact H
                have Ny421 := Aside0.mk hy421
                clear hy421
                have H' := Aside0.mk H
                clear H
                try go_wp2
                have n0_ := Aside0.mk (Kd.R_drew HO_12.out)
                have n1_ := Aside0.mk (blk_drew BK371.out)
                have n2_ := Aside0.mk (blk_drew BK381.out)
                have n3_ := Aside0.mk (below_drew1 HB.out)
                clear HO_12
                clear BK371
                clear BK381
                clear HB
                have HO_12 := n0_
                have BK371 := n1_
                have BK381 := n2_
                have HB := n3_
                clear n0_ n1_ n2_ n3_
                have p412 : 0 ≤ (x13_4 : Int) := of_decide_eq_true (by first | (with_reducible assumption) | assumption)
                have q412 : x13_4 < (l1.length : Int) := of_decide_eq_true (by first | (with_reducible assumption) | assumption)
                obtain ⟨ad412, e412, hx412_0⟩ := Kd.at_bool HR1.out x13_4 p412 q412
                have hw412_0 := hx412_0
                cases e412
                replace hx412_0 := (HB.out.cell (World.block_lt_of_cell? w _ hx412_0)).trans hx412_0
                replace p412 := eq_true p412
                replace q412 := eq_true q412
                refine start_ (n := 18) (S := fun w' => w'.cell? ⟨gb381, 0, none⟩ = some (.int .i64 x382000_4) ∧ w'.cell? ⟨gb381, 1, none⟩ = some (.int .i64 x382001_4) ∧ w'.cell? ⟨gb381, 2, none⟩ = some (.int .i64 x382002_4) ∧ w'.cell? ⟨gb381, 3, none⟩ = some (.int .i64 x382003_4) ∧ w'.cell? ⟨gb381, 4, none⟩ = some (.int .i64 x382004_4) ∧ w'.cell? ⟨gb381, 5, none⟩ = some (.bool x382005_4) ∧ w'.cell? ⟨gb371, 0, none⟩ = some (.int .i64 a0_0) ∧ w'.cell? ⟨gb371, 1, none⟩ = some (.int .i64 a0_1) ∧ w'.cell? ⟨gb371, 2, none⟩ = some (.int .i64 a0_2) ∧ w'.cell? (ad412.add (x13_4).toNat) = some (.bool (rdOf false l1 x13_4))) (ds := [17]) #[false, false, false, false, false, false, false, false, false, false, false, false, false, false, false, false, false, false] (by kernel_rfl) rfl rfl ⟨(blk_cell BK381.out 0).trans rfl, (blk_cell BK381.out 1).trans rfl, (blk_cell BK381.out 2).trans rfl, (blk_cell BK381.out 3).trans rfl, (blk_cell BK381.out 4).trans rfl, (blk_cell BK381.out 5).trans rfl, (blk_cell BK371.out 0).trans rfl, (blk_cell BK371.out 1).trans rfl, (blk_cell BK371.out 2).trans rfl, ((HB.out.cell (World.block_lt_of_cell? w _ hw412_0)).trans hw412_0)⟩ (fun hHeld => ?_); refine with_tabW ref_panels.tab15 ref_panels.bits15 (fun HT_ HW_ => ?_)
                generalize wr.drew = w67 at HO_12 BK371 BK381 HB hx412_0 hHeld ⊢
                refine pur 2 (some 59) (bm 18 4) HT_.out ?_
                refine pur 3 (some 60) (bm 18 12) HT_.out ?_
                refine pur 4 (some 61) (bm 18 28) HT_.out ?_
                refine pur 5 (some 62) (bm 18 60) HT_.out ?_
                refine pur 6 (some 63) (bm 18 124) HT_.out ?_
                refine pur 7 (some 64) (bm 18 252) HT_.out ?_
                refine pur 8 (some 65) (bm 18 508) HT_.out ?_
                refine pur 9 (some 66) (bm 18 1020) HT_.out ?_
                refine tkp 0 (some 57) (bm 18 1021) HT_.out HW_.out hHeld ?_
                refine tkp 1 (some 58) (bm 18 1023) HT_.out HW_.out hHeld ?_
                refine tkp 10 (some 67) (bm 18 2047) HT_.out HW_.out hHeld ?_
                refine pur 11 (some 68) (bm 18 4095) HT_.out ?_
                refine one_ (i := 12) (N := some 69) (bm 18 8191) rfl rfl (one_of HT_.out (by kernel_rfl)) (by decide) (fun K hK => ?_)
                refine goes_ Try.func28 (by kernel_rfl) rfl #[.agg #[.int .i64 x382000_4, .int .i64 x382001_4, .int .i64 x382002_4, .int .i64 x382003_4, .int .i64 x382004_4, .bool x382005_4], .agg #[.int .i64 a0_0, .int .i64 a0_1, .int .i64 a0_2], .bool (rdOf false l1 x13_4)] (by rfl) rfl rfl (by (try simp only [List.map_toArray, List.map_cons, List.map_nil]); first | done | rfl | (simp only [List.length_drop, List.length_take]; rfl)) ?_
                with_reducible refine (ref_Step.calls k4 x382000_4 x382001_4 x382002_4 x382003_4 x382004_4 x382005_4 a0_0 a0_1 a0_2 (rdOf false l1 x13_4) t413 t414 t415 t416 t417 t418 t419 t420 _ A65.out).mono ?_
                rintro e w68 ⟨rfl, hb⟩
                refine ⟨_, rfl, ?_⟩
                have n0_ := Aside0.mk (Kd.R_below (kdt HO_12.out) hb)
                have n1_ := Aside0.mk (bkb BK371.out hb)
                have n2_ := Aside0.mk (bkb BK381.out hb)
                have n3_ := Aside0.mk (bst HB.out hb)
                clear HO_12
                clear BK371
                clear BK381
                clear HB
                have HO_12 := n0_
                have BK371 := n1_
                have BK381 := n2_
                have HB := n3_
                clear n0_ n1_ n2_ n3_
                (try clear hb)
                (try clear hb2)
                (try clear hk)
                (try clear hi)
                refine hK.out _ _ ⟨(blk_cell BK381.out 0).trans rfl, (blk_cell BK381.out 1).trans rfl, (blk_cell BK381.out 2).trans rfl, (blk_cell BK381.out 3).trans rfl, (blk_cell BK381.out 4).trans rfl, (blk_cell BK381.out 5).trans rfl, (blk_cell BK371.out 0).trans rfl, (blk_cell BK371.out 1).trans rfl, (blk_cell BK371.out 2).trans rfl, ((HB.out.cell (World.block_lt_of_cell? w _ hw412_0)).trans hw412_0)⟩ (fun hHeld => ?_)
                clear hK K
                refine norm_ (a' := ?_) ?_ ?_
                rotate_left
                ·show Act.put _ (some 69) _ = _
                 simp only [Act.put, List.setIfInBounds_toArray, List.set_cons_zero, List.set_cons_succ, i64_w, i32_w]
                 rfl
                refine pur 13 (some 56) (bm 18 16383) HT_.out ?_
                refine pur 14 (some 70) (bm 18 32767) HT_.out ?_
                refine pur 15 (some 71) (bm 18 65535) HT_.out ?_
                refine pur 16 (some 72) (bm 18 131071) HT_.out ?_
                refine last_ (i := 17) (N := none) #[true, true, true, true, true, true, true, true, true, true, true, true, true, true, true, true, true, true] rfl rfl (one_of HT_.out (by kernel_rfl)) (by decide) (fun K hK => ?_)
                have hs69 : w68.cell? ⟨gb381, 0, none⟩ = some (.int .i64 x382000_4) := (blk_cell BK381.out 0).trans rfl
                have hfs69 := blk_frozen BK381.out 0
                have hns69_0 := NB371_381.out
                have hms69_0 := NB381_371.out
                have hs70 : w68.cell? ⟨gb381, 1, none⟩ = some (.int .i64 x382001_4) := (blk_cell BK381.out 1).trans rfl
                have hfs70 := blk_frozen BK381.out 1
                have hns70_0 := NB371_381.out
                have hms70_0 := NB381_371.out
                have hs71 : w68.cell? ⟨gb381, 2, none⟩ = some (.int .i64 x382002_4) := (blk_cell BK381.out 2).trans rfl
                have hfs71 := blk_frozen BK381.out 2
                have hns71_0 := NB371_381.out
                have hms71_0 := NB381_371.out
                have hs72 : w68.cell? ⟨gb381, 3, none⟩ = some (.int .i64 x382003_4) := (blk_cell BK381.out 3).trans rfl
                have hfs72 := blk_frozen BK381.out 3
                have hns72_0 := NB371_381.out
                have hms72_0 := NB381_371.out
                have hs73 : w68.cell? ⟨gb381, 4, none⟩ = some (.int .i64 x382004_4) := (blk_cell BK381.out 4).trans rfl
                have hfs73 := blk_frozen BK381.out 4
                have hns73_0 := NB371_381.out
                have hms73_0 := NB381_371.out
                have hs74 : w68.cell? ⟨gb381, 5, none⟩ = some (.bool x382005_4) := (blk_cell BK381.out 5).trans rfl
                have hfs74 := blk_frozen BK381.out 5
                have hns74_0 := NB371_381.out
                have hms74_0 := NB381_371.out
                refine skip_ (w1 := ?_) (by rfl) rfl ?_ ?_
                rotate_left
                ·go_simp
                 rfl
                refine hK.out _ _ ?_
                clear hK K
                refine done_ (done_of HT_.out (by kernel_rfl)) ?_
                have hnb75 := NB381_371.out
                have hnc75 := NB371_381.out
                have hcz76_0 := cz6 BK381.out
                have hfz76_0 := blk_frozen BK381.out
                try go_wp2_with (first | ((with_reducible refine gate_builtin (b := .append) (xs := #[.tmp 73, .tmp 77]) rfl ?_); (try (refine gate_guard (by rfl) ?_; dsimp only)); at_builtin; refine Kd.R_append (Kd.int .i64) (w0 := w) w.heap.size rfl (.tmp 73) (.tmp 77) 27 3 (.int .i64 0) 8 rfl Try.underlying27 info3 rfl (by decide) (by omega) u12 x12_4 t414 [.int .i64 t414] (fun _ => True) (fun _ => False) rfl (by first | (go_simp; done) | (go_simp; rfl)) ?aP (fun _ hk => hk.elim) ?aF ?aO ?aB ?aS ?aL ?_; (case aP => exact rfl); (case aB => exact (bel HB.out)); (case aF => exact (fun _ _ => trivial)); (case aO => exact (by (with_reducible repeat (first | apply Kd.R_alloc | apply Kd.R_drewN | apply Kd.R_drew)); exact Kd.R_mono (Kd.R_far (p := ⟨gb381, 5, none⟩) (Kd.R_far (p := ⟨gb381, 4, none⟩) (Kd.R_far (p := ⟨gb381, 3, none⟩) (Kd.R_far (p := ⟨gb381, 2, none⟩) (Kd.R_far (p := ⟨gb381, 1, none⟩) (Kd.R_far (p := ⟨gb381, 0, none⟩) (Kd.R_types HO_12.out BK381.out (by decide)) (fun _ hk => hk.2) (.int .i64 t413)) (fun _ hk => hk.2) (.int .i64 t414)) (fun _ hk => hk.2) (.int .i64 t415)) (fun _ hk => hk.2) (.int .i64 t416)) (fun _ hk => hk.2) (.int .i64 t417)) (fun _ hk => hk.2) (.bool t418)) (fun _ hk => trivial))); (case aS => exact (bsz HB.out)); (case aL => have := LMc66.out; omega); intro v422 w77 ho hb hg hat; rw [← Ny421.out] at ho; have n0_ := Aside0.mk (blk_grown (g := gb371) (o := .cells #[.int .i64 a0_0, .int .i64 a0_1, .int .i64 a0_2] 23 (0, 0)) (bkt BK371.out) hg (Kd.R_ne HO_12.out BK371.out (by decide))); have n1_ := Aside0.mk (blk_grown (g := gb381) (o := .cells #[.int .i64 t413, .int .i64 t414, .int .i64 t415, .int .i64 t416, .int .i64 t417, .bool t418] 39 (0, 0)) (bkt BK381.out) hg (Kd.R_ne HO_12.out BK381.out (by decide))); have n2_ := Aside0.mk (hb); have n3_ := Aside0.mk (ho); clear BK371; clear BK381; clear HB; clear HO_12; have BK371 := n0_; have BK381 := n1_; have HB := n2_; have HO423 := n3_; clear n0_ n1_ n2_ n3_; clear ho hb hg hat))
                go_roundg k4
                case measure => have := HJ4.out; have := HJ9.out; have := HJ12.out; have := HK4.out; omega
                case rel => exact ⟨(y421), (wrap64 (x13_4 + 1)), (t413), (t414), (t415), (t416), (t417), (t418), (by first | rfl | (simp; done) | (simp [*]; done)), H', ⟨by have := HJ4.out; have := HJ9.out; have := HJ12.out; have := HK4.out; omega⟩, ⟨kdt HO423.out⟩, ⟨bkt BK371.out⟩, ⟨bkt BK381.out⟩, ⟨bel HB.out⟩⟩
               ·rw [if_neg c66] at H
                exact absurd H (by simp)
              ·rw [if_neg c64] at H
               exact absurd H (by simp)
             ·rw [if_neg c63] at H
              have c63b0 : decide (x13_4 < (l1.length : Int)) = false := decide_eq_false c63
              clear c63
              replace H := Option.bind_eq_some_iff.mp H
              obtain ⟨⟨t424, t425, t426, t427, t428, t429, t430, t431⟩, A780, H⟩ := H
              replace H : (if x12_4.length < 17592186044416 then (ref_panels.l0 k4 l1 a2 t372 (x12_4 ++ [t425]) (wrap64 (x13_4 + 1)) a0_0 a0_1 a0_2 t424 t425 t426 t427 t428 t429) else (none)) = some (r1, r2) := H
              have A78 := Aside0.mk A780
              clear A780
              by_cases c79 : x12_4.length < 17592186044416
              ·rw [if_pos c79] at H
               have LMc79 := Aside0.mk c79
               clear c79
               obtain ⟨y432, hy432⟩ : ∃ y_ : List Int, y_ = (x12_4 ++ [t425]) := ⟨_, rfl⟩
               replace H : (ref_panels.l0 k4 l1 a2 t372 y432 (wrap64 (x13_4 + 1)) a0_0 a0_1 a0_2 t424 t425 t426 t427 t428 t429) = some (r1, r2) := by first | (rw [hy432]; with_reducible exact H) | (have H2_ := (Option.bind_some _ _).symm.trans H; rw [hy432]; with_reducible exact H2_) | (have H2_ := (Option.bind_some _ _).symm.trans H; with_reducible exact H2_) | with_reducible exact H | (rw [hy432]; exact H) | exact H
               have Ny432 := Aside0.mk hy432
               clear hy432
               have H' := Aside0.mk H
               clear H
               try go_wp2
               have n0_ := Aside0.mk (Kd.R_drew HO_12.out)
               have n1_ := Aside0.mk (blk_drew BK371.out)
               have n2_ := Aside0.mk (blk_drew BK381.out)
               have n3_ := Aside0.mk (below_drew1 HB.out)
               clear HO_12
               clear BK371
               clear BK381
               clear HB
               have HO_12 := n0_
               have BK371 := n1_
               have BK381 := n2_
               have HB := n3_
               clear n0_ n1_ n2_ n3_
               refine start_ (n := 18) (S := fun w' => w'.cell? ⟨gb381, 0, none⟩ = some (.int .i64 x382000_4) ∧ w'.cell? ⟨gb381, 1, none⟩ = some (.int .i64 x382001_4) ∧ w'.cell? ⟨gb381, 2, none⟩ = some (.int .i64 x382002_4) ∧ w'.cell? ⟨gb381, 3, none⟩ = some (.int .i64 x382003_4) ∧ w'.cell? ⟨gb381, 4, none⟩ = some (.int .i64 x382004_4) ∧ w'.cell? ⟨gb381, 5, none⟩ = some (.bool x382005_4) ∧ w'.cell? ⟨gb371, 0, none⟩ = some (.int .i64 a0_0) ∧ w'.cell? ⟨gb371, 1, none⟩ = some (.int .i64 a0_1) ∧ w'.cell? ⟨gb371, 2, none⟩ = some (.int .i64 a0_2)) (ds := [17]) #[false, false, false, false, false, false, false, false, false, false, false, false, false, false, false, false, false, false] (by kernel_rfl) rfl rfl ⟨(blk_cell BK381.out 0).trans rfl, (blk_cell BK381.out 1).trans rfl, (blk_cell BK381.out 2).trans rfl, (blk_cell BK381.out 3).trans rfl, (blk_cell BK381.out 4).trans rfl, (blk_cell BK381.out 5).trans rfl, (blk_cell BK371.out 0).trans rfl, (blk_cell BK371.out 1).trans rfl, (blk_cell BK371.out 2).trans rfl⟩ (fun hHeld => ?_); refine with_tabW ref_panels.tab15 ref_panels.bits15 (fun HT_ HW_ => ?_)
               generalize wr.drew = w80 at HO_12 BK371 BK381 HB hHeld ⊢
               refine pur 2 (some 59) (bm 18 4) HT_.out ?_
               refine pur 3 (some 60) (bm 18 12) HT_.out ?_
               refine pur 4 (some 61) (bm 18 28) HT_.out ?_
               refine pur 5 (some 62) (bm 18 60) HT_.out ?_
               refine pur 6 (some 63) (bm 18 124) HT_.out ?_
               refine purn 7 (some 64) (bm 18 252) HT_.out ?_
               refine purn 8 (some 65) (bm 18 508) HT_.out ?_
               refine purn 9 (some 66) (bm 18 1020) HT_.out ?_
               refine purn 10 (some 67) (bm 18 2044) HT_.out ?_
               refine pur 11 (some 68) (bm 18 4092) HT_.out ?_
               refine tkp 0 (some 57) (bm 18 4093) HT_.out HW_.out hHeld ?_
               refine tkp 1 (some 58) (bm 18 4095) HT_.out HW_.out hHeld ?_
               refine one_ (i := 12) (N := some 69) (bm 18 8191) rfl rfl (one_of HT_.out (by kernel_rfl)) (by decide) (fun K hK => ?_)
               refine goes_ Try.func28 (by kernel_rfl) rfl #[.agg #[.int .i64 x382000_4, .int .i64 x382001_4, .int .i64 x382002_4, .int .i64 x382003_4, .int .i64 x382004_4, .bool x382005_4], .agg #[.int .i64 a0_0, .int .i64 a0_1, .int .i64 a0_2], .bool false] (by rfl) rfl rfl (by (try simp only [List.map_toArray, List.map_cons, List.map_nil]); first | done | rfl | (simp only [List.length_drop, List.length_take]; rfl)) ?_
               with_reducible refine (ref_Step.calls k4 x382000_4 x382001_4 x382002_4 x382003_4 x382004_4 x382005_4 a0_0 a0_1 a0_2 false t424 t425 t426 t427 t428 t429 t430 t431 _ A78.out).mono ?_
               rintro e w81 ⟨rfl, hb⟩
               refine ⟨_, rfl, ?_⟩
               have n0_ := Aside0.mk (Kd.R_below (kdt HO_12.out) hb)
               have n1_ := Aside0.mk (bkb BK371.out hb)
               have n2_ := Aside0.mk (bkb BK381.out hb)
               have n3_ := Aside0.mk (bst HB.out hb)
               clear HO_12
               clear BK371
               clear BK381
               clear HB
               have HO_12 := n0_
               have BK371 := n1_
               have BK381 := n2_
               have HB := n3_
               clear n0_ n1_ n2_ n3_
               (try clear hb)
               (try clear hb2)
               (try clear hk)
               (try clear hi)
               refine hK.out _ _ ⟨(blk_cell BK381.out 0).trans rfl, (blk_cell BK381.out 1).trans rfl, (blk_cell BK381.out 2).trans rfl, (blk_cell BK381.out 3).trans rfl, (blk_cell BK381.out 4).trans rfl, (blk_cell BK381.out 5).trans rfl, (blk_cell BK371.out 0).trans rfl, (blk_cell BK371.out 1).trans rfl, (blk_cell BK371.out 2).trans rfl⟩ (fun hHeld => ?_)
               clear hK K
               refine norm_ (a' := ?_) ?_ ?_
               rotate_left
               ·show Act.put _ (some 69) _ = _
                simp only [Act.put, List.setIfInBounds_toArray, List.set_cons_zero, List.set_cons_succ, i64_w, i32_w]
                rfl
               refine pur 13 (some 56) (bm 18 16383) HT_.out ?_
               refine pur 14 (some 70) (bm 18 32767) HT_.out ?_
               refine pur 15 (some 71) (bm 18 65535) HT_.out ?_
               refine pur 16 (some 72) (bm 18 131071) HT_.out ?_
               refine last_ (i := 17) (N := none) #[true, true, true, true, true, true, true, true, true, true, true, true, true, true, true, true, true, true] rfl rfl (one_of HT_.out (by kernel_rfl)) (by decide) (fun K hK => ?_)
               have hs82 : w81.cell? ⟨gb381, 0, none⟩ = some (.int .i64 x382000_4) := (blk_cell BK381.out 0).trans rfl
               have hfs82 := blk_frozen BK381.out 0
               have hns82_0 := NB371_381.out
               have hms82_0 := NB381_371.out
               have hs83 : w81.cell? ⟨gb381, 1, none⟩ = some (.int .i64 x382001_4) := (blk_cell BK381.out 1).trans rfl
               have hfs83 := blk_frozen BK381.out 1
               have hns83_0 := NB371_381.out
               have hms83_0 := NB381_371.out
               have hs84 : w81.cell? ⟨gb381, 2, none⟩ = some (.int .i64 x382002_4) := (blk_cell BK381.out 2).trans rfl
               have hfs84 := blk_frozen BK381.out 2
               have hns84_0 := NB371_381.out
               have hms84_0 := NB381_371.out
               have hs85 : w81.cell? ⟨gb381, 3, none⟩ = some (.int .i64 x382003_4) := (blk_cell BK381.out 3).trans rfl
               have hfs85 := blk_frozen BK381.out 3
               have hns85_0 := NB371_381.out
               have hms85_0 := NB381_371.out
               have hs86 : w81.cell? ⟨gb381, 4, none⟩ = some (.int .i64 x382004_4) := (blk_cell BK381.out 4).trans rfl
               have hfs86 := blk_frozen BK381.out 4
               have hns86_0 := NB371_381.out
               have hms86_0 := NB381_371.out
               have hs87 : w81.cell? ⟨gb381, 5, none⟩ = some (.bool x382005_4) := (blk_cell BK381.out 5).trans rfl
               have hfs87 := blk_frozen BK381.out 5
               have hns87_0 := NB371_381.out
               have hms87_0 := NB381_371.out
               refine skip_ (w1 := ?_) (by rfl) rfl ?_ ?_
               rotate_left
               ·go_simp
                rfl
               refine hK.out _ _ ?_
               clear hK K
               refine done_ (done_of HT_.out (by kernel_rfl)) ?_
               have hnb88 := NB381_371.out
               have hnc88 := NB371_381.out
               have hcz89_0 := cz6 BK381.out
               have hfz89_0 := blk_frozen BK381.out
               try go_wp2_with (first | ((with_reducible refine gate_builtin (b := .append) (xs := #[.tmp 73, .tmp 77]) rfl ?_); (try (refine gate_guard (by rfl) ?_; dsimp only)); at_builtin; refine Kd.R_append (Kd.int .i64) (w0 := w) w.heap.size rfl (.tmp 73) (.tmp 77) 27 3 (.int .i64 0) 8 rfl Try.underlying27 info3 rfl (by decide) (by omega) u12 x12_4 t425 [.int .i64 t425] (fun _ => True) (fun _ => False) rfl (by first | (go_simp; done) | (go_simp; rfl)) ?aP (fun _ hk => hk.elim) ?aF ?aO ?aB ?aS ?aL ?_; (case aP => exact rfl); (case aB => exact (bel HB.out)); (case aF => exact (fun _ _ => trivial)); (case aO => exact (by (with_reducible repeat (first | apply Kd.R_alloc | apply Kd.R_drewN | apply Kd.R_drew)); exact Kd.R_mono (Kd.R_far (p := ⟨gb381, 5, none⟩) (Kd.R_far (p := ⟨gb381, 4, none⟩) (Kd.R_far (p := ⟨gb381, 3, none⟩) (Kd.R_far (p := ⟨gb381, 2, none⟩) (Kd.R_far (p := ⟨gb381, 1, none⟩) (Kd.R_far (p := ⟨gb381, 0, none⟩) (Kd.R_types HO_12.out BK381.out (by decide)) (fun _ hk => hk.2) (.int .i64 t424)) (fun _ hk => hk.2) (.int .i64 t425)) (fun _ hk => hk.2) (.int .i64 t426)) (fun _ hk => hk.2) (.int .i64 t427)) (fun _ hk => hk.2) (.int .i64 t428)) (fun _ hk => hk.2) (.bool t429)) (fun _ hk => trivial))); (case aS => exact (bsz HB.out)); (case aL => have := LMc79.out; omega); intro v433 w90 ho hb hg hat; rw [← Ny432.out] at ho; have n0_ := Aside0.mk (blk_grown (g := gb371) (o := .cells #[.int .i64 a0_0, .int .i64 a0_1, .int .i64 a0_2] 23 (0, 0)) (bkt BK371.out) hg (Kd.R_ne HO_12.out BK371.out (by decide))); have n1_ := Aside0.mk (blk_grown (g := gb381) (o := .cells #[.int .i64 t424, .int .i64 t425, .int .i64 t426, .int .i64 t427, .int .i64 t428, .bool t429] 39 (0, 0)) (bkt BK381.out) hg (Kd.R_ne HO_12.out BK381.out (by decide))); have n2_ := Aside0.mk (hb); have n3_ := Aside0.mk (ho); clear BK371; clear BK381; clear HB; clear HO_12; have BK371 := n0_; have BK381 := n1_; have HB := n2_; have HO434 := n3_; clear n0_ n1_ n2_ n3_; clear ho hb hg hat))
               go_roundg k4
               case measure => have := HJ4.out; have := HJ9.out; have := HJ12.out; have := HK4.out; omega
               case rel => exact ⟨(y432), (wrap64 (x13_4 + 1)), (t424), (t425), (t426), (t427), (t428), (t429), (by first | rfl | (simp; done) | (simp [*]; done)), H', ⟨by have := HJ4.out; have := HJ9.out; have := HJ12.out; have := HK4.out; omega⟩, ⟨kdt HO434.out⟩, ⟨bkt BK371.out⟩, ⟨bkt BK381.out⟩, ⟨bel HB.out⟩⟩
              ·rw [if_neg c79] at H
               exact absurd H (by simp)
           ·rw [if_neg c22] at H
            have c22b0 : decide (x13_4 < t372) = false := decide_eq_false c22
            clear c22
            simp only [Option.some.injEq, Prod.mk.injEq] at H
            obtain ⟨rfl, rfl⟩ := H
            go_wp2
            go_ret2
            exact ⟨_, by first | rfl | (simp [errW_none, errW_some] <;> rfl) | (simp [*, errW_none, errW_some] <;> rfl), by (with_reducible repeat (first | apply Kd.R_alloc | apply Kd.R_drewN | apply Kd.R_drew)); exact HO_12.out, bel HB.out⟩
     ·rw [if_neg c12] at H
      have c12b0 : (x9_9 == 0) = false := beq_eq_false_iff_ne.mpr c12
      have c12b1 : (x9_9 != 0) = true := bne_iff_ne.mpr c12
      simp only [Option.some.injEq, Prod.mk.injEq] at H
      obtain ⟨rfl, rfl⟩ := H
      go_wp2
      go_ret2
      exact ⟨_, by first | rfl | (simp [errW_none, errW_some] <;> rfl) | (simp [*, errW_none, errW_some] <;> rfl), by first | exact Kd.R_nil _ _ _ _ _ | exact Kd.N_nil _ _ _ _ _ | exact Kd.V_nil _ _ _ _ _ | exact Kd.Q_nil _ _ _ _ _ | exact Kd.S_nil _ _ _ _ _, bel HB.out⟩

end Go.Proofs.Ytmjmdnpenpdmhaa.P
