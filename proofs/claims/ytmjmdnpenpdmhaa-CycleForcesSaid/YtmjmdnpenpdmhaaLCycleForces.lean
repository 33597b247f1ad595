-- Printed by wip/myprint.py of this repo (over the kit's printer). Not trusted: Lean checks it.
import Derived.Test.YtmjmdnpenpdmhaaP0
import Derived.Test.YtmjmdnpenpdmhaaLCycleKnown
import Derived.Test.YtmjmdnpenpdmhaaP0tipstaffkit
import Derived.Test.YtmjmdnpenpdmhaaP0tipstafflaw19
import Derived.Test.YtmjmdnpenpdmhaaP2cycle
namespace Go.Proofs.Ytmjmdnpenpdmhaa.P
open Go.RowKit Go.Proofs.YtmjmdnpenpdmhaaW.PrintWords Go.Proofs.YtmjmdnpenpdmhaaW.PrintLast Go.Proofs.YtmjmdnpenpdmhaaW.PrintMore
attribute [local go_sem] cell_same1 cell_some1
attribute [local go_sem] max2_int min2_int max_two min_two max_three min_three max_four min_four   -- for this text's walks alone
set_option linter.unusedVariables false
set_option linter.unusedSimpArgs false

/-! ### q_CycleForces: function 6 -/
mutual
def q_CycleForces.j0 : Nat → Int → List Bool → List Int → Bool → Int → Int → Int → Option (Bool)
 | 0, _, _, _, _, _, _, _ => none
 | k + 1, x2, x9, x10, x35, x652000, x652001, x652002 => if x35 = true then (none) else ((kit_Mod.f x2 (x10.length : Int)).bind fun t656 => ((cycle_Forced.f x652000 x652001 x652002 x9 t656).bind fun bt657 => (if bt657.2 = 0 then (if (bt657.1.length : Int) = (x10.length : Int) then (if 0 ≤ (wrap64 ((bt657.1.length : Int) - 1)) then (if (wrap64 ((bt657.1.length : Int) - 1)) < (bt657.1.length : Int) then (q_CycleForces.j1 k t656 x10 bt657.1 ((rd bt657.1 (wrap64 ((bt657.1.length : Int) - 1))) != 0)) else (none)) else (none)) else (q_CycleForces.j1 k t656 x10 bt657.1 true)) else (q_CycleForces.j1 k t656 x10 bt657.1 true))))
def q_CycleForces.j1 : Nat → Int → List Int → List Int → Bool → Option (Bool)
 | 0, _, _, _, _ => none
 | k + 1, x2, x10, x12, x64 => if x64 = true then (none) else (q_CycleForces.l0 k x2 x10 x12 0)
def q_CycleForces.l0 : Nat → Int → List Int → List Int → Int → Option (Bool)
 | 0, _, _, _, _ => none
 | k + 1, x2, x10, x12, x14 => if x14 < (x10.length : Int) then (if x14 > 0 then (if 0 ≤ (wrap64 (x14 - 1)) then (if (wrap64 (x14 - 1)) < (x12.length : Int) then (if x14 < x2 then (if 0 ≤ x14 then (if x14 < (x12.length : Int) then (if (rd x12 x14) = (rd x10 x14) then (if x14 ≥ x2 then (if (rd x12 x14) = (mx 0 (wrap64 ((rd x12 (wrap64 (x14 - 1))) - 1))) then (q_CycleForces.l0 k x2 x10 x12 (wrap64 (x14 + 1))) else (none)) else (q_CycleForces.l0 k x2 x10 x12 (wrap64 (x14 + 1)))) else (none)) else (none)) else (none)) else (if x14 ≥ x2 then (if 0 ≤ x14 then (if x14 < (x12.length : Int) then (if (rd x12 x14) = (mx 0 (wrap64 ((rd x12 (wrap64 (x14 - 1))) - 1))) then (q_CycleForces.l0 k x2 x10 x12 (wrap64 (x14 + 1))) else (none)) else (none)) else (none)) else (q_CycleForces.l0 k x2 x10 x12 (wrap64 (x14 + 1))))) else (none)) else (none)) else (if x14 < x2 then (if 0 ≤ x14 then (if x14 < (x12.length : Int) then (if (rd x12 x14) = (rd x10 x14) then (if x14 ≥ x2 then (if (rd x12 x14) = (mx 0 (-1)) then (q_CycleForces.l0 k x2 x10 x12 (wrap64 (x14 + 1))) else (none)) else (q_CycleForces.l0 k x2 x10 x12 (wrap64 (x14 + 1)))) else (none)) else (none)) else (none)) else (if x14 ≥ x2 then (if 0 ≤ x14 then (if x14 < (x12.length : Int) then (if (rd x12 x14) = (mx 0 (-1)) then (q_CycleForces.l0 k x2 x10 x12 (wrap64 (x14 + 1))) else (none)) else (none)) else (none)) else (q_CycleForces.l0 k x2 x10 x12 (wrap64 (x14 + 1)))))) else (some true)
end
def q_CycleForces.f (k : Nat) (a0 : Int) (l1 : List Int) (a2 : Int) : Option (Bool) := (q_CycleKnown.f k).bind fun t644 => (if t644 = true then ((q_made.f k a0 l1).bind fun bt645 => ((cycle_Panels.f bt645.1 bt645.2.1 bt645.2.2.1 bt645.2.2.2).bind fun bt652 => (if bt652.2 = 0 then (q_CycleForces.j0 k a2 bt645.2.2.2 bt652.1 (decide ((bt652.1.length : Int) < 1)) bt645.1 bt645.2.1 bt645.2.2.1) else (q_CycleForces.j0 k a2 bt645.2.2.2 bt652.1 true bt645.1 bt645.2.1 bt645.2.2.1)))) else (none))
theorem q_CycleForces.mono_l : ∀ k, (∀ y0 y1 y2 y3 y4 y5 y6, LeO (q_CycleForces.j0 k y0 y1 y2 y3 y4 y5 y6) (q_CycleForces.j0 (k + 1) y0 y1 y2 y3 y4 y5 y6)) ∧ (∀ y0 y1 y2 y3, LeO (q_CycleForces.j1 k y0 y1 y2 y3) (q_CycleForces.j1 (k + 1) y0 y1 y2 y3)) ∧ (∀ y0 y1 y2 y3, LeO (q_CycleForces.l0 k y0 y1 y2 y3) (q_CycleForces.l0 (k + 1) y0 y1 y2 y3))
 | 0 => ⟨fun _ _ _ _ _ _ _ r h => by simp [q_CycleForces.j0] at h, fun _ _ _ _ r h => by simp [q_CycleForces.j1] at h, fun _ _ _ _ r h => by simp [q_CycleForces.l0] at h⟩
 | k + 1 => by
  obtain ⟨ih0, ih1, ih2⟩ := q_CycleForces.mono_l k
  refine ⟨?_, ?_, ?_⟩
  ·intro y0 y1 y2 y3 y4 y5 y6
   unfold q_CycleForces.j0
   repeat' first
   | (with_reducible exact ih0 _ _ _ _ _ _ _)
   | (with_reducible exact ih1 _ _ _ _)
   | (with_reducible exact ih2 _ _ _ _)
   | (with_reducible exact q_CycleKnown.mono _)
   | (with_reducible exact q_made.mono _ _ _)
   | (with_reducible exact LeO.refl _)
   | (with_reducible exact LeO.none _)
   | (with_reducible refine LeO.ite ?_ ?_)
   | (with_reducible refine LeO.bind ?_ (fun _ => ?_))
   | exact ih0 _ _ _ _ _ _ _
   | exact ih1 _ _ _ _
   | exact ih2 _ _ _ _
   | exact q_CycleKnown.mono _
   | exact q_made.mono _ _ _
   | exact LeO.none _
   | refine LeO.ite ?_ ?_
   | refine LeO.bind ?_ (fun _ => ?_)
  ·intro y0 y1 y2 y3
   unfold q_CycleForces.j1
   repeat' first
   | (with_reducible exact ih0 _ _ _ _ _ _ _)
   | (with_reducible exact ih1 _ _ _ _)
   | (with_reducible exact ih2 _ _ _ _)
   | (with_reducible exact q_CycleKnown.mono _)
   | (with_reducible exact q_made.mono _ _ _)
   | (with_reducible exact LeO.refl _)
   | (with_reducible exact LeO.none _)
   | (with_reducible refine LeO.ite ?_ ?_)
   | (with_reducible refine LeO.bind ?_ (fun _ => ?_))
   | exact ih0 _ _ _ _ _ _ _
   | exact ih1 _ _ _ _
   | exact ih2 _ _ _ _
   | exact q_CycleKnown.mono _
   | exact q_made.mono _ _ _
   | exact LeO.none _
   | refine LeO.ite ?_ ?_
   | refine LeO.bind ?_ (fun _ => ?_)
  ·intro y0 y1 y2 y3
   unfold q_CycleForces.l0
   repeat' first
   | (with_reducible exact ih0 _ _ _ _ _ _ _)
   | (with_reducible exact ih1 _ _ _ _)
   | (with_reducible exact ih2 _ _ _ _)
   | (with_reducible exact q_CycleKnown.mono _)
   | (with_reducible exact q_made.mono _ _ _)
   | (with_reducible exact LeO.refl _)
   | (with_reducible exact LeO.none _)
   | (with_reducible refine LeO.ite ?_ ?_)
   | (with_reducible refine LeO.bind ?_ (fun _ => ?_))
   | exact ih0 _ _ _ _ _ _ _
   | exact ih1 _ _ _ _
   | exact ih2 _ _ _ _
   | exact q_CycleKnown.mono _
   | exact q_made.mono _ _ _
   | exact LeO.none _
   | refine LeO.ite ?_ ?_
   | refine LeO.bind ?_ (fun _ => ?_)
theorem q_CycleForces.mono : ∀ a0 a1 a2 k, LeO (q_CycleForces.f k a0 a1 a2) (q_CycleForces.f (k + 1) a0 a1 a2) := by
 intro a0 a1 a2 k
 obtain ⟨ih0, ih1, ih2⟩ := q_CycleForces.mono_l k
 unfold q_CycleForces.f
 repeat' first
   | (with_reducible exact ih0 _ _ _ _ _ _ _)
   | (with_reducible exact ih1 _ _ _ _)
   | (with_reducible exact ih2 _ _ _ _)
   | (with_reducible exact q_CycleKnown.mono _)
   | (with_reducible exact q_made.mono _ _ _)
   | (with_reducible exact LeO.refl _)
   | (with_reducible exact LeO.none _)
   | (with_reducible refine LeO.ite ?_ ?_)
   | (with_reducible refine LeO.bind ?_ (fun _ => ?_))
   | exact ih0 _ _ _ _ _ _ _
   | exact ih1 _ _ _ _
   | exact ih2 _ _ _ _
   | exact q_CycleKnown.mono _
   | exact q_made.mono _ _ _
   | exact LeO.none _
   | refine LeO.ite ?_ ?_
   | refine LeO.bind ?_ (fun _ => ?_)
set_option maxHeartbeats 8000000 in
set_option maxRecDepth 100000 in
theorem q_CycleForces.calls (k : Nat) (a0 : Int) (A1 : Option Addr) (c1 : Nat) (l1 : List Int) (a2 : Int) (r : Bool) (w : World) (hr1 : Kd.C (Kd.int .i64) w A1 l1.length l1) (hc1 : l1.length ≤ c1) (h : q_CycleForces.f k a0 l1 a2 = some r) :
  Calls Try.prog 6 #[.int .i64 a0, .slice A1 l1.length c1, .int .i64 a2] w fun e w' => e = .returned (.bool r) ∧ Below w.heap.size w w' := by
 have hu23 := Try.underlying23
 have HR1 := Aside0.mk hr1
 have HC1 := Aside0.mk hc1
 clear hr1 hc1
 have HB := Aside0.mk (Below.refl w.heap.size w)
 have H : ((q_CycleKnown.f k).bind fun t644 => (if t644 = true then ((q_made.f k a0 l1).bind fun bt645 => ((cycle_Panels.f bt645.1 bt645.2.1 bt645.2.2.1 bt645.2.2.2).bind fun bt652 => (if bt652.2 = 0 then (q_CycleForces.j0 k a2 bt645.2.2.2 bt652.1 (decide ((bt652.1.length : Int) < 1)) bt645.1 bt645.2.1 bt645.2.2.1) else (q_CycleForces.j0 k a2 bt645.2.2.2 bt652.1 true bt645.1 bt645.2.1 bt645.2.2.1)))) else (none))) = some r := h
 clear h
 replace H := Option.bind_eq_some_iff.mp H
 obtain ⟨t644, A40, H⟩ := H
 replace H : (if t644 = true then ((q_made.f k a0 l1).bind fun bt645 => ((cycle_Panels.f bt645.1 bt645.2.1 bt645.2.2.1 bt645.2.2.2).bind fun bt652 => (if bt652.2 = 0 then (q_CycleForces.j0 k a2 bt645.2.2.2 bt652.1 (decide ((bt652.1.length : Int) < 1)) bt645.1 bt645.2.1 bt645.2.2.1) else (q_CycleForces.j0 k a2 bt645.2.2.2 bt652.1 true bt645.1 bt645.2.1 bt645.2.2.1)))) else (none)) = some r := H
 have A4 := Aside0.mk A40
 clear A40
 by_cases c5 : t644 = true
 ·subst c5
  have H1 : ((q_made.f k a0 l1).bind fun bt645 => ((cycle_Panels.f bt645.1 bt645.2.1 bt645.2.2.1 bt645.2.2.2).bind fun bt652 => (if bt652.2 = 0 then (q_CycleForces.j0 k a2 bt645.2.2.2 bt652.1 (decide ((bt652.1.length : Int) < 1)) bt645.1 bt645.2.1 bt645.2.2.1) else (q_CycleForces.j0 k a2 bt645.2.2.2 bt652.1 true bt645.1 bt645.2.1 bt645.2.2.1)))) = some r := by rw [if_pos rfl] at H; exact H
  clear H
  have H := H1
  clear H1
  replace H := Option.bind_eq_some_iff.mp H
  obtain ⟨⟨t645, t646, t647, t648⟩, A60, H⟩ := H
  replace H : ((cycle_Panels.f t645 t646 t647 t648).bind fun bt652 => (if bt652.2 = 0 then (q_CycleForces.j0 k a2 t648 bt652.1 (decide ((bt652.1.length : Int) < 1)) t645 t646 t647) else (q_CycleForces.j0 k a2 t648 bt652.1 true t645 t646 t647))) = some r := H
  have A6 := Aside0.mk A60
  clear A60
  replace H := Option.bind_eq_some_iff.mp H
  obtain ⟨⟨t652, t655⟩, A70, H⟩ := H
  replace H : (if t655 = 0 then (q_CycleForces.j0 k a2 t648 t652 (decide ((t652.length : Int) < 1)) t645 t646 t647) else (q_CycleForces.j0 k a2 t648 t652 true t645 t646 t647)) = some r := H
  have A7 := Aside0.mk A70
  clear A70
  have HC8 := Aside0.mk H
  clear H
  go_enter Try.func6, Try.ntmps6
  go_upto_region 4 with (first | (go_at_call 4; (with_reducible refine (q_CycleKnown.calls k  true _ A4.out).mono ?_); rintro e w9 ⟨rfl, hb⟩; replace HB := Aside0.mk (bst HB.out hb); (try clear hb); (try clear hb2); (try clear hk); (try clear hi)) | (go_at_call 23; (with_reducible refine (q_made.calls k a0 _ _ l1 t645 t646 t647 t648 _ ?side1 ?side2 A6.out).mono ?_); (case side1 => repeat (first | exact (Kd.C_below HR1.out HB.out) | (with_reducible refine Kd.C_alloc ?_ _) | (with_reducible refine Kd.C_drewN ?_ _) | (with_reducible refine Kd.C_drew ?_))); (case side2 => exact HC1.out); rintro e w10 ⟨v649, rfl, ho0, hb⟩; have HO650 := Aside0.mk (Kd.R_lower ho0 (bsz HB.out)); replace HB := Aside0.mk (bst HB.out hb); (try clear hb); (try clear hb2); (try clear hk); (try clear hi); (try clear ho0)) | ((with_reducible refine gate_dst (N := 8) rfl ?_); (try (refine gate_guard (by rfl) ?_; dsimp only)); refine bxe (cs := #[.int .i64 0, .int .i64 0, .int .i64 0]) (t := 23) ?_; intro gb651 hg w11 hbox hb; have BK651 := Aside0.mk (hbox); have GW651 := Aside0.mk (bge hg HB.out); have GE651 := Aside0.mk (bge hg HB.out); replace HO650 := Aside0.mk (Kd.R_below (kdt HO650.out) hb); replace HB := Aside0.mk (bst HB.out hb); clear hb hbox hg; have hcz12_0 := cz3 BK651.out; have hfz12_0 := blk_frozen BK651.out; obtain ⟨Ao13, co13, eo13⟩ := Kd.R_slice HO650.out; subst eo13) | (go_at_call 11; (with_reducible refine (cycle_Panels.calls t645 t646 t647 _ _ t648 t652 t655 _ ?side1 ?side2 A7.out).mono ?_); (case side1 => refine (Kd.R_reads' (e := 4) (base := w.heap.size) (ok := fun k_ => True) (n := t648.length) (c := co13) ?_).2.2; exact (by (with_reducible repeat (first | apply Kd.R_alloc | apply Kd.R_drewN | apply Kd.R_drew)); exact (Kd.R_mono (Kd.R_far (p := ⟨gb651, 2, none⟩) (Kd.R_far (p := ⟨gb651, 1, none⟩) (Kd.R_far (p := ⟨gb651, 0, none⟩) (Kd.R_types HO650.out BK651.out (by decide)) (fun _ hk => hk.2) (.int .i64 t645)) (fun _ hk => hk.2) (.int .i64 t646)) (fun _ hk => hk.2) (.int .i64 t647)) (fun _ h_ => h_.1)))); (case side2 => exact (Kd.R_reads' HO650.out).2.1); rintro e w14 ⟨v653, rfl, ho0, hb⟩; have HO654 := Aside0.mk (Kd.R_lower ho0 (bsz HB.out)); replace HO650 := Aside0.mk (Kd.R_below (by (with_reducible repeat (first | apply Kd.R_alloc | apply Kd.R_drewN | apply Kd.R_drew)); exact (Kd.R_mono (Kd.R_far (p := ⟨gb651, 2, none⟩) (Kd.R_far (p := ⟨gb651, 1, none⟩) (Kd.R_far (p := ⟨gb651, 0, none⟩) (Kd.R_types HO650.out BK651.out (by decide)) (fun _ hk => hk.2) (.int .i64 t645)) (fun _ hk => hk.2) (.int .i64 t646)) (fun _ hk => hk.2) (.int .i64 t647)) (fun _ h_ => h_.1))) hb); replace BK651 := Aside0.mk (blk_below (g := gb651) (o := .cells #[.int .i64 t645, .int .i64 t646, .int .i64 t647] 23 (0, 0)) (bkt BK651.out) hb); replace HB := Aside0.mk (bst HB.out hb); (try clear hb); (try clear hb2); (try clear hk); (try clear hi); (try clear ho0)))
  repeat (go_quiet (first | (go_at_call 4; (with_reducible refine (q_CycleKnown.calls k  true _ A4.out).mono ?_); rintro e w9 ⟨rfl, hb⟩; replace HB := Aside0.mk (bst HB.out hb); (try clear hb); (try clear hb2); (try clear hk); (try clear hi)) | (go_at_call 23; (with_reducible refine (q_made.calls k a0 _ _ l1 t645 t646 t647 t648 _ ?side1 ?side2 A6.out).mono ?_); (case side1 => repeat (first | exact (Kd.C_below HR1.out HB.out) | (with_reducible refine Kd.C_alloc ?_ _) | (with_reducible refine Kd.C_drewN ?_ _) | (with_reducible refine Kd.C_drew ?_))); (case side2 => exact HC1.out); rintro e w10 ⟨v649, rfl, ho0, hb⟩; have HO650 := Aside0.mk (Kd.R_lower ho0 (bsz HB.out)); replace HB := Aside0.mk (bst HB.out hb); (try clear hb); (try clear hb2); (try clear hk); (try clear hi); (try clear ho0)) | ((with_reducible refine gate_dst (N := 8) rfl ?_); (try (refine gate_guard (by rfl) ?_; dsimp only)); refine bxe (cs := #[.int .i64 0, .int .i64 0, .int .i64 0]) (t := 23) ?_; intro gb651 hg w11 hbox hb; have BK651 := Aside0.mk (hbox); have GW651 := Aside0.mk (bge hg HB.out); have GE651 := Aside0.mk (bge hg HB.out); replace HO650 := Aside0.mk (Kd.R_below (kdt HO650.out) hb); replace HB := Aside0.mk (bst HB.out hb); clear hb hbox hg; have hcz12_0 := cz3 BK651.out; have hfz12_0 := blk_frozen BK651.out; obtain ⟨Ao13, co13, eo13⟩ := Kd.R_slice HO650.out; subst eo13) | (go_at_call 11; (with_reducible refine (cycle_Panels.calls t645 t646 t647 _ _ t648 t652 t655 _ ?side1 ?side2 A7.out).mono ?_); (case side1 => refine (Kd.R_reads' (e := 4) (base := w.heap.size) (ok := fun k_ => True) (n := t648.length) (c := co13) ?_).2.2; exact (by (with_reducible repeat (first | apply Kd.R_alloc | apply Kd.R_drewN | apply Kd.R_drew)); exact (Kd.R_mono (Kd.R_far (p := ⟨gb651, 2, none⟩) (Kd.R_far (p := ⟨gb651, 1, none⟩) (Kd.R_far (p := ⟨gb651, 0, none⟩) (Kd.R_types HO650.out BK651.out (by decide)) (fun _ hk => hk.2) (.int .i64 t645)) (fun _ hk => hk.2) (.int .i64 t646)) (fun _ hk => hk.2) (.int .i64 t647)) (fun _ h_ => h_.1)))); (case side2 => exact (Kd.R_reads' HO650.out).2.1); rintro e w14 ⟨v653, rfl, ho0, hb⟩; have HO654 := Aside0.mk (Kd.R_lower ho0 (bsz HB.out)); replace HO650 := Aside0.mk (Kd.R_below (by (with_reducible repeat (first | apply Kd.R_alloc | apply Kd.R_drewN | apply Kd.R_drew)); exact (Kd.R_mono (Kd.R_far (p := ⟨gb651, 2, none⟩) (Kd.R_far (p := ⟨gb651, 1, none⟩) (Kd.R_far (p := ⟨gb651, 0, none⟩) (Kd.R_types HO650.out BK651.out (by decide)) (fun _ hk => hk.2) (.int .i64 t645)) (fun _ hk => hk.2) (.int .i64 t646)) (fun _ hk => hk.2) (.int .i64 t647)) (fun _ h_ => h_.1))) hb); replace BK651 := Aside0.mk (blk_below (g := gb651) (o := .cells #[.int .i64 t645, .int .i64 t646, .int .i64 t647] 23 (0, 0)) (bkt BK651.out) hb); replace HB := Aside0.mk (bst HB.out hb); (try clear hb); (try clear hb2); (try clear hk); (try clear hi); (try clear ho0))); go_upto_region 4 with (first | (go_at_call 4; (with_reducible refine (q_CycleKnown.calls k  true _ A4.out).mono ?_); rintro e w9 ⟨rfl, hb⟩; replace HB := Aside0.mk (bst HB.out hb); (try clear hb); (try clear hb2); (try clear hk); (try clear hi)) | (go_at_call 23; (with_reducible refine (q_made.calls k a0 _ _ l1 t645 t646 t647 t648 _ ?side1 ?side2 A6.out).mono ?_); (case side1 => repeat (first | exact (Kd.C_below HR1.out HB.out) | (with_reducible refine Kd.C_alloc ?_ _) | (with_reducible refine Kd.C_drewN ?_ _) | (with_reducible refine Kd.C_drew ?_))); (case side2 => exact HC1.out); rintro e w10 ⟨v649, rfl, ho0, hb⟩; have HO650 := Aside0.mk (Kd.R_lower ho0 (bsz HB.out)); replace HB := Aside0.mk (bst HB.out hb); (try clear hb); (try clear hb2); (try clear hk); (try clear hi); (try clear ho0)) | ((with_reducible refine gate_dst (N := 8) rfl ?_); (try (refine gate_guard (by rfl) ?_; dsimp only)); refine bxe (cs := #[.int .i64 0, .int .i64 0, .int .i64 0]) (t := 23) ?_; intro gb651 hg w11 hbox hb; have BK651 := Aside0.mk (hbox); have GW651 := Aside0.mk (bge hg HB.out); have GE651 := Aside0.mk (bge hg HB.out); replace HO650 := Aside0.mk (Kd.R_below (kdt HO650.out) hb); replace HB := Aside0.mk (bst HB.out hb); clear hb hbox hg; have hcz12_0 := cz3 BK651.out; have hfz12_0 := blk_frozen BK651.out; obtain ⟨Ao13, co13, eo13⟩ := Kd.R_slice HO650.out; subst eo13) | (go_at_call 11; (with_reducible refine (cycle_Panels.calls t645 t646 t647 _ _ t648 t652 t655 _ ?side1 ?side2 A7.out).mono ?_); (case side1 => refine (Kd.R_reads' (e := 4) (base := w.heap.size) (ok := fun k_ => True) (n := t648.length) (c := co13) ?_).2.2; exact (by (with_reducible repeat (first | apply Kd.R_alloc | apply Kd.R_drewN | apply Kd.R_drew)); exact (Kd.R_mono (Kd.R_far (p := ⟨gb651, 2, none⟩) (Kd.R_far (p := ⟨gb651, 1, none⟩) (Kd.R_far (p := ⟨gb651, 0, none⟩) (Kd.R_types HO650.out BK651.out (by decide)) (fun _ hk => hk.2) (.int .i64 t645)) (fun _ hk => hk.2) (.int .i64 t646)) (fun _ hk => hk.2) (.int .i64 t647)) (fun _ h_ => h_.1)))); (case side2 => exact (Kd.R_reads' HO650.out).2.1); rintro e w14 ⟨v653, rfl, ho0, hb⟩; have HO654 := Aside0.mk (Kd.R_lower ho0 (bsz HB.out)); replace HO650 := Aside0.mk (Kd.R_below (by (with_reducible repeat (first | apply Kd.R_alloc | apply Kd.R_drewN | apply Kd.R_drew)); exact (Kd.R_mono (Kd.R_far (p := ⟨gb651, 2, none⟩) (Kd.R_far (p := ⟨gb651, 1, none⟩) (Kd.R_far (p := ⟨gb651, 0, none⟩) (Kd.R_types HO650.out BK651.out (by decide)) (fun _ hk => hk.2) (.int .i64 t645)) (fun _ hk => hk.2) (.int .i64 t646)) (fun _ hk => hk.2) (.int .i64 t647)) (fun _ h_ => h_.1))) hb); replace BK651 := Aside0.mk (blk_below (g := gb651) (o := .cells #[.int .i64 t645, .int .i64 t646, .int .i64 t647] 23 (0, 0)) (bkt BK651.out) hb); replace HB := Aside0.mk (bst HB.out hb); (try clear hb); (try clear hb2); (try clear hk); (try clear hi); (try clear ho0))))
  (try simp only [Act.put, List.setIfInBounds_toArray, List.set_cons_zero, List.set_cons_succ])
  go_cut [35] (fun v35 wc => ∃ (kq : Nat) (x35_7 : Bool), v35 = .bool x35_7 ∧ Aside0 (q_CycleForces.j0 kq a2 t648 t652 x35_7 t645 t646 t647 = some r) ∧ Aside0 (kq ≤ k) ∧ Aside0 (Kd.R Kd.bool 4 wc w.heap.size (fun _ => True) (.slice Ao13 t648.length co13) t648) ∧ Aside0 (Kd.R (Kd.int .i64) 3 wc w.heap.size (fun _ => True) v653 t652) ∧ Aside0 (wc.heap[gb651]? = some (.cells #[.int .i64 t645, .int .i64 t646, .int .i64 t647] 23 (0, 0))) ∧ Aside0 (Below w.heap.size w wc))
  case first =>
   have H := HC8.out
   clear HC8
   by_cases c15 : t655 = 0
   ·rw [if_pos c15] at H
    have c15b0 : (t655 == 0) = true := beq_iff_eq.mpr c15
    have c15b1 : (t655 != 0) = false := bne_eq_false_iff_eq.mpr c15
    clear c15
    (first | rw [c15b0] | (simp only [i64_w, i32_w]; rw [c15b0]) | skip)
    have H' := Aside0.mk H
    clear H
    obtain ⟨Ao16, co16, eo16⟩ := Kd.R_slice HO654.out
    subst eo16
    go_wp2
    repeat (go_quiet (fail); try go_wp2)
    go_meet
    case rel => exact ⟨_, (decide ((t652.length : Int) < 1)), (by first | rfl | (simp; done) | (simp [*]; done)), H', ⟨by first | omega | exact Nat.le_refl _⟩, ⟨kdt HO650.out⟩, ⟨kdt HO654.out⟩, ⟨bkt BK651.out⟩, ⟨bel HB.out⟩⟩
   ·rw [if_neg c15] at H
    have c15b0 : (t655 == 0) = false := beq_eq_false_iff_ne.mpr c15
    have c15b1 : (t655 != 0) = true := bne_iff_ne.mpr c15
    (first | rw [c15b0] | (simp only [i64_w, i32_w]; rw [c15b0]) | skip)
    have H' := Aside0.mk H
    clear H
    go_wp2
    repeat (go_quiet (fail); try go_wp2)
    go_meet
    case rel => exact ⟨_, (true), (by first | rfl | (simp; done) | (simp [*]; done)), H', ⟨by first | omega | exact Nat.le_refl _⟩, ⟨kdt HO650.out⟩, ⟨kdt HO654.out⟩, ⟨bkt BK651.out⟩, ⟨bel HB.out⟩⟩
  case rest =>
   clear HC8
   try clear c1
   try clear p2
   try clear c5
   try clear c6
   try clear c15
   try clear c15b0
   try clear c15b1
   try clear hcz12_0
   try clear hfz12_0
   obtain ⟨kq, x35_7, rfl, HA, HJ7, HO_9, HO_10, BK651, HB⟩ := hcut
   cases kq with
   | zero => exact absurd HA.out (by simp [q_CycleForces.j0])
   | succ kj7 =>
    have H := HA.out
    clear HA
    simp only [q_CycleForces.j0] at H
    by_cases c17 : x35_7 = true
    ·subst c17
     have H1 : (none) = some r := by rw [if_pos rfl] at H; exact H
     clear H
     have H := H1
     clear H1
     exact absurd H (by simp)
    ·replace c17 := Bool.eq_false_iff.mpr c17
     subst c17
     have H1 : ((kit_Mod.f a2 (t652.length : Int)).bind fun t656 => ((cycle_Forced.f t645 t646 t647 t648 t656).bind fun bt657 => (if bt657.2 = 0 then (if (bt657.1.length : Int) = (t652.length : Int) then (if 0 ≤ (wrap64 ((bt657.1.length : Int) - 1)) then (if (wrap64 ((bt657.1.length : Int) - 1)) < (bt657.1.length : Int) then (q_CycleForces.j1 kj7 t656 t652 bt657.1 ((rd bt657.1 (wrap64 ((bt657.1.length : Int) - 1))) != 0)) else (none)) else (none)) else (q_CycleForces.j1 kj7 t656 t652 bt657.1 true)) else (q_CycleForces.j1 kj7 t656 t652 bt657.1 true)))) = some r := by rw [if_neg (show ¬ (false = true) by decide)] at H; exact H
     clear H
     have H := H1
     clear H1
     replace H := Option.bind_eq_some_iff.mp H
     obtain ⟨t656, A180, H⟩ := H
     replace H : ((cycle_Forced.f t645 t646 t647 t648 t656).bind fun bt657 => (if bt657.2 = 0 then (if (bt657.1.length : Int) = (t652.length : Int) then (if 0 ≤ (wrap64 ((bt657.1.length : Int) - 1)) then (if (wrap64 ((bt657.1.length : Int) - 1)) < (bt657.1.length : Int) then (q_CycleForces.j1 kj7 t656 t652 bt657.1 ((rd bt657.1 (wrap64 ((bt657.1.length : Int) - 1))) != 0)) else (none)) else (none)) else (q_CycleForces.j1 kj7 t656 t652 bt657.1 true)) else (q_CycleForces.j1 kj7 t656 t652 bt657.1 true))) = some r := H
     have A18 := Aside0.mk A180
     clear A180
     replace H := Option.bind_eq_some_iff.mp H
     obtain ⟨⟨t657, t660⟩, A190, H⟩ := H
     replace H : (if t660 = 0 then (if (t657.length : Int) = (t652.length : Int) then (if 0 ≤ (wrap64 ((t657.length : Int) - 1)) then (if (wrap64 ((t657.length : Int) - 1)) < (t657.length : Int) then (q_CycleForces.j1 kj7 t656 t652 t657 ((rd t657 (wrap64 ((t657.length : Int) - 1))) != 0)) else (none)) else (none)) else (q_CycleForces.j1 kj7 t656 t652 t657 true)) else (q_CycleForces.j1 kj7 t656 t652 t657 true)) = some r := H
     have A19 := Aside0.mk A190
     clear A190
     have HC20 := Aside0.mk H
     clear H
     obtain ⟨Ao21, co21, eo21⟩ := Kd.R_slice HO_10.out
     subst eo21
     go_upto_region 8 with (first | (go_at_call 25; (with_reducible refine (kit_Mod.calls a2 (t652.length : Int) t656 _ A18.out).mono ?_); rintro e w' ⟨rfl, ⟨nd, rfl⟩⟩; (try first | exact ⟨rfl, _, World.drewN_drewN _ _ _⟩ | exact ⟨rfl, _, Eq.trans (World.drewN_drewN _ _ _) (congrArg (World.drewN _) (Nat.add_assoc _ _ _))⟩); have hcz22_0 := cz3 BK651.out; have hfz22_0 := blk_frozen BK651.out) | (go_at_call 13; (with_reducible refine (cycle_Forced.calls t645 t646 t647 _ _ t648 t656 t657 t660 _ ?side1 ?side2 A19.out).mono ?_); (case side1 => repeat (first | exact (Kd.R_reads' HO_9.out).2.2 | (with_reducible refine Kd.C_alloc ?_ _) | (with_reducible refine Kd.C_drewN ?_ _) | (with_reducible refine Kd.C_drew ?_))); (case side2 => exact (Kd.R_reads' HO_9.out).2.1); rintro e w23 ⟨v658, rfl, ho0, hb⟩; have HO659 := Aside0.mk (Kd.R_lower (Kd.R_new' ho0 (Kd.R_lt (kdt HO_10.out))) (bsz HB.out)); replace HO_9 := Aside0.mk (Kd.R_below (kdt HO_9.out) hb); replace HO_10 := Aside0.mk (Kd.R_elder' (kdt HO_10.out) (Kd.R_base ho0) hb); replace BK651 := Aside0.mk (bkb BK651.out hb); replace HB := Aside0.mk (bst HB.out hb); (try clear hb); (try clear hb2); (try clear hk); (try clear hi); (try clear ho0)))
     repeat (go_quiet (first | (go_at_call 25; (with_reducible refine (kit_Mod.calls a2 (t652.length : Int) t656 _ A18.out).mono ?_); rintro e w' ⟨rfl, ⟨nd, rfl⟩⟩; (try first | exact ⟨rfl, _, World.drewN_drewN _ _ _⟩ | exact ⟨rfl, _, Eq.trans (World.drewN_drewN _ _ _) (congrArg (World.drewN _) (Nat.add_assoc _ _ _))⟩); have hcz22_0 := cz3 BK651.out; have hfz22_0 := blk_frozen BK651.out) | (go_at_call 13; (with_reducible refine (cycle_Forced.calls t645 t646 t647 _ _ t648 t656 t657 t660 _ ?side1 ?side2 A19.out).mono ?_); (case side1 => repeat (first | exact (Kd.R_reads' HO_9.out).2.2 | (with_reducible refine Kd.C_alloc ?_ _) | (with_reducible refine Kd.C_drewN ?_ _) | (with_reducible refine Kd.C_drew ?_))); (case side2 => exact (Kd.R_reads' HO_9.out).2.1); rintro e w23 ⟨v658, rfl, ho0, hb⟩; have HO659 := Aside0.mk (Kd.R_lower (Kd.R_new' ho0 (Kd.R_lt (kdt HO_10.out))) (bsz HB.out)); replace HO_9 := Aside0.mk (Kd.R_below (kdt HO_9.out) hb); replace HO_10 := Aside0.mk (Kd.R_elder' (kdt HO_10.out) (Kd.R_base ho0) hb); replace BK651 := Aside0.mk (bkb BK651.out hb); replace HB := Aside0.mk (bst HB.out hb); (try clear hb); (try clear hb2); (try clear hk); (try clear hi); (try clear ho0))); go_upto_region 8 with (first | (go_at_call 25; (with_reducible refine (kit_Mod.calls a2 (t652.length : Int) t656 _ A18.out).mono ?_); rintro e w' ⟨rfl, ⟨nd, rfl⟩⟩; (try first | exact ⟨rfl, _, World.drewN_drewN _ _ _⟩ | exact ⟨rfl, _, Eq.trans (World.drewN_drewN _ _ _) (congrArg (World.drewN _) (Nat.add_assoc _ _ _))⟩); have hcz22_0 := cz3 BK651.out; have hfz22_0 := blk_frozen BK651.out) | (go_at_call 13; (with_reducible refine (cycle_Forced.calls t645 t646 t647 _ _ t648 t656 t657 t660 _ ?side1 ?side2 A19.out).mono ?_); (case side1 => repeat (first | exact (Kd.R_reads' HO_9.out).2.2 | (with_reducible refine Kd.C_alloc ?_ _) | (with_reducible refine Kd.C_drewN ?_ _) | (with_reducible refine Kd.C_drew ?_))); (case side2 => exact (Kd.R_reads' HO_9.out).2.1); rintro e w23 ⟨v658, rfl, ho0, hb⟩; have HO659 := Aside0.mk (Kd.R_lower (Kd.R_new' ho0 (Kd.R_lt (kdt HO_10.out))) (bsz HB.out)); replace HO_9 := Aside0.mk (Kd.R_below (kdt HO_9.out) hb); replace HO_10 := Aside0.mk (Kd.R_elder' (kdt HO_10.out) (Kd.R_base ho0) hb); replace BK651 := Aside0.mk (bkb BK651.out hb); replace HB := Aside0.mk (bst HB.out hb); (try clear hb); (try clear hb2); (try clear hk); (try clear hi); (try clear ho0))))
     (try simp only [Act.put, List.setIfInBounds_toArray, List.set_cons_zero, List.set_cons_succ])
     go_cut [64] (fun v64 wc => ∃ (kq : Nat) (x64_19 : Bool), v64 = .bool x64_19 ∧ Aside0 (q_CycleForces.j1 kq t656 t652 t657 x64_19 = some r) ∧ Aside0 (kq ≤ kj7) ∧ Aside0 (Kd.R (Kd.int .i64) 3 wc w.heap.size (fun k_ => some k_ ≠ (v658 : Value).ownBlock) (.slice Ao21 t652.length co21) t652) ∧ Aside0 (Kd.R (Kd.int .i64) 3 wc w.heap.size (fun k_ => some k_ ≠ ((.slice Ao21 t652.length co21) : Value).ownBlock) v658 t657) ∧ Aside0 (wc.heap[gb651]? = some (.cells #[.int .i64 t645, .int .i64 t646, .int .i64 t647] 23 (0, 0))) ∧ Aside0 (Below w.heap.size w wc))
     case first =>
      have H := HC20.out
      clear HC20
      by_cases c24 : t660 = 0
      ·rw [if_pos c24] at H
       have c24b0 : (t660 == 0) = true := beq_iff_eq.mpr c24
       have c24b1 : (t660 != 0) = false := bne_eq_false_iff_eq.mpr c24
       clear c24
       (first | rw [c24b0] | (simp only [i64_w, i32_w]; rw [c24b0]) | skip)
       by_cases c25 : (t657.length : Int) = (t652.length : Int)
       ·rw [if_pos c25] at H
        have c25b0 : ((t657.length : Int) == (t652.length : Int)) = true := beq_iff_eq.mpr c25
        have c25b1 : ((t657.length : Int) != (t652.length : Int)) = false := bne_eq_false_iff_eq.mpr c25
        have c25b2 : (t657.length == t652.length) = true := by first | simpa using c25 | (simp at c25 ⊢; omega)
        clear c25
        obtain ⟨ji26, hji26⟩ : ∃ j_ : Int, (wrap64 ((t657.length : Int) - 1)) = j_ := ⟨_, rfl⟩
        replace H : (if 0 ≤ (ji26) then (if (ji26) < (t657.length : Int) then (q_CycleForces.j1 kj7 t656 t652 t657 ((rd t657 (ji26)) != 0)) else (none)) else (none)) = some r := by first | (rw [hji26] at H; exact H) | (simp only [hji26] at H ⊢; exact H)
        have hji26w : (IntKind.i64.wrap ((t657.length : Int) - 1)) = ji26 := (i64_w _).trans hji26
        by_cases c27 : 0 ≤ (ji26)
        ·rw [if_pos c27] at H
         have c27b0 : decide (0 ≤ (ji26)) = true := decide_eq_true c27
         clear c27
         by_cases c28 : (ji26) < (t657.length : Int)
         ·rw [if_pos c28] at H
          have c28b0 : decide ((ji26) < (t657.length : Int)) = true := decide_eq_true c28
          clear c28
          have H' := Aside0.mk H
          clear H
          obtain ⟨Ao29, co29, eo29⟩ := Kd.R_slice HO659.out
          subst eo29
          have p661 : 0 ≤ ((ji26) : Int) := of_decide_eq_true (by first | (with_reducible assumption) | assumption)
          have q661 : (ji26) < (t657.length : Int) := of_decide_eq_true (by first | (with_reducible assumption) | assumption)
          obtain ⟨ad661, e661, hx661_0⟩ := Kd.at_int (Kd.R_reads' HO659.out).2.2 (ji26) p661 q661
          cases e661
          replace p661 := eq_true p661
          replace q661 := eq_true q661
          go_wp2
          repeat (go_quiet (fail); try go_wp2)
          go_meet
          case rel => exact ⟨_, (((rd t657 (ji26)) != 0)), (by first | rfl | (simp; done) | (simp only [← hji26] <;> (first | rfl | simp)) | (simp [*]; done)), H', ⟨by have := HJ7.out; first | omega | exact Nat.le_refl _⟩, ⟨by (with_reducible repeat (first | apply Kd.R_alloc | apply Kd.R_drewN | apply Kd.R_drew)); exact Kd.R_mono HO_10.out (fun _ hk => hk.2)⟩, ⟨by (with_reducible repeat (first | apply Kd.R_alloc | apply Kd.R_drewN | apply Kd.R_drew)); exact Kd.R_mono HO659.out (fun _ hk => hk.2)⟩, ⟨bkt BK651.out⟩, ⟨bel HB.out⟩⟩
         ·rw [if_neg c28] at H
          exact absurd H (by simp)
        ·rw [if_neg c27] at H
         exact absurd H (by simp)
       ·rw [if_neg c25] at H
        have c25b0 : ((t657.length : Int) == (t652.length : Int)) = false := beq_eq_false_iff_ne.mpr c25
        have c25b1 : ((t657.length : Int) != (t652.length : Int)) = true := bne_iff_ne.mpr c25
        have c25b2 : (t657.length == t652.length) = false := by first | simpa using c25 | (simp at c25 ⊢; omega)
        have H' := Aside0.mk H
        clear H
        obtain ⟨Ao30, co30, eo30⟩ := Kd.R_slice HO659.out
        subst eo30
        go_wp2
        repeat (go_quiet (fail); try go_wp2)
        go_meet
        case rel => exact ⟨_, (true), (by first | rfl | (simp; done) | (simp [*]; done)), H', ⟨by have := HJ7.out; first | omega | exact Nat.le_refl _⟩, ⟨by (with_reducible repeat (first | apply Kd.R_alloc | apply Kd.R_drewN | apply Kd.R_drew)); exact Kd.R_mono HO_10.out (fun _ hk => hk.2)⟩, ⟨by (with_reducible repeat (first | apply Kd.R_alloc | apply Kd.R_drewN | apply Kd.R_drew)); exact Kd.R_mono HO659.out (fun _ hk => hk.2)⟩, ⟨bkt BK651.out⟩, ⟨bel HB.out⟩⟩
      ·rw [if_neg c24] at H
       have c24b0 : (t660 == 0) = false := beq_eq_false_iff_ne.mpr c24
       have c24b1 : (t660 != 0) = true := bne_iff_ne.mpr c24
       (first | rw [c24b0] | (simp only [i64_w, i32_w]; rw [c24b0]) | skip)
       have H' := Aside0.mk H
       clear H
       go_wp2
       repeat (go_quiet (fail); try go_wp2)
       go_meet
       case rel => exact ⟨_, (true), (by first | rfl | (simp; done) | (simp [*]; done)), H', ⟨by have := HJ7.out; first | omega | exact Nat.le_refl _⟩, ⟨by (with_reducible repeat (first | apply Kd.R_alloc | apply Kd.R_drewN | apply Kd.R_drew)); exact Kd.R_mono HO_10.out (fun _ hk => hk.2)⟩, ⟨by (with_reducible repeat (first | apply Kd.R_alloc | apply Kd.R_drewN | apply Kd.R_drew)); exact Kd.R_mono HO659.out (fun _ hk => hk.2)⟩, ⟨bkt BK651.out⟩, ⟨bel HB.out⟩⟩
     case rest =>
      clear HC20
      try clear c1
      try clear c2
      try clear p2
      try clear c5
      try clear c6
      try clear p6
      try clear q6
      try clear hx6
      try clear c15
      try clear c15b0
      try clear c15b1
      try clear c17
      try clear c24
      try clear c24b0
      try clear c24b1
      try clear c25
      try clear c25b0
      try clear c25b1
      try clear c25b2
      try clear c27
      try clear c27b0
      try clear c28
      try clear c28b0
      try clear hcz12_0
      try clear hcz22_0
      try clear hfz12_0
      try clear hfz22_0
      try clear hx661_0
      try clear p2
      try clear p661
      try clear q661
      obtain ⟨kq, x64_19, rfl, HA, HJ19, HO_10, HO_12, BK651, HB⟩ := hcut
      cases kq with
      | zero => exact absurd HA.out (by simp [q_CycleForces.j1])
      | succ kj19 =>
       have H := HA.out
       clear HA
       simp only [q_CycleForces.j1] at H
       by_cases c31 : x64_19 = true
       ·subst c31
        have H1 : (none) = some r := by rw [if_pos rfl] at H; exact H
        clear H
        have H := H1
        clear H1
        exact absurd H (by simp)
       ·replace c31 := Bool.eq_false_iff.mpr c31
        subst c31
        have H1 : (q_CycleForces.l0 kj19 t656 t652 t657 0) = some r := by rw [if_neg (show ¬ (false = true) by decide)] at H; exact H
        clear H
        have H := H1
        clear H1
        have H' := Aside0.mk H
        clear H
        go_wp2
        repeat (go_quiet (fail); try go_wp2)
        go_loopg [14] kj19 (fun kq v14 w' => ∃ (x14_3 : Int), v14 = .int .i64 x14_3 ∧ Aside0 (q_CycleForces.l0 kq t656 t652 t657 x14_3 = some r) ∧ Aside0 (kq ≤ kj19) ∧ Aside0 (Kd.R (Kd.int .i64) 3 w' w.heap.size (fun k_ => some k_ ≠ (v658 : Value).ownBlock) (.slice Ao21 t652.length co21) t652) ∧ Aside0 (Kd.R (Kd.int .i64) 3 w' w.heap.size (fun k_ => some k_ ≠ ((.slice Ao21 t652.length co21) : Value).ownBlock) v658 t657) ∧ Aside0 (w'.heap[gb651]? = some (.cells #[.int .i64 t645, .int .i64 t646, .int .i64 t647] 23 (0, 0))) ∧ Aside0 (Below w.heap.size w w'))
        case atStart => exact ⟨(0), (by first | rfl | (simp; done) | (simp [*]; done)), H', ⟨Nat.le_refl _⟩, ⟨kdt HO_10.out⟩, ⟨kdt HO_12.out⟩, ⟨bkt BK651.out⟩, ⟨bel HB.out⟩⟩
        case round =>
         clear H'
         try clear c1
         try clear c2
         try clear p2
         try clear c3
         try clear c5
         try clear c6
         try clear p6
         try clear q6
         try clear hx6
         try clear c15
         try clear c15b0
         try clear c15b1
         try clear c17
         try clear c24
         try clear c24b0
         try clear c24b1
         try clear c25
         try clear c25b0
         try clear c25b1
         try clear c25b2
         try clear c27
         try clear c27b0
         try clear c28
         try clear c28b0
         try clear c31
         try clear hcz12_0
         try clear hcz22_0
         try clear hfz12_0
         try clear hfz22_0
         try clear hx661_0
         try clear p2
         try clear p6
         try clear p661
         try clear q6
         try clear q661
         obtain ⟨x14_3, rfl, HA, HK3, HO_10, HO_12, BK651, HB⟩ := hrel
         cases gk with
         | zero => exact absurd HA.out (by simp [q_CycleForces.l0])
         | succ k3 =>
          have H := HA.out
          clear HA
          simp only [q_CycleForces.l0] at H
          by_cases c32 : x14_3 < (t652.length : Int)
          ·rw [if_pos c32] at H
           have c32b0 : decide (x14_3 < (t652.length : Int)) = true := decide_eq_true c32
           clear c32
           by_cases c33 : x14_3 > 0
           ·rw [if_pos c33] at H
            have c33b0 : decide (0 < x14_3) = true := decide_eq_true c33
            clear c33
            obtain ⟨ji34, hji34⟩ : ∃ j_ : Int, (wrap64 (x14_3 - 1)) = j_ := ⟨_, rfl⟩
            replace H : (if 0 ≤ (ji34) then (if (ji34) < (t657.length : Int) then (if x14_3 < t656 then (if 0 ≤ x14_3 then (if x14_3 < (t657.length : Int) then (if (rd t657 x14_3) = (rd t652 x14_3) then (if x14_3 ≥ t656 then (if (rd t657 x14_3) = (mx 0 (wrap64 ((rd t657 (ji34)) - 1))) then (q_CycleForces.l0 k3 t656 t652 t657 (wrap64 (x14_3 + 1))) else (none)) else (q_CycleForces.l0 k3 t656 t652 t657 (wrap64 (x14_3 + 1)))) else (none)) else (none)) else (none)) else (if x14_3 ≥ t656 then (if 0 ≤ x14_3 then (if x14_3 < (t657.length : Int) then (if (rd t657 x14_3) = (mx 0 (wrap64 ((rd t657 (ji34)) - 1))) then (q_CycleForces.l0 k3 t656 t652 t657 (wrap64 (x14_3 + 1))) else (none)) else (none)) else (none)) else (q_CycleForces.l0 k3 t656 t652 t657 (wrap64 (x14_3 + 1))))) else (none)) else (none)) = some r := by first | (rw [hji34] at H; exact H) | (simp only [hji34] at H ⊢; exact H)
            have hji34w : (IntKind.i64.wrap (x14_3 - 1)) = ji34 := (i64_w _).trans hji34
            by_cases c35 : 0 ≤ (ji34)
            ·rw [if_pos c35] at H
             have c35b0 : decide (0 ≤ (ji34)) = true := decide_eq_true c35
             clear c35
             by_cases c36 : (ji34) < (t657.length : Int)
             ·rw [if_pos c36] at H
              have c36b0 : decide ((ji34) < (t657.length : Int)) = true := decide_eq_true c36
              clear c36
              by_cases c37 : x14_3 < t656
              ·rw [if_pos c37] at H
               have c37b0 : decide (x14_3 < t656) = true := decide_eq_true c37
               clear c37
               by_cases c38 : 0 ≤ x14_3
               ·rw [if_pos c38] at H
                have c38b0 : decide (0 ≤ x14_3) = true := decide_eq_true c38
                clear c38
                by_cases c39 : x14_3 < (t657.length : Int)
                ·rw [if_pos c39] at H
                 have c39b0 : decide (x14_3 < (t657.length : Int)) = true := decide_eq_true c39
                 clear c39
                 by_cases c40 : (rd t657 x14_3) = (rd t652 x14_3)
                 ·rw [if_pos c40] at H
                  have c40b0 : ((rd t657 x14_3) == (rd t652 x14_3)) = true := beq_iff_eq.mpr c40
                  have c40b1 : ((rd t657 x14_3) != (rd t652 x14_3)) = false := bne_eq_false_iff_eq.mpr c40
                  clear c40
                  by_cases c41 : x14_3 ≥ t656
                  ·rw [if_pos c41] at H
                   have c41b0 : decide (t656 ≤ x14_3) = true := decide_eq_true c41
                   clear c41
                   obtain ⟨ji42, hji42⟩ : ∃ j_ : Int, (mx 0 (wrap64 ((rd t657 (ji34)) - 1))) = j_ := ⟨_, rfl⟩
                   replace H : (if (rd t657 x14_3) = (ji42) then (q_CycleForces.l0 k3 t656 t652 t657 (wrap64 (x14_3 + 1))) else (none)) = some r := by first | (rw [hji42] at H; exact H) | (simp only [hji42] at H ⊢; exact H)
                   have hji42_ : (if 0 < (wrap64 ((rd t657 (ji34)) - 1)) then (wrap64 ((rd t657 (ji34)) - 1)) else 0) = ji42 := hji42
                   by_cases c43 : (rd t657 x14_3) = (ji42)
                   ·rw [if_pos c43] at H
                    have c43b0 : ((rd t657 x14_3) == (ji42)) = true := beq_iff_eq.mpr c43
                    have c43b1 : ((rd t657 x14_3) != (ji42)) = false := bne_eq_false_iff_eq.mpr c43
                    clear c43
                    have H' := Aside0.mk H
                    clear H
                    obtain ⟨Ao44, co44, eo44⟩ := Kd.R_slice HO_12.out
                    subst eo44
                    have p662 : 0 ≤ ((ji34) : Int) := of_decide_eq_true (by first | (with_reducible assumption) | assumption)
                    have q662 : (ji34) < (t657.length : Int) := of_decide_eq_true (by first | (with_reducible assumption) | assumption)
                    obtain ⟨ad662, e662, hx662_0⟩ := Kd.at_int (Kd.R_reads' HO_12.out).2.2 (ji34) p662 q662
                    cases e662
                    replace p662 := eq_true p662
                    replace q662 := eq_true q662
                    have p663 : 0 ≤ (x14_3 : Int) := of_decide_eq_true (by first | (with_reducible assumption) | assumption)
                    have q663 : x14_3 < (t657.length : Int) := of_decide_eq_true (by first | (with_reducible assumption) | assumption)
                    obtain ⟨ad663, e663, hx663_0⟩ := Kd.at_int (Kd.R_reads' HO_12.out).2.2 x14_3 p663 q663
                    obtain rfl : ad662 = ad663 := (by injection e663)
                    replace p663 := eq_true p663
                    replace q663 := eq_true q663
                    have p664 : 0 ≤ (x14_3 : Int) := of_decide_eq_true (by first | (with_reducible assumption) | assumption)
                    have q664 : x14_3 < (t652.length : Int) := of_decide_eq_true (by first | (with_reducible assumption) | assumption)
                    obtain ⟨ad664, e664, hx664_0⟩ := Kd.at_int (Kd.R_reads' HO_10.out).2.2 x14_3 p664 q664
                    cases e664
                    replace p664 := eq_true p664
                    replace q664 := eq_true q664
                    have p665 : 0 ≤ (x14_3 : Int) := of_decide_eq_true (by first | (with_reducible assumption) | assumption)
                    have q665 : x14_3 < (t657.length : Int) := of_decide_eq_true (by first | (with_reducible assumption) | assumption)
                    obtain ⟨ad665, e665, hx665_0⟩ := Kd.at_int (Kd.R_reads' HO_12.out).2.2 x14_3 p665 q665
                    obtain rfl : ad662 = ad665 := (by injection e665)
                    replace p665 := eq_true p665
                    replace q665 := eq_true q665
                    go_wp2
                    repeat (go_quiet (fail); try go_wp2)
                    go_roundg k3
                    case measure => have := HJ7.out; have := HJ19.out; have := HK3.out; omega
                    case rel => exact ⟨(wrap64 (x14_3 + 1)), (by first | rfl | (simp; done) | (simp [*]; done)), H', ⟨by have := HJ7.out; have := HJ19.out; have := HK3.out; omega⟩, ⟨kdt HO_10.out⟩, ⟨kdt HO_12.out⟩, ⟨bkt BK651.out⟩, ⟨bel HB.out⟩⟩
                   ·rw [if_neg c43] at H
                    exact absurd H (by simp)
                  ·rw [if_neg c41] at H
                   have c41b0 : decide (t656 ≤ x14_3) = false := decide_eq_false c41
                   clear c41
                   have H' := Aside0.mk H
                   clear H
                   obtain ⟨Ao45, co45, eo45⟩ := Kd.R_slice HO_12.out
                   subst eo45
                   have p662 : 0 ≤ ((ji34) : Int) := of_decide_eq_true (by first | (with_reducible assumption) | assumption)
                   have q662 : (ji34) < (t657.length : Int) := of_decide_eq_true (by first | (with_reducible assumption) | assumption)
                   obtain ⟨ad662, e662, hx662_0⟩ := Kd.at_int (Kd.R_reads' HO_12.out).2.2 (ji34) p662 q662
                   cases e662
                   replace p662 := eq_true p662
                   replace q662 := eq_true q662
                   have p663 : 0 ≤ (x14_3 : Int) := of_decide_eq_true (by first | (with_reducible assumption) | assumption)
                   have q663 : x14_3 < (t657.length : Int) := of_decide_eq_true (by first | (with_reducible assumption) | assumption)
                   obtain ⟨ad663, e663, hx663_0⟩ := Kd.at_int (Kd.R_reads' HO_12.out).2.2 x14_3 p663 q663
                   obtain rfl : ad662 = ad663 := (by injection e663)
                   replace p663 := eq_true p663
                   replace q663 := eq_true q663
                   have p664 : 0 ≤ (x14_3 : Int) := of_decide_eq_true (by first | (with_reducible assumption) | assumption)
                   have q664 : x14_3 < (t652.length : Int) := of_decide_eq_true (by first | (with_reducible assumption) | assumption)
                   obtain ⟨ad664, e664, hx664_0⟩ := Kd.at_int (Kd.R_reads' HO_10.out).2.2 x14_3 p664 q664
                   cases e664
                   replace p664 := eq_true p664
                   replace q664 := eq_true q664
                   go_wp2
                   repeat (go_quiet (fail); try go_wp2)
                   go_roundg k3
                   case measure => have := HJ7.out; have := HJ19.out; have := HK3.out; omega
                   case rel => exact ⟨(wrap64 (x14_3 + 1)), (by first | rfl | (simp; done) | (simp [*]; done)), H', ⟨by have := HJ7.out; have := HJ19.out; have := HK3.out; omega⟩, ⟨kdt HO_10.out⟩, ⟨kdt HO_12.out⟩, ⟨bkt BK651.out⟩, ⟨bel HB.out⟩⟩
                 ·rw [if_neg c40] at H
                  exact absurd H (by simp)
                ·rw [if_neg c39] at H
                 exact absurd H (by simp)
               ·rw [if_neg c38] at H
                exact absurd H (by simp)
              ·rw [if_neg c37] at H
               have c37b0 : decide (x14_3 < t656) = false := decide_eq_false c37
               clear c37
               by_cases c46 : x14_3 ≥ t656
               ·rw [if_pos c46] at H
                have c46b0 : decide (t656 ≤ x14_3) = true := decide_eq_true c46
                clear c46
                by_cases c47 : 0 ≤ x14_3
                ·rw [if_pos c47] at H
                 have c47b0 : decide (0 ≤ x14_3) = true := decide_eq_true c47
                 clear c47
                 by_cases c48 : x14_3 < (t657.length : Int)
                 ·rw [if_pos c48] at H
                  have c48b0 : decide (x14_3 < (t657.length : Int)) = true := decide_eq_true c48
                  clear c48
                  obtain ⟨ji49, hji49⟩ : ∃ j_ : Int, (mx 0 (wrap64 ((rd t657 (ji34)) - 1))) = j_ := ⟨_, rfl⟩
                  replace H : (if (rd t657 x14_3) = (ji49) then (q_CycleForces.l0 k3 t656 t652 t657 (wrap64 (x14_3 + 1))) else (none)) = some r := by first | (rw [hji49] at H; exact H) | (simp only [hji49] at H ⊢; exact H)
                  have hji49_ : (if 0 < (wrap64 ((rd t657 (ji34)) - 1)) then (wrap64 ((rd t657 (ji34)) - 1)) else 0) = ji49 := hji49
                  by_cases c50 : (rd t657 x14_3) = (ji49)
                  ·rw [if_pos c50] at H
                   have c50b0 : ((rd t657 x14_3) == (ji49)) = true := beq_iff_eq.mpr c50
                   have c50b1 : ((rd t657 x14_3) != (ji49)) = false := bne_eq_false_iff_eq.mpr c50
                   clear c50
                   have H' := Aside0.mk H
                   clear H
                   obtain ⟨Ao51, co51, eo51⟩ := Kd.R_slice HO_12.out
                   subst eo51
                   have p662 : 0 ≤ ((ji34) : Int) := of_decide_eq_true (by first | (with_reducible assumption) | assumption)
                   have q662 : (ji34) < (t657.length : Int) := of_decide_eq_true (by first | (with_reducible assumption) | assumption)
                   obtain ⟨ad662, e662, hx662_0⟩ := Kd.at_int (Kd.R_reads' HO_12.out).2.2 (ji34) p662 q662
                   cases e662
                   replace p662 := eq_true p662
                   replace q662 := eq_true q662
                   have p666 : 0 ≤ (x14_3 : Int) := of_decide_eq_true (by first | (with_reducible assumption) | assumption)
                   have q666 : x14_3 < (t657.length : Int) := of_decide_eq_true (by first | (with_reducible assumption) | assumption)
                   obtain ⟨ad666, e666, hx666_0⟩ := Kd.at_int (Kd.R_reads' HO_12.out).2.2 x14_3 p666 q666
                   obtain rfl : ad662 = ad666 := (by injection e666)
                   replace p666 := eq_true p666
                   replace q666 := eq_true q666
                   go_wp2
                   repeat (go_quiet (fail); try go_wp2)
                   go_roundg k3
                   case measure => have := HJ7.out; have := HJ19.out; have := HK3.out; omega
                   case rel => exact ⟨(wrap64 (x14_3 + 1)), (by first | rfl | (simp; done) | (simp [*]; done)), H', ⟨by have := HJ7.out; have := HJ19.out; have := HK3.out; omega⟩, ⟨kdt HO_10.out⟩, ⟨kdt HO_12.out⟩, ⟨bkt BK651.out⟩, ⟨bel HB.out⟩⟩
                  ·rw [if_neg c50] at H
                   exact absurd H (by simp)
                 ·rw [if_neg c48] at H
                  exact absurd H (by simp)
                ·rw [if_neg c47] at H
                 exact absurd H (by simp)
               ·rw [if_neg c46] at H
                have c46b0 : decide (t656 ≤ x14_3) = false := decide_eq_false c46
                clear c46
                have H' := Aside0.mk H
                clear H
                obtain ⟨Ao52, co52, eo52⟩ := Kd.R_slice HO_12.out
                subst eo52
                have p662 : 0 ≤ ((ji34) : Int) := of_decide_eq_true (by first | (with_reducible assumption) | assumption)
                have q662 : (ji34) < (t657.length : Int) := of_decide_eq_true (by first | (with_reducible assumption) | assumption)
                obtain ⟨ad662, e662, hx662_0⟩ := Kd.at_int (Kd.R_reads' HO_12.out).2.2 (ji34) p662 q662
                cases e662
                replace p662 := eq_true p662
                replace q662 := eq_true q662
                go_wp2
                repeat (go_quiet (fail); try go_wp2)
                go_roundg k3
                case measure => have := HJ7.out; have := HJ19.out; have := HK3.out; omega
                case rel => exact ⟨(wrap64 (x14_3 + 1)), (by first | rfl | (simp; done) | (simp [*]; done)), H', ⟨by have := HJ7.out; have := HJ19.out; have := HK3.out; omega⟩, ⟨kdt HO_10.out⟩, ⟨kdt HO_12.out⟩, ⟨bkt BK651.out⟩, ⟨bel HB.out⟩⟩
             ·rw [if_neg c36] at H
              exact absurd H (by simp)
            ·rw [if_neg c35] at H
             exact absurd H (by simp)
           ·rw [if_neg c33] at H
            have c33b0 : decide (0 < x14_3) = false := decide_eq_false c33
            clear c33
            by_cases c53 : x14_3 < t656
            ·rw [if_pos c53] at H
             have c53b0 : decide (x14_3 < t656) = true := decide_eq_true c53
             clear c53
             by_cases c54 : 0 ≤ x14_3
             ·rw [if_pos c54] at H
              have c54b0 : decide (0 ≤ x14_3) = true := decide_eq_true c54
              clear c54
              by_cases c55 : x14_3 < (t657.length : Int)
              ·rw [if_pos c55] at H
               have c55b0 : decide (x14_3 < (t657.length : Int)) = true := decide_eq_true c55
               clear c55
               by_cases c56 : (rd t657 x14_3) = (rd t652 x14_3)
               ·rw [if_pos c56] at H
                have c56b0 : ((rd t657 x14_3) == (rd t652 x14_3)) = true := beq_iff_eq.mpr c56
                have c56b1 : ((rd t657 x14_3) != (rd t652 x14_3)) = false := bne_eq_false_iff_eq.mpr c56
                clear c56
                by_cases c57 : x14_3 ≥ t656
                ·rw [if_pos c57] at H
                 have c57b0 : decide (t656 ≤ x14_3) = true := decide_eq_true c57
                 clear c57
                 obtain ⟨ji58, hji58⟩ : ∃ j_ : Int, (mx 0 (-1)) = j_ := ⟨_, rfl⟩
                 replace H : (if (rd t657 x14_3) = (ji58) then (q_CycleForces.l0 k3 t656 t652 t657 (wrap64 (x14_3 + 1))) else (none)) = some r := by first | (rw [hji58] at H; exact H) | (simp only [hji58] at H ⊢; exact H)
                 (try (have hji58h : ji58 ≤ 0 := by (rw [← hji58]; unfold mx; (repeat' split) <;> omega)))
                 (try (have hji58g : ji58 ≤ 64 := by omega))
                 (try (have hji58l : 0 ≤ ji58 := by (rw [← hji58]; unfold mx; (repeat' split) <;> omega)))
                 (try (have hji58m : 0 ≤ ji58 := by omega))
                 have hji58_ : (if 0 < (-1) then (-1) else 0) = ji58 := hji58
                 by_cases c59 : (rd t657 x14_3) = (ji58)
                 ·rw [if_pos c59] at H
                  have c59b0 : ((rd t657 x14_3) == (ji58)) = true := beq_iff_eq.mpr c59
                  have c59b1 : ((rd t657 x14_3) != (ji58)) = false := bne_eq_false_iff_eq.mpr c59
                  clear c59
                  have H' := Aside0.mk H
                  clear H
                  obtain ⟨Ao60, co60, eo60⟩ := Kd.R_slice HO_12.out
                  subst eo60
                  have p667 : 0 ≤ (x14_3 : Int) := of_decide_eq_true (by first | (with_reducible assumption) | assumption)
                  have q667 : x14_3 < (t657.length : Int) := of_decide_eq_true (by first | (with_reducible assumption) | assumption)
                  obtain ⟨ad667, e667, hx667_0⟩ := Kd.at_int (Kd.R_reads' HO_12.out).2.2 x14_3 p667 q667
                  cases e667
                  replace p667 := eq_true p667
                  replace q667 := eq_true q667
                  have p668 : 0 ≤ (x14_3 : Int) := of_decide_eq_true (by first | (with_reducible assumption) | assumption)
                  have q668 : x14_3 < (t652.length : Int) := of_decide_eq_true (by first | (with_reducible assumption) | assumption)
                  obtain ⟨ad668, e668, hx668_0⟩ := Kd.at_int (Kd.R_reads' HO_10.out).2.2 x14_3 p668 q668
                  cases e668
                  replace p668 := eq_true p668
                  replace q668 := eq_true q668
                  have p669 : 0 ≤ (x14_3 : Int) := of_decide_eq_true (by first | (with_reducible assumption) | assumption)
                  have q669 : x14_3 < (t657.length : Int) := of_decide_eq_true (by first | (with_reducible assumption) | assumption)
                  obtain ⟨ad669, e669, hx669_0⟩ := Kd.at_int (Kd.R_reads' HO_12.out).2.2 x14_3 p669 q669
                  obtain rfl : ad667 = ad669 := (by injection e669)
                  replace p669 := eq_true p669
                  replace q669 := eq_true q669
                  go_wp2
                  repeat (go_quiet (fail); try go_wp2)
                  go_roundg k3
                  case measure => have := HJ7.out; have := HJ19.out; have := HK3.out; omega
                  case rel => exact ⟨(wrap64 (x14_3 + 1)), (by first | rfl | (simp; done) | (simp [*]; done)), H', ⟨by have := HJ7.out; have := HJ19.out; have := HK3.out; omega⟩, ⟨kdt HO_10.out⟩, ⟨kdt HO_12.out⟩, ⟨bkt BK651.out⟩, ⟨bel HB.out⟩⟩
                 ·rw [if_neg c59] at H
                  exact absurd H (by simp)
                ·rw [if_neg c57] at H
                 have c57b0 : decide (t656 ≤ x14_3) = false := decide_eq_false c57
                 clear c57
                 have H' := Aside0.mk H
                 clear H
                 obtain ⟨Ao61, co61, eo61⟩ := Kd.R_slice HO_12.out
                 subst eo61
                 have p667 : 0 ≤ (x14_3 : Int) := of_decide_eq_true (by first | (with_reducible assumption) | assumption)
                 have q667 : x14_3 < (t657.length : Int) := of_decide_eq_true (by first | (with_reducible assumption) | assumption)
                 obtain ⟨ad667, e667, hx667_0⟩ := Kd.at_int (Kd.R_reads' HO_12.out).2.2 x14_3 p667 q667
                 cases e667
                 replace p667 := eq_true p667
                 replace q667 := eq_true q667
                 have p668 : 0 ≤ (x14_3 : Int) := of_decide_eq_true (by first | (with_reducible assumption) | assumption)
                 have q668 : x14_3 < (t652.length : Int) := of_decide_eq_true (by first | (with_reducible assumption) | assumption)
                 obtain ⟨ad668, e668, hx668_0⟩ := Kd.at_int (Kd.R_reads' HO_10.out).2.2 x14_3 p668 q668
                 cases e668
                 replace p668 := eq_true p668
                 replace q668 := eq_true q668
                 go_wp2
                 repeat (go_quiet (fail); try go_wp2)
                 go_roundg k3
                 case measure => have := HJ7.out; have := HJ19.out; have := HK3.out; omega
                 case rel => exact ⟨(wrap64 (x14_3 + 1)), (by first | rfl | (simp; done) | (simp [*]; done)), H', ⟨by have := HJ7.out; have := HJ19.out; have := HK3.out; omega⟩, ⟨kdt HO_10.out⟩, ⟨kdt HO_12.out⟩, ⟨bkt BK651.out⟩, ⟨bel HB.out⟩⟩
               ·rw [if_neg c56] at H
                exact absurd H (by simp)
              ·rw [if_neg c55] at H
               exact absurd H (by simp)
             ·rw [if_neg c54] at H
              exact absurd H (by simp)
            ·rw [if_neg c53] at H
             have c53b0 : decide (x14_3 < t656) = false := decide_eq_false c53
             clear c53
             by_cases c62 : x14_3 ≥ t656
             ·rw [if_pos c62] at H
              have c62b0 : decide (t656 ≤ x14_3) = true := decide_eq_true c62
              clear c62
              by_cases c63 : 0 ≤ x14_3
              ·rw [if_pos c63] at H
               have c63b0 : decide (0 ≤ x14_3) = true := decide_eq_true c63
               clear c63
               by_cases c64 : x14_3 < (t657.length : Int)
               ·rw [if_pos c64] at H
                have c64b0 : decide (x14_3 < (t657.length : Int)) = true := decide_eq_true c64
                clear c64
                obtain ⟨ji65, hji65⟩ : ∃ j_ : Int, (mx 0 (-1)) = j_ := ⟨_, rfl⟩
                replace H : (if (rd t657 x14_3) = (ji65) then (q_CycleForces.l0 k3 t656 t652 t657 (wrap64 (x14_3 + 1))) else (none)) = some r := by first | (rw [hji65] at H; exact H) | (simp only [hji65] at H ⊢; exact H)
                (try (have hji65h : ji65 ≤ 0 := by (rw [← hji65]; unfold mx; (repeat' split) <;> omega)))
                (try (have hji65g : ji65 ≤ 64 := by omega))
                (try (have hji65l : 0 ≤ ji65 := by (rw [← hji65]; unfold mx; (repeat' split) <;> omega)))
                (try (have hji65m : 0 ≤ ji65 := by omega))
                have hji65_ : (if 0 < (-1) then (-1) else 0) = ji65 := hji65
                by_cases c66 : (rd t657 x14_3) = (ji65)
                ·rw [if_pos c66] at H
                 have c66b0 : ((rd t657 x14_3) == (ji65)) = true := beq_iff_eq.mpr c66
                 have c66b1 : ((rd t657 x14_3) != (ji65)) = false := bne_eq_false_iff_eq.mpr c66
                 clear c66
                 have H' := Aside0.mk H
                 clear H
                 obtain ⟨Ao67, co67, eo67⟩ := Kd.R_slice HO_12.out
                 subst eo67
                 have p670 : 0 ≤ (x14_3 : Int) := of_decide_eq_true (by first | (with_reducible assumption) | assumption)
                 have q670 : x14_3 < (t657.length : Int) := of_decide_eq_true (by first | (with_reducible assumption) | assumption)
                 obtain ⟨ad670, e670, hx670_0⟩ := Kd.at_int (Kd.R_reads' HO_12.out).2.2 x14_3 p670 q670
                 cases e670
                 replace p670 := eq_true p670
                 replace q670 := eq_true q670
                 go_wp2
                 repeat (go_quiet (fail); try go_wp2)
                 go_roundg k3
                 case measure => have := HJ7.out; have := HJ19.out; have := HK3.out; omega
                 case rel => exact ⟨(wrap64 (x14_3 + 1)), (by first | rfl | (simp; done) | (simp [*]; done)), H', ⟨by have := HJ7.out; have := HJ19.out; have := HK3.out; omega⟩, ⟨kdt HO_10.out⟩, ⟨kdt HO_12.out⟩, ⟨bkt BK651.out⟩, ⟨bel HB.out⟩⟩
                ·rw [if_neg c66] at H
                 exact absurd H (by simp)
               ·rw [if_neg c64] at H
                exact absurd H (by simp)
              ·rw [if_neg c63] at H
               exact absurd H (by simp)
             ·rw [if_neg c62] at H
              have c62b0 : decide (t656 ≤ x14_3) = false := decide_eq_false c62
              clear c62
              have H' := Aside0.mk H
              clear H
              go_wp2
              repeat (go_quiet (fail); try go_wp2)
              go_roundg k3
              case measure => have := HJ7.out; have := HJ19.out; have := HK3.out; omega
              case rel => exact ⟨(wrap64 (x14_3 + 1)), (by first | rfl | (simp; done) | (simp [*]; done)), H', ⟨by have := HJ7.out; have := HJ19.out; have := HK3.out; omega⟩, ⟨kdt HO_10.out⟩, ⟨kdt HO_12.out⟩, ⟨bkt BK651.out⟩, ⟨bel HB.out⟩⟩
          ·rw [if_neg c32] at H
           have c32b0 : decide (x14_3 < (t652.length : Int)) = false := decide_eq_false c32
           clear c32
           obtain rfl := Option.some.inj H
           go_wp2
           repeat (go_quiet (fail); try go_wp2)
           go_ret
           exact bfin (bel HB.out)
 ·replace c5 := Bool.eq_false_iff.mpr c5
  subst c5
  have H1 : (none) = some r := by rw [if_neg (show ¬ (false = true) by decide)] at H; exact H
  clear H
  have H := H1
  clear H1
  exact absurd H (by simp)

/-- THE ONE PURE STATEMENT of q_CycleForces: yours. -/
def q_CycleForces.Pure : Prop := ∀ (a0 : Int) (l1 : List Int) (a2 : Int), (Lit.int .i64 a0).wf = true → l1.length ≤ maxLen → l1.length * 8 ≤ 140737488351232 → (∀ x ∈ l1, (Lit.int .i64 x).wf = true) → (Lit.int .i64 a2).wf = true → ∃ k, q_CycleForces.f k a0 l1 a2 = some true
theorem q_CycleForces.walk (P : q_CycleForces.Pure) (a0 : Int) (a1 : Option Addr) (len1 cap1 : Nat) (z1 : List Int) (a2 : Int) (w : World) (w0 : (Lit.int .i64 a0).wf = true) (w1 : (a1 = none ∧ len1 = 0 ∧ cap1 = 0 ∧ z1 = []) ∨ ∃ x, a1 = some x ∧ len1 ≤ cap1 ∧ cap1 ≤ maxLen ∧ z1.length = cap1 ∧ (∀ i, i < z1.length → w.cell? (x.add i) = some (.int .i64 (z1.getD i 0))) ∧ ∀ n ∈ z1, (Lit.int .i64 n).wf = true) (y1 : len1 * 8 ≤ 140737488351232) (w2 : (Lit.int .i64 a2).wf = true) :
  Calls Try.prog 6 #[.int .i64 a0, .slice a1 len1 cap1, .int .i64 a2] w fun e w' => e = .returned (.bool true) ∧ Below w.heap.size w w' := by
 obtain ⟨l1, rfl, hr1, hm1, hw1, hc1⟩ := ReadsInt.ofRowC w1
 obtain ⟨k, h⟩ := P a0 l1 a2 w0 hm1 y1 hw1 w2
 refine (q_CycleForces.calls k a0 _ _ l1 a2 true w (Kd.C_of_reads (d := (0 : Int)) (h1 := fun _ => rfl) hr1) hc1 h).mono ?_
 rintro e w' ⟨rfl, hd⟩
 exact ⟨rfl, hd⟩

end Go.Proofs.Ytmjmdnpenpdmhaa.P
