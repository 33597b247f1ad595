-- Printed by wip/myprint.py of this repo (over the kit's printer). Not trusted: Lean checks it.
import Derived.Test.YtofffhnhinolnaaP0
import Derived.Test.YtofffhnhinolnaaE23
import Derived.Test.YtofffhnhinolnaaP0doora
import Derived.Test.YtofffhnhinolnaaP0tipstaffkit
import Derived.Test.YtofffhnhinolnaaP0tipstafflaw18
import Derived.Test.YtofffhnhinolnaaP1door
import Derived.Test.YtofffhnhinolnaaP1tipstafflaw18
import Derived.Test.YtofffhnhinolnaaRa
import Derived.Test.YtofffhnhinolnaaRb
namespace Go.Proofs.Ytofffhnhinolnaa.P
open Go.RowKit Go.Proofs.YtofffhnhinolnaaW.PrintWords Go.Proofs.YtofffhnhinolnaaW.PrintLast Go.Proofs.YtofffhnhinolnaaW.PrintMore
attribute [local go_sem] max2_int min2_int max_two min_two max_three min_three max_four min_four   -- for this text's walks alone
set_option linter.unusedVariables false
set_option linter.unusedSimpArgs false

attribute [local go_sem high] eqA23
/-! ### q_DoorWorst: function 7 -/
mutual
def q_DoorWorst.j0 : Nat → Int → Bool → Int → Int → Int → Int → Int → Int → Int → Int → Int → Int → Int → Option (Bool)
 | 0, _, _, _, _, _, _, _, _, _, _, _, _, _ => none
 | k + 1, x4, x36, x388000, x388001, x388002, x396000, x396001, x396002, x396003, x397000, x397001, x397002, x397003 => if x36 = true then (none) else (q_DoorWorst.l0 k x4 0 x388000 x388001 x388002 x396000 x396001 x396002 x396003 x397000 x397001 x397002 x397003)
def q_DoorWorst.l0 : Nat → Int → Int → Int → Int → Int → Int → Int → Int → Int → Int → Int → Int → Int → Option (Bool)
 | 0, _, _, _, _, _, _, _, _, _, _, _, _, _ => none
 | k + 1, x4, x9, x388000, x388001, x388002, x396000, x396001, x396002, x396003, x397000, x397001, x397002, x397003 => if x396000 = 0 then (q_DoorWorst.j2 k x4 x9 false x388000 x388001 x388002 x396000 x396001 x396002 x396003 x397000 x397001 x397002 x397003) else (q_DoorWorst.j2 k x4 x9 (decide (x9 ≤ 300)) x388000 x388001 x388002 x396000 x396001 x396002 x396003 x397000 x397001 x397002 x397003)
def q_DoorWorst.j2 : Nat → Int → Int → Bool → Int → Int → Int → Int → Int → Int → Int → Int → Int → Int → Int → Option (Bool)
 | 0, _, _, _, _, _, _, _, _, _, _, _, _, _, _ => none
 | k + 1, x4, x9, x43, x388000, x388001, x388002, x396000, x396001, x396002, x396003, x397000, x397001, x397002, x397003 => if x43 = true then (if x396000 = 3 then ((door_Step.f k x396000 x396001 x396002 x396003 x388000 x388001 x388002 (x396001 == 1)).bind fun bt397 => (if bt397.2.2.2.2.2 = 0 then (q_DoorWorst.l0 k x4 (wrap64 (x9 + 1)) x388000 x388001 x388002 bt397.1 bt397.2.1 bt397.2.2.1 bt397.2.2.2.1 x397000 x397001 x397002 x397003) else (none))) else ((door_Step.f k x396000 x396001 x396002 x396003 x388000 x388001 x388002 false).bind fun bt404 => (if bt404.2.2.2.2.2 = 0 then (q_DoorWorst.l0 k x4 (wrap64 (x9 + 1)) x388000 x388001 x388002 bt404.1 bt404.2.1 bt404.2.2.1 bt404.2.2.2.1 x397000 x397001 x397002 x397003) else (none)))) else (if 0 ≤ (wrap64 ((wrap64 (2 * x388000)) + x388001)) then (if (wrap64 ((wrap64 (2 * x388000)) + x388001) : Int).toNat ≤ 281474976710656 then ((door_Run.f x397000 x397001 x397002 x397003 x388000 x388001 x388002 (List.replicate (wrap64 ((wrap64 (2 * x388000)) + x388001) : Int).toNat false)).bind fun bt414 => ((door_Rest.f x397000 x397001 x397002 x397003 x388000 x388001 x388002).bind fun bt423 => (if x9 = x4 then (if bt414.2.2.2.2.2 = 0 then (if bt423.2.2 = 0 then (if (bt414.1 == 0 && (bt414.2.1 == 0 && (bt414.2.2.1 == 0 && (bt414.2.2.2.1 == 0)))) = true then ((kit_SameInts.f k bt414.2.2.2.2.1 (([wrap64 (x388000 - 1)] : List Int))).bind fun t429 => (if t429 = true then (if bt423.1 = (wrap64 ((wrap64 (2 * x388000)) + x388001)) then (if bt423.2.1 = x4 then ((q_awake.f k).bind fun t430 => (if t430 = true then (some true) else (none))) else (none)) else (none)) else (none))) else (none)) else (none)) else (none)) else (none)))) else (none)) else (none))
end
def q_DoorWorst.f (k : Nat) (a0 : Int) : Option (Bool) := (q_made.f a0).bind fun bt384 => ((door_Worst.f bt384.1 bt384.2.1 bt384.2.2).bind fun bt388 => ((door_Open.f k 0 0 0 0 bt384.1 bt384.2.1 bt384.2.2).bind fun bt390 => (if bt388.2 = 0 then (q_DoorWorst.j0 k bt388.1 (bt390.2.2.2.2 != 0) bt384.1 bt384.2.1 bt384.2.2 bt390.1 bt390.2.1 bt390.2.2.1 bt390.2.2.2.1 bt390.1 bt390.2.1 bt390.2.2.1 bt390.2.2.2.1) else (q_DoorWorst.j0 k bt388.1 true bt384.1 bt384.2.1 bt384.2.2 bt390.1 bt390.2.1 bt390.2.2.1 bt390.2.2.2.1 bt390.1 bt390.2.1 bt390.2.2.1 bt390.2.2.2.1))))
theorem q_DoorWorst.mono_l : ∀ k, (∀ y0 y1 y2 y3 y4 y5 y6 y7 y8 y9 y10 y11 y12, LeO (q_DoorWorst.j0 k y0 y1 y2 y3 y4 y5 y6 y7 y8 y9 y10 y11 y12) (q_DoorWorst.j0 (k + 1) y0 y1 y2 y3 y4 y5 y6 y7 y8 y9 y10 y11 y12)) ∧ (∀ y0 y1 y2 y3 y4 y5 y6 y7 y8 y9 y10 y11 y12, LeO (q_DoorWorst.l0 k y0 y1 y2 y3 y4 y5 y6 y7 y8 y9 y10 y11 y12) (q_DoorWorst.l0 (k + 1) y0 y1 y2 y3 y4 y5 y6 y7 y8 y9 y10 y11 y12)) ∧ (∀ y0 y1 y2 y3 y4 y5 y6 y7 y8 y9 y10 y11 y12 y13, LeO (q_DoorWorst.j2 k y0 y1 y2 y3 y4 y5 y6 y7 y8 y9 y10 y11 y12 y13) (q_DoorWorst.j2 (k + 1) y0 y1 y2 y3 y4 y5 y6 y7 y8 y9 y10 y11 y12 y13))
 | 0 => ⟨fun _ _ _ _ _ _ _ _ _ _ _ _ _ r h => by simp [q_DoorWorst.j0] at h, fun _ _ _ _ _ _ _ _ _ _ _ _ _ r h => by simp [q_DoorWorst.l0] at h, fun _ _ _ _ _ _ _ _ _ _ _ _ _ _ r h => by simp [q_DoorWorst.j2] at h⟩
 | k + 1 => by
  obtain ⟨ih0, ih1, ih2⟩ := q_DoorWorst.mono_l k
  refine ⟨?_, ?_, ?_⟩
  ·intro y0 y1 y2 y3 y4 y5 y6 y7 y8 y9 y10 y11 y12
   unfold q_DoorWorst.j0
   repeat' first
   | (with_reducible exact ih0 _ _ _ _ _ _ _ _ _ _ _ _ _)
   | (with_reducible exact ih1 _ _ _ _ _ _ _ _ _ _ _ _ _)
   | (with_reducible exact ih2 _ _ _ _ _ _ _ _ _ _ _ _ _ _)
   | (with_reducible exact door_Open.mono _ _ _ _ _ _ _ _)
   | (with_reducible exact door_Step.mono _ _ _ _ _ _ _ _ _)
   | (with_reducible exact kit_SameInts.mono _ _ _)
   | (with_reducible exact q_awake.mono _)
   | (with_reducible exact LeO.refl _)
   | (with_reducible exact LeO.none _)
   | (with_reducible refine LeO.ite ?_ ?_)
   | (with_reducible refine LeO.bind ?_ (fun _ => ?_))
   | exact ih0 _ _ _ _ _ _ _ _ _ _ _ _ _
   | exact ih1 _ _ _ _ _ _ _ _ _ _ _ _ _
   | exact ih2 _ _ _ _ _ _ _ _ _ _ _ _ _ _
   | exact door_Open.mono _ _ _ _ _ _ _ _
   | exact door_Step.mono _ _ _ _ _ _ _ _ _
   | exact kit_SameInts.mono _ _ _
   | exact q_awake.mono _
   | exact LeO.none _
   | refine LeO.ite ?_ ?_
   | refine LeO.bind ?_ (fun _ => ?_)
  ·intro y0 y1 y2 y3 y4 y5 y6 y7 y8 y9 y10 y11 y12
   unfold q_DoorWorst.l0
   repeat' first
   | (with_reducible exact ih0 _ _ _ _ _ _ _ _ _ _ _ _ _)
   | (with_reducible exact ih1 _ _ _ _ _ _ _ _ _ _ _ _ _)
   | (with_reducible exact ih2 _ _ _ _ _ _ _ _ _ _ _ _ _ _)
   | (with_reducible exact door_Open.mono _ _ _ _ _ _ _ _)
   | (with_reducible exact door_Step.mono _ _ _ _ _ _ _ _ _)
   | (with_reducible exact kit_SameInts.mono _ _ _)
   | (with_reducible exact q_awake.mono _)
   | (with_reducible exact LeO.refl _)
   | (with_reducible exact LeO.none _)
   | (with_reducible refine LeO.ite ?_ ?_)
   | (with_reducible refine LeO.bind ?_ (fun _ => ?_))
   | exact ih0 _ _ _ _ _ _ _ _ _ _ _ _ _
   | exact ih1 _ _ _ _ _ _ _ _ _ _ _ _ _
   | exact ih2 _ _ _ _ _ _ _ _ _ _ _ _ _ _
   | exact door_Open.mono _ _ _ _ _ _ _ _
   | exact door_Step.mono _ _ _ _ _ _ _ _ _
   | exact kit_SameInts.mono _ _ _
   | exact q_awake.mono _
   | exact LeO.none _
   | refine LeO.ite ?_ ?_
   | refine LeO.bind ?_ (fun _ => ?_)
  ·intro y0 y1 y2 y3 y4 y5 y6 y7 y8 y9 y10 y11 y12 y13
   unfold q_DoorWorst.j2
   repeat' first
   | (with_reducible exact ih0 _ _ _ _ _ _ _ _ _ _ _ _ _)
   | (with_reducible exact ih1 _ _ _ _ _ _ _ _ _ _ _ _ _)
   | (with_reducible exact ih2 _ _ _ _ _ _ _ _ _ _ _ _ _ _)
   | (with_reducible exact door_Open.mono _ _ _ _ _ _ _ _)
   | (with_reducible exact door_Step.mono _ _ _ _ _ _ _ _ _)
   | (with_reducible exact kit_SameInts.mono _ _ _)
   | (with_reducible exact q_awake.mono _)
   | (with_reducible exact LeO.refl _)
   | (with_reducible exact LeO.none _)
   | (with_reducible refine LeO.ite ?_ ?_)
   | (with_reducible refine LeO.bind ?_ (fun _ => ?_))
   | exact ih0 _ _ _ _ _ _ _ _ _ _ _ _ _
   | exact ih1 _ _ _ _ _ _ _ _ _ _ _ _ _
   | exact ih2 _ _ _ _ _ _ _ _ _ _ _ _ _ _
   | exact door_Open.mono _ _ _ _ _ _ _ _
   | exact door_Step.mono _ _ _ _ _ _ _ _ _
   | exact kit_SameInts.mono _ _ _
   | exact q_awake.mono _
   | exact LeO.none _
   | refine LeO.ite ?_ ?_
   | refine LeO.bind ?_ (fun _ => ?_)
theorem q_DoorWorst.mono : ∀ a0 k, LeO (q_DoorWorst.f k a0) (q_DoorWorst.f (k + 1) a0) := by
 intro a0 k
 obtain ⟨ih0, ih1, ih2⟩ := q_DoorWorst.mono_l k
 unfold q_DoorWorst.f
 repeat' first
   | (with_reducible exact ih0 _ _ _ _ _ _ _ _ _ _ _ _ _)
   | (with_reducible exact ih1 _ _ _ _ _ _ _ _ _ _ _ _ _)
   | (with_reducible exact ih2 _ _ _ _ _ _ _ _ _ _ _ _ _ _)
   | (with_reducible exact door_Open.mono _ _ _ _ _ _ _ _)
   | (with_reducible exact door_Step.mono _ _ _ _ _ _ _ _ _)
   | (with_reducible exact kit_SameInts.mono _ _ _)
   | (with_reducible exact q_awake.mono _)
   | (with_reducible exact LeO.refl _)
   | (with_reducible exact LeO.none _)
   | (with_reducible refine LeO.ite ?_ ?_)
   | (with_reducible refine LeO.bind ?_ (fun _ => ?_))
   | exact ih0 _ _ _ _ _ _ _ _ _ _ _ _ _
   | exact ih1 _ _ _ _ _ _ _ _ _ _ _ _ _
   | exact ih2 _ _ _ _ _ _ _ _ _ _ _ _ _ _
   | exact door_Open.mono _ _ _ _ _ _ _ _
   | exact door_Step.mono _ _ _ _ _ _ _ _ _
   | exact kit_SameInts.mono _ _ _
   | exact q_awake.mono _
   | exact LeO.none _
   | refine LeO.ite ?_ ?_
   | refine LeO.bind ?_ (fun _ => ?_)
def q_DoorWorst.T14 : Bool × List (List Nat × List Nat) := (true, [([], []), ([], []), ([], []), ([2], [2]), ([3], [3]), ([], []), ([5], [5]), ([4, 6], [4, 6]), ([7, 7], [7]), ([0, 1, 8], [0, 1, 8]), ([9], [9]), ([10], [10]), ([10], [10]), ([10], [10]), ([], []), ([14, 11, 9, 0, 1, 2, 3, 4, 5, 6, 7, 8, 9, 10, 11, 14], [11, 14]), ([12, 15, 0, 1, 2, 3, 4, 5, 6, 7, 8, 9, 10, 11, 12, 14, 15], [12]), ([13, 16, 0, 1, 2, 3, 4, 5, 6, 7, 8, 9, 10, 11, 12, 13, 14, 15, 16], [13])])
def q_DoorWorst.B14 : List Nat := [0, 0, 0, 4, 12, 0, 32, 124, 252, 511, 1023, 2047, 2047, 2047, 0, 20479, 57343, 131071]
theorem q_DoorWorst.tab14 : rtab .any (opsOf Try.f7 14) = q_DoorWorst.T14 := by kernel_rfl
theorem q_DoorWorst.bits14 : waitsOk q_DoorWorst.T14.2 q_DoorWorst.B14 = true := by kernel_rfl
set_option maxHeartbeats 8000000 in
set_option maxRecDepth 100000 in
theorem q_DoorWorst.calls (k : Nat) (a0 : Int) (r : Bool) (w : World) (h : q_DoorWorst.f k a0 = some r) :
  Calls Try.prog 7 #[.int .i64 a0] w fun e w' => e = .returned (.bool r) ∧ Below w.heap.size w w' := by
 have hu25 := Try.underlying25
 have hu23 := Try.underlying23
 have HB := Aside0.mk (Below.refl w.heap.size w)
 have H : ((q_made.f a0).bind fun bt384 => ((door_Worst.f bt384.1 bt384.2.1 bt384.2.2).bind fun bt388 => ((door_Open.f k 0 0 0 0 bt384.1 bt384.2.1 bt384.2.2).bind fun bt390 => (if bt388.2 = 0 then (q_DoorWorst.j0 k bt388.1 (bt390.2.2.2.2 != 0) bt384.1 bt384.2.1 bt384.2.2 bt390.1 bt390.2.1 bt390.2.2.1 bt390.2.2.2.1 bt390.1 bt390.2.1 bt390.2.2.1 bt390.2.2.2.1) else (q_DoorWorst.j0 k bt388.1 true bt384.1 bt384.2.1 bt384.2.2 bt390.1 bt390.2.1 bt390.2.2.1 bt390.2.2.2.1 bt390.1 bt390.2.1 bt390.2.2.1 bt390.2.2.2.1))))) = some r := h
 clear h
 replace H := Option.bind_eq_some_iff.mp H
 obtain ⟨⟨t384, t385, t386⟩, A20, H⟩ := H
 replace H : ((door_Worst.f t384 t385 t386).bind fun bt388 => ((door_Open.f k 0 0 0 0 t384 t385 t386).bind fun bt390 => (if bt388.2 = 0 then (q_DoorWorst.j0 k bt388.1 (bt390.2.2.2.2 != 0) t384 t385 t386 bt390.1 bt390.2.1 bt390.2.2.1 bt390.2.2.2.1 bt390.1 bt390.2.1 bt390.2.2.1 bt390.2.2.2.1) else (q_DoorWorst.j0 k bt388.1 true t384 t385 t386 bt390.1 bt390.2.1 bt390.2.2.1 bt390.2.2.2.1 bt390.1 bt390.2.1 bt390.2.2.1 bt390.2.2.2.1)))) = some r := H
 have A2 := Aside0.mk A20
 clear A20
 replace H := Option.bind_eq_some_iff.mp H
 obtain ⟨⟨t388, t389⟩, A30, H⟩ := H
 replace H : ((door_Open.f k 0 0 0 0 t384 t385 t386).bind fun bt390 => (if t389 = 0 then (q_DoorWorst.j0 k t388 (bt390.2.2.2.2 != 0) t384 t385 t386 bt390.1 bt390.2.1 bt390.2.2.1 bt390.2.2.2.1 bt390.1 bt390.2.1 bt390.2.2.1 bt390.2.2.2.1) else (q_DoorWorst.j0 k t388 true t384 t385 t386 bt390.1 bt390.2.1 bt390.2.2.1 bt390.2.2.2.1 bt390.1 bt390.2.1 bt390.2.2.1 bt390.2.2.2.1))) = some r := H
 have A3 := Aside0.mk A30
 clear A30
 replace H := Option.bind_eq_some_iff.mp H
 obtain ⟨⟨t390, t391, t392, t393, t394⟩, A40, H⟩ := H
 replace H : (if t389 = 0 then (q_DoorWorst.j0 k t388 (t394 != 0) t384 t385 t386 t390 t391 t392 t393 t390 t391 t392 t393) else (q_DoorWorst.j0 k t388 true t384 t385 t386 t390 t391 t392 t393 t390 t391 t392 t393)) = some r := H
 have A4 := Aside0.mk A40
 clear A40
 have HC5 := Aside0.mk H
 clear H
 go_enter Try.func7, Try.ntmps7
 go_upto_region 5 with (first | ((with_reducible refine gate_callee (f := 27) rfl ?_); refine goesL_ (some 18) rfl rfl Try.func27 (by kernel_rfl) rfl #[.int .i64 a0] rfl (by (try simp only [List.map_toArray, List.map_cons, List.map_nil]); first | done | rfl | (simp only [List.length_drop, List.length_take]; rfl)) ?_; (with_reducible refine (q_made.calls a0 t384 t385 t386 _ A2.out).mono ?_); rintro e w6 ⟨rfl, hb⟩; refine ⟨_, rfl, ?_⟩; have n0_ := Aside0.mk (below_step (by repeat (first | (with_reducible first | exact HB.out | apply below_alloc | apply pw_below_drewN | apply below_drew1) | exact HB.out)) hb); clear HB; have HB := n0_; clear n0_; (try clear hb); (try clear hb2); (try clear hk); (try clear hi)) | ((with_reducible refine gate_dst (N := 3) rfl ?_); (try (refine gate_guard (by rfl) ?_; dsimp only)); refine box_event ?hg (N := 3) ?hd (cs := #[.int .i64 0, .int .i64 0, .int .i64 0]) (t := 25) ?hr ?_; (case hd => rfl); (case hg => rfl); (case hr => first | (go_simp; done) | (go_simp; rfl)); intro gb387 hg w7 hbox hb; have n0_ := Aside0.mk (below_step (by repeat (first | (with_reducible first | exact HB.out | apply below_alloc | apply pw_below_drewN | apply below_drew1) | exact HB.out)) hb); have n1_ := Aside0.mk (hbox); have n2_ := Aside0.mk ((by rw [hg]; exact (below_size (by repeat (first | (with_reducible first | exact HB.out | apply below_alloc | apply pw_below_drewN | apply below_drew1) | exact HB.out))) : w.heap.size ≤ gb387)); have n3_ := Aside0.mk ((by rw [hg]; exact (below_size (by repeat (first | (with_reducible first | exact HB.out | apply below_alloc | apply pw_below_drewN | apply below_drew1) | exact HB.out))) : w.heap.size ≤ gb387)); clear HB; have HB := n0_; have BK387 := n1_; have GW387 := n2_; have GE387 := n3_; clear n0_ n1_ n2_ n3_; clear hb hbox hg; have hcz8_0 : w7.cell? ⟨gb387, 0, none⟩ = some (.int .i64 0) := (blk_cell BK387.out 0).trans rfl; have hcz8_1 : w7.cell? ⟨gb387, 1, none⟩ = some (.int .i64 0) := (blk_cell BK387.out 1).trans rfl; have hcz8_2 : w7.cell? ⟨gb387, 2, none⟩ = some (.int .i64 0) := (blk_cell BK387.out 2).trans rfl; have hfz8_0 := blk_frozen BK387.out 0; have hfz8_1 := blk_frozen BK387.out 1; have hfz8_2 := blk_frozen BK387.out 2) | ((with_reducible refine gate_callee (f := 20) rfl ?_); refine goesL_ (some 21) rfl rfl Try.func20 (by kernel_rfl) rfl #[.agg #[.int .i64 t384, .int .i64 t385, .int .i64 t386]] rfl (by (try simp only [List.map_toArray, List.map_cons, List.map_nil]); first | done | rfl | (simp only [List.length_drop, List.length_take]; rfl)) ?_; (with_reducible refine (door_Worst.calls t384 t385 t386 t388 t389 _ A3.out).mono ?_); rintro e w9 ⟨rfl, hb⟩; refine ⟨_, rfl, ?_⟩; have n0_ := Aside0.mk (blk_below (g := gb387) (o := .cells #[.int .i64 t384, .int .i64 t385, .int .i64 t386] 25 (0, 0)) (by (with_reducible repeat (first | refine blk_drewN ?_ _ | refine blk_drew ?_ | refine blk_alloc ?_ _)); refine blk_put (cs := #[.int .i64 t384, .int .i64 t385, .int .i64 0]) ?_ 2 _ rfl; (with_reducible repeat (first | refine blk_drewN ?_ _ | refine blk_drew ?_ | refine blk_alloc ?_ _)); refine blk_put (cs := #[.int .i64 t384, .int .i64 0, .int .i64 0]) ?_ 1 _ rfl; (with_reducible repeat (first | refine blk_drewN ?_ _ | refine blk_drew ?_ | refine blk_alloc ?_ _)); refine blk_put (cs := #[.int .i64 0, .int .i64 0, .int .i64 0]) ?_ 0 _ rfl; (with_reducible repeat (first | refine blk_drewN ?_ _ | refine blk_drew ?_ | refine blk_alloc ?_ _)); exact BK387.out) hb); have n1_ := Aside0.mk (below_step (by repeat (first | (with_reducible first | exact HB.out | apply below_alloc | apply pw_below_drewN | apply below_drew1 | refine below_set ?_ GE387.out) | exact HB.out)) hb); clear BK387; clear HB; have BK387 := n0_; have HB := n1_; clear n0_ n1_; (try clear hb); (try clear hb2); (try clear hk); (try clear hi); have hcz10_0 : w9.cell? ⟨gb387, 0, none⟩ = some (.int .i64 t384) := (blk_cell BK387.out 0).trans rfl; have hcz10_1 : w9.cell? ⟨gb387, 1, none⟩ = some (.int .i64 t385) := (blk_cell BK387.out 1).trans rfl; have hcz10_2 : w9.cell? ⟨gb387, 2, none⟩ = some (.int .i64 t386) := (blk_cell BK387.out 2).trans rfl; have hfz10_0 := blk_frozen BK387.out 0; have hfz10_1 := blk_frozen BK387.out 1; have hfz10_2 := blk_frozen BK387.out 2) | ((with_reducible refine gate_callee (f := 15) rfl ?_); refine goesL_ (some 27) rfl rfl Try.func15 (by kernel_rfl) rfl #[.agg #[.int .i64 0, .int .i64 0, .int .i64 0, .int .i64 0], .agg #[.int .i64 t384, .int .i64 t385, .int .i64 t386]] rfl (by (try simp only [List.map_toArray, List.map_cons, List.map_nil]); first | done | rfl | (simp only [List.length_drop, List.length_take]; rfl)) ?_; (with_reducible refine (door_Open.calls k 0 0 0 0 t384 t385 t386 t390 t391 t392 t393 t394 _ A4.out).mono ?_); rintro e w11 ⟨rfl, hb⟩; refine ⟨_, rfl, ?_⟩; have n0_ := Aside0.mk (blk_below (g := gb387) (o := .cells #[.int .i64 t384, .int .i64 t385, .int .i64 t386] 25 (0, 0)) (by (with_reducible repeat (first | refine blk_drewN ?_ _ | refine blk_drew ?_ | refine blk_alloc ?_ _)); exact BK387.out) hb); have n1_ := Aside0.mk (below_step (by repeat (first | (with_reducible first | exact HB.out | apply below_alloc | apply pw_below_drewN | apply below_drew1 | refine below_set ?_ GE387.out) | exact HB.out)) hb); clear BK387; clear HB; have BK387 := n0_; have HB := n1_; clear n0_ n1_; (try clear hb); (try clear hb2); (try clear hk); (try clear hi)) | ((with_reducible refine gate_dst (N := 6) rfl ?_); (try (refine gate_guard (by rfl) ?_; dsimp only)); refine box_event ?hg (N := 6) ?hd (cs := #[.int .i64 0, .int .i64 0, .int .i64 0, .int .i64 0]) (t := 23) ?hr ?_; (case hd => rfl); (case hg => rfl); (case hr => first | (go_simp; done) | (go_simp; rfl)); intro gb395 hg w12 hbox hb; have n0_ := Aside0.mk (blk_below (g := gb387) (o := .cells #[.int .i64 t384, .int .i64 t385, .int .i64 t386] 25 (0, 0)) (by (with_reducible repeat (first | refine blk_drewN ?_ _ | refine blk_drew ?_ | refine blk_alloc ?_ _)); exact BK387.out) hb); have n1_ := Aside0.mk (below_step (by repeat (first | (with_reducible first | exact HB.out | apply below_alloc | apply pw_below_drewN | apply below_drew1 | refine below_set ?_ GE387.out) | exact HB.out)) hb); have n2_ := Aside0.mk (hbox); have n3_ := Aside0.mk ((by rw [hg]; exact (below_size (by repeat (first | (with_reducible first | exact HB.out | apply below_alloc | apply pw_below_drewN | apply below_drew1 | refine below_set ?_ GE387.out) | exact HB.out))) : w.heap.size ≤ gb395)); have n4_ := Aside0.mk ((by rw [hg]; exact (below_size (by repeat (first | (with_reducible first | exact HB.out | apply below_alloc | apply pw_below_drewN | apply below_drew1 | refine below_set ?_ GE387.out) | exact HB.out))) : w.heap.size ≤ gb395)); have n5_ := Aside0.mk ((by rw [hg]; exact Nat.ne_of_lt (blk_lt (g := gb387) (o := .cells #[.int .i64 t384, .int .i64 t385, .int .i64 t386] 25 (0, 0)) (by (with_reducible repeat (first | refine blk_drewN ?_ _ | refine blk_drew ?_ | refine blk_alloc ?_ _)); exact BK387.out)) : gb387 ≠ gb395)); have n6_ := Aside0.mk ((by rw [hg]; exact Nat.ne_of_gt (blk_lt (g := gb387) (o := .cells #[.int .i64 t384, .int .i64 t385, .int .i64 t386] 25 (0, 0)) (by (with_reducible repeat (first | refine blk_drewN ?_ _ | refine blk_drew ?_ | refine blk_alloc ?_ _)); exact BK387.out)) : gb395 ≠ gb387)); clear BK387; clear HB; have BK387 := n0_; have HB := n1_; have BK395 := n2_; have GW395 := n3_; have GE395 := n4_; have NB387_395 := n5_; have NB395_387 := n6_; clear n0_ n1_ n2_ n3_ n4_ n5_ n6_; clear hb hbox hg; have hnb13 := NB395_387.out; have hnc13 := NB387_395.out; have hcz14_0 : w12.cell? ⟨gb395, 0, none⟩ = some (.int .i64 0) := (blk_cell BK395.out 0).trans rfl; have hcz14_1 : w12.cell? ⟨gb395, 1, none⟩ = some (.int .i64 0) := (blk_cell BK395.out 1).trans rfl; have hcz14_2 : w12.cell? ⟨gb395, 2, none⟩ = some (.int .i64 0) := (blk_cell BK395.out 2).trans rfl; have hcz14_3 : w12.cell? ⟨gb395, 3, none⟩ = some (.int .i64 0) := (blk_cell BK395.out 3).trans rfl; have hfz14_0 := blk_frozen BK395.out 0; have hfz14_1 := blk_frozen BK395.out 1; have hfz14_2 := blk_frozen BK395.out 2; have hfz14_3 := blk_frozen BK395.out 3) | ((with_reducible refine gate_dst (N := 8) rfl ?_); (try (refine gate_guard (by rfl) ?_; dsimp only)); refine box_event ?hg (N := 8) ?hd (cs := #[.int .i64 0, .int .i64 0, .int .i64 0, .int .i64 0]) (t := 23) ?hr ?_; (case hd => rfl); (case hg => rfl); (case hr => first | (go_simp; done) | (go_simp; rfl)); intro gb396 hg w15 hbox hb; have n0_ := Aside0.mk (blk_below (g := gb387) (o := .cells #[.int .i64 t384, .int .i64 t385, .int .i64 t386] 25 (0, 0)) (by (with_reducible repeat (first | refine blk_drewN ?_ _ | refine blk_drew ?_ | refine blk_alloc ?_ _)); refine blk_far ?_ NB387_395.out _; (with_reducible repeat (first | refine blk_drewN ?_ _ | refine blk_drew ?_ | refine blk_alloc ?_ _)); refine blk_far ?_ NB387_395.out _; (with_reducible repeat (first | refine blk_drewN ?_ _ | refine blk_drew ?_ | refine blk_alloc ?_ _)); refine blk_far ?_ NB387_395.out _; (with_reducible repeat (first | refine blk_drewN ?_ _ | refine blk_drew ?_ | refine blk_alloc ?_ _)); refine blk_far ?_ NB387_395.out _; (with_reducible repeat (first | refine blk_drewN ?_ _ | refine blk_drew ?_ | refine blk_alloc ?_ _)); exact BK387.out) hb); have n1_ := Aside0.mk (blk_below (g := gb395) (o := .cells #[.int .i64 t390, .int .i64 t391, .int .i64 t392, .int .i64 t393] 23 (0, 0)) (by (with_reducible repeat (first | refine blk_drewN ?_ _ | refine blk_drew ?_ | refine blk_alloc ?_ _)); refine blk_put (cs := #[.int .i64 t390, .int .i64 t391, .int .i64 t392, .int .i64 0]) ?_ 3 _ rfl; (with_reducible repeat (first | refine blk_drewN ?_ _ | refine blk_drew ?_ | refine blk_alloc ?_ _)); refine blk_put (cs := #[.int .i64 t390, .int .i64 t391, .int .i64 0, .int .i64 0]) ?_ 2 _ rfl; (with_reducible repeat (first | refine blk_drewN ?_ _ | refine blk_drew ?_ | refine blk_alloc ?_ _)); refine blk_put (cs := #[.int .i64 t390, .int .i64 0, .int .i64 0, .int .i64 0]) ?_ 1 _ rfl; (with_reducible repeat (first | refine blk_drewN ?_ _ | refine blk_drew ?_ | refine blk_alloc ?_ _)); refine blk_put (cs := #[.int .i64 0, .int .i64 0, .int .i64 0, .int .i64 0]) ?_ 0 _ rfl; (with_reducible repeat (first | refine blk_drewN ?_ _ | refine blk_drew ?_ | refine blk_alloc ?_ _)); exact BK395.out) hb); have n2_ := Aside0.mk (below_step (by repeat (first | (with_reducible first | exact HB.out | apply below_alloc | apply pw_below_drewN | apply below_drew1 | refine below_set ?_ GE387.out | refine below_set ?_ GE395.out) | exact HB.out)) hb); have n3_ := Aside0.mk (hbox); have n4_ := Aside0.mk ((by rw [hg]; exact (below_size (by repeat (first | (with_reducible first | exact HB.out | apply below_alloc | apply pw_below_drewN | apply below_drew1 | refine below_set ?_ GE387.out | refine below_set ?_ GE395.out) | exact HB.out))) : w.heap.size ≤ gb396)); have n5_ := Aside0.mk ((by rw [hg]; exact (below_size (by repeat (first | (with_reducible first | exact HB.out | apply below_alloc | apply pw_below_drewN | apply below_drew1 | refine below_set ?_ GE387.out | refine below_set ?_ GE395.out) | exact HB.out))) : w.heap.size ≤ gb396)); have n6_ := Aside0.mk ((by rw [hg]; exact Nat.ne_of_lt (blk_lt (g := gb387) (o := .cells #[.int .i64 t384, .int .i64 t385, .int .i64 t386] 25 (0, 0)) (by (with_reducible repeat (first | refine blk_drewN ?_ _ | refine blk_drew ?_ | refine blk_alloc ?_ _)); refine blk_far ?_ NB387_395.out _; (with_reducible repeat (first | refine blk_drewN ?_ _ | refine blk_drew ?_ | refine blk_alloc ?_ _)); refine blk_far ?_ NB387_395.out _; (with_reducible repeat (first | refine blk_drewN ?_ _ | refine blk_drew ?_ | refine blk_alloc ?_ _)); refine blk_far ?_ NB387_395.out _; (with_reducible repeat (first | refine blk_drewN ?_ _ | refine blk_drew ?_ | refine blk_alloc ?_ _)); refine blk_far ?_ NB387_395.out _; (with_reducible repeat (first | refine blk_drewN ?_ _ | refine blk_drew ?_ | refine blk_alloc ?_ _)); exact BK387.out)) : gb387 ≠ gb396)); have n7_ := Aside0.mk ((by rw [hg]; exact Nat.ne_of_gt (blk_lt (g := gb387) (o := .cells #[.int .i64 t384, .int .i64 t385, .int .i64 t386] 25 (0, 0)) (by (with_reducible repeat (first | refine blk_drewN ?_ _ | refine blk_drew ?_ | refine blk_alloc ?_ _)); refine blk_far ?_ NB387_395.out _; (with_reducible repeat (first | refine blk_drewN ?_ _ | refine blk_drew ?_ | refine blk_alloc ?_ _)); refine blk_far ?_ NB387_395.out _; (with_reducible repeat (first | refine blk_drewN ?_ _ | refine blk_drew ?_ | refine blk_alloc ?_ _)); refine blk_far ?_ NB387_395.out _; (with_reducible repeat (first | refine blk_drewN ?_ _ | refine blk_drew ?_ | refine blk_alloc ?_ _)); refine blk_far ?_ NB387_395.out _; (with_reducible repeat (first | refine blk_drewN ?_ _ | refine blk_drew ?_ | refine blk_alloc ?_ _)); exact BK387.out)) : gb396 ≠ gb387)); have n8_ := Aside0.mk ((by rw [hg]; exact Nat.ne_of_lt (blk_lt (g := gb395) (o := .cells #[.int .i64 t390, .int .i64 t391, .int .i64 t392, .int .i64 t393] 23 (0, 0)) (by (with_reducible repeat (first | refine blk_drewN ?_ _ | refine blk_drew ?_ | refine blk_alloc ?_ _)); refine blk_put (cs := #[.int .i64 t390, .int .i64 t391, .int .i64 t392, .int .i64 0]) ?_ 3 _ rfl; (with_reducible repeat (first | refine blk_drewN ?_ _ | refine blk_drew ?_ | refine blk_alloc ?_ _)); refine blk_put (cs := #[.int .i64 t390, .int .i64 t391, .int .i64 0, .int .i64 0]) ?_ 2 _ rfl; (with_reducible repeat (first | refine blk_drewN ?_ _ | refine blk_drew ?_ | refine blk_alloc ?_ _)); refine blk_put (cs := #[.int .i64 t390, .int .i64 0, .int .i64 0, .int .i64 0]) ?_ 1 _ rfl; (with_reducible repeat (first | refine blk_drewN ?_ _ | refine blk_drew ?_ | refine blk_alloc ?_ _)); refine blk_put (cs := #[.int .i64 0, .int .i64 0, .int .i64 0, .int .i64 0]) ?_ 0 _ rfl; (with_reducible repeat (first | refine blk_drewN ?_ _ | refine blk_drew ?_ | refine blk_alloc ?_ _)); exact BK395.out)) : gb395 ≠ gb396)); have n9_ := Aside0.mk ((by rw [hg]; exact Nat.ne_of_gt (blk_lt (g := gb395) (o := .cells #[.int .i64 t390, .int .i64 t391, .int .i64 t392, .int .i64 t393] 23 (0, 0)) (by (with_reducible repeat (first | refine blk_drewN ?_ _ | refine blk_drew ?_ | refine blk_alloc ?_ _)); refine blk_put (cs := #[.int .i64 t390, .int .i64 t391, .int .i64 t392, .int .i64 0]) ?_ 3 _ rfl; (with_reducible repeat (first | refine blk_drewN ?_ _ | refine blk_drew ?_ | refine blk_alloc ?_ _)); refine blk_put (cs := #[.int .i64 t390, .int .i64 t391, .int .i64 0, .int .i64 0]) ?_ 2 _ rfl; (with_reducible repeat (first | refine blk_drewN ?_ _ | refine blk_drew ?_ | refine blk_alloc ?_ _)); refine blk_put (cs := #[.int .i64 t390, .int .i64 0, .int .i64 0, .int .i64 0]) ?_ 1 _ rfl; (with_reducible repeat (first | refine blk_drewN ?_ _ | refine blk_drew ?_ | refine blk_alloc ?_ _)); refine blk_put (cs := #[.int .i64 0, .int .i64 0, .int .i64 0, .int .i64 0]) ?_ 0 _ rfl; (with_reducible repeat (first | refine blk_drewN ?_ _ | refine blk_drew ?_ | refine blk_alloc ?_ _)); exact BK395.out)) : gb396 ≠ gb395)); clear BK387; clear BK395; clear HB; have BK387 := n0_; have BK395 := n1_; have HB := n2_; have BK396 := n3_; have GW396 := n4_; have GE396 := n5_; have NB387_396 := n6_; have NB396_387 := n7_; have NB395_396 := n8_; have NB396_395 := n9_; clear n0_ n1_ n2_ n3_ n4_ n5_ n6_ n7_ n8_ n9_; clear hb hbox hg; have hnb16 := NB396_387.out; have hnc16 := NB387_396.out; have hnb17 := NB396_395.out; have hnc17 := NB395_396.out; have hcz18_0 : w15.cell? ⟨gb396, 0, none⟩ = some (.int .i64 0) := (blk_cell BK396.out 0).trans rfl; have hcz18_1 : w15.cell? ⟨gb396, 1, none⟩ = some (.int .i64 0) := (blk_cell BK396.out 1).trans rfl; have hcz18_2 : w15.cell? ⟨gb396, 2, none⟩ = some (.int .i64 0) := (blk_cell BK396.out 2).trans rfl; have hcz18_3 : w15.cell? ⟨gb396, 3, none⟩ = some (.int .i64 0) := (blk_cell BK396.out 3).trans rfl; have hfz18_0 := blk_frozen BK396.out 0; have hfz18_1 := blk_frozen BK396.out 1; have hfz18_2 := blk_frozen BK396.out 2; have hfz18_3 := blk_frozen BK396.out 3))
 (try simp only [Act.put, List.setIfInBounds_toArray, List.set_cons_zero, List.set_cons_succ])
 go_cut [36] (fun v36 wc => ∃ (kq : Nat) (x36_4 : Bool), v36 = .bool x36_4 ∧ Aside0 (q_DoorWorst.j0 kq t388 x36_4 t384 t385 t386 t390 t391 t392 t393 t390 t391 t392 t393 = some r) ∧ Aside0 (kq ≤ k) ∧ Aside0 (wc.heap[gb387]? = some (.cells #[.int .i64 t384, .int .i64 t385, .int .i64 t386] 25 (0, 0))) ∧ Aside0 (wc.heap[gb395]? = some (.cells #[.int .i64 t390, .int .i64 t391, .int .i64 t392, .int .i64 t393] 23 (0, 0))) ∧ Aside0 (wc.heap[gb396]? = some (.cells #[.int .i64 t390, .int .i64 t391, .int .i64 t392, .int .i64 t393] 23 (0, 0))) ∧ Aside0 (Below w.heap.size w wc))
 case first =>
  have H := HC5.out
  clear HC5
  by_cases c19 : t389 = 0
  ·rw [if_pos c19] at H
   have c19b0 : (t389 == 0) = true := beq_iff_eq.mpr c19
   have c19b1 : (t389 != 0) = false := bne_eq_false_iff_eq.mpr c19
   clear c19
   (first | rw [c19b0] | (simp only [i64_w, i32_w]; rw [c19b0]) | skip)
   have H' := Aside0.mk H
   clear H
   go_wp2
   go_meet
   case rel => exact ⟨_, ((t394 != 0)), (by first | rfl | (simp; done) | (simp [*]; done)), H', ⟨by first | omega | exact Nat.le_refl _⟩, ⟨by (with_reducible repeat (first | refine blk_drewN ?_ _ | refine blk_drew ?_ | refine blk_alloc ?_ _)); refine blk_far ?_ NB387_396.out _; (with_reducible repeat (first | refine blk_drewN ?_ _ | refine blk_drew ?_ | refine blk_alloc ?_ _)); refine blk_far ?_ NB387_396.out _; (with_reducible repeat (first | refine blk_drewN ?_ _ | refine blk_drew ?_ | refine blk_alloc ?_ _)); refine blk_far ?_ NB387_396.out _; (with_reducible repeat (first | refine blk_drewN ?_ _ | refine blk_drew ?_ | refine blk_alloc ?_ _)); refine blk_far ?_ NB387_396.out _; (with_reducible repeat (first | refine blk_drewN ?_ _ | refine blk_drew ?_ | refine blk_alloc ?_ _)); exact BK387.out⟩, ⟨by (with_reducible repeat (first | refine blk_drewN ?_ _ | refine blk_drew ?_ | refine blk_alloc ?_ _)); refine blk_far ?_ NB395_396.out _; (with_reducible repeat (first | refine blk_drewN ?_ _ | refine blk_drew ?_ | refine blk_alloc ?_ _)); refine blk_far ?_ NB395_396.out _; (with_reducible repeat (first | refine blk_drewN ?_ _ | refine blk_drew ?_ | refine blk_alloc ?_ _)); refine blk_far ?_ NB395_396.out _; (with_reducible repeat (first | refine blk_drewN ?_ _ | refine blk_drew ?_ | refine blk_alloc ?_ _)); refine blk_far ?_ NB395_396.out _; (with_reducible repeat (first | refine blk_drewN ?_ _ | refine blk_drew ?_ | refine blk_alloc ?_ _)); exact BK395.out⟩, ⟨by (with_reducible repeat (first | refine blk_drewN ?_ _ | refine blk_drew ?_ | refine blk_alloc ?_ _)); refine blk_put (cs := #[.int .i64 t390, .int .i64 t391, .int .i64 t392, .int .i64 0]) ?_ 3 _ rfl; (with_reducible repeat (first | refine blk_drewN ?_ _ | refine blk_drew ?_ | refine blk_alloc ?_ _)); refine blk_put (cs := #[.int .i64 t390, .int .i64 t391, .int .i64 0, .int .i64 0]) ?_ 2 _ rfl; (with_reducible repeat (first | refine blk_drewN ?_ _ | refine blk_drew ?_ | refine blk_alloc ?_ _)); refine blk_put (cs := #[.int .i64 t390, .int .i64 0, .int .i64 0, .int .i64 0]) ?_ 1 _ rfl; (with_reducible repeat (first | refine blk_drewN ?_ _ | refine blk_drew ?_ | refine blk_alloc ?_ _)); refine blk_put (cs := #[.int .i64 0, .int .i64 0, .int .i64 0, .int .i64 0]) ?_ 0 _ rfl; (with_reducible repeat (first | refine blk_drewN ?_ _ | refine blk_drew ?_ | refine blk_alloc ?_ _)); exact BK396.out⟩, ⟨by repeat (first | (with_reducible first | exact HB.out | apply below_alloc | apply pw_below_drewN | apply below_drew1 | refine below_set ?_ GE387.out | refine below_set ?_ GE395.out | refine below_set ?_ GE396.out) | exact HB.out)⟩⟩
  ·rw [if_neg c19] at H
   have c19b0 : (t389 == 0) = false := beq_eq_false_iff_ne.mpr c19
   have c19b1 : (t389 != 0) = true := bne_iff_ne.mpr c19
   (first | rw [c19b0] | (simp only [i64_w, i32_w]; rw [c19b0]) | skip)
   have H' := Aside0.mk H
   clear H
   go_wp2
   go_meet
   case rel => exact ⟨_, (true), (by first | rfl | (simp; done) | (simp [*]; done)), H', ⟨by first | omega | exact Nat.le_refl _⟩, ⟨by (with_reducible repeat (first | refine blk_drewN ?_ _ | refine blk_drew ?_ | refine blk_alloc ?_ _)); refine blk_far ?_ NB387_396.out _; (with_reducible repeat (first | refine blk_drewN ?_ _ | refine blk_drew ?_ | refine blk_alloc ?_ _)); refine blk_far ?_ NB387_396.out _; (with_reducible repeat (first | refine blk_drewN ?_ _ | refine blk_drew ?_ | refine blk_alloc ?_ _)); refine blk_far ?_ NB387_396.out _; (with_reducible repeat (first | refine blk_drewN ?_ _ | refine blk_drew ?_ | refine blk_alloc ?_ _)); refine blk_far ?_ NB387_396.out _; (with_reducible repeat (first | refine blk_drewN ?_ _ | refine blk_drew ?_ | refine blk_alloc ?_ _)); exact BK387.out⟩, ⟨by (with_reducible repeat (first | refine blk_drewN ?_ _ | refine blk_drew ?_ | refine blk_alloc ?_ _)); refine blk_far ?_ NB395_396.out _; (with_reducible repeat (first | refine blk_drewN ?_ _ | refine blk_drew ?_ | refine blk_alloc ?_ _)); refine blk_far ?_ NB395_396.out _; (with_reducible repeat (first | refine blk_drewN ?_ _ | refine blk_drew ?_ | refine blk_alloc ?_ _)); refine blk_far ?_ NB395_396.out _; (with_reducible repeat (first | refine blk_drewN ?_ _ | refine blk_drew ?_ | refine blk_alloc ?_ _)); refine blk_far ?_ NB395_396.out _; (with_reducible repeat (first | refine blk_drewN ?_ _ | refine blk_drew ?_ | refine blk_alloc ?_ _)); exact BK395.out⟩, ⟨by (with_reducible repeat (first | refine blk_drewN ?_ _ | refine blk_drew ?_ | refine blk_alloc ?_ _)); refine blk_put (cs := #[.int .i64 t390, .int .i64 t391, .int .i64 t392, .int .i64 0]) ?_ 3 _ rfl; (with_reducible repeat (first | refine blk_drewN ?_ _ | refine blk_drew ?_ | refine blk_alloc ?_ _)); refine blk_put (cs := #[.int .i64 t390, .int .i64 t391, .int .i64 0, .int .i64 0]) ?_ 2 _ rfl; (with_reducible repeat (first | refine blk_drewN ?_ _ | refine blk_drew ?_ | refine blk_alloc ?_ _)); refine blk_put (cs := #[.int .i64 t390, .int .i64 0, .int .i64 0, .int .i64 0]) ?_ 1 _ rfl; (with_reducible repeat (first | refine blk_drewN ?_ _ | refine blk_drew ?_ | refine blk_alloc ?_ _)); refine blk_put (cs := #[.int .i64 0, .int .i64 0, .int .i64 0, .int .i64 0]) ?_ 0 _ rfl; (with_reducible repeat (first | refine blk_drewN ?_ _ | refine blk_drew ?_ | refine blk_alloc ?_ _)); exact BK396.out⟩, ⟨by repeat (first | (with_reducible first | exact HB.out | apply below_alloc | apply pw_below_drewN | apply below_drew1 | refine below_set ?_ GE387.out | refine below_set ?_ GE395.out | refine below_set ?_ GE396.out) | exact HB.out)⟩⟩
 case rest =>
  clear HC5
  try clear c1
  try clear c2
  try clear p2
  try clear c7
  try clear c13
  try clear c15
  try clear c16
  try clear c17
  try clear c19
  try clear c19b0
  try clear c19b1
  try clear hcz10_0
  try clear hcz10_1
  try clear hcz10_2
  try clear hcz14_0
  try clear hcz14_1
  try clear hcz14_2
  try clear hcz14_3
  try clear hcz18_0
  try clear hcz18_1
  try clear hcz18_2
  try clear hcz18_3
  try clear hcz8_0
  try clear hcz8_1
  try clear hcz8_2
  try clear hfz10_0
  try clear hfz10_1
  try clear hfz10_2
  try clear hfz14_0
  try clear hfz14_1
  try clear hfz14_2
  try clear hfz14_3
  try clear hfz18_0
  try clear hfz18_1
  try clear hfz18_2
  try clear hfz18_3
  try clear hfz8_0
  try clear hfz8_1
  try clear hfz8_2
  obtain ⟨kq, x36_4, rfl, HA, HJ4, BK387, BK395, BK396, HB⟩ := hcut
  cases kq with
  | zero => exact absurd HA.out (by simp [q_DoorWorst.j0])
  | succ kj4 =>
   have H := HA.out
   clear HA
   simp only [q_DoorWorst.j0] at H
   by_cases c20 : x36_4 = true
   ·subst c20
    have H1 : (none) = some r := by rw [if_pos rfl] at H; exact H
    clear H
    have H := H1
    clear H1
    exact absurd H (by simp)
   ·replace c20 := Bool.eq_false_iff.mpr c20
    subst c20
    have H1 : (q_DoorWorst.l0 kj4 t388 0 t384 t385 t386 t390 t391 t392 t393 t390 t391 t392 t393) = some r := by rw [if_neg (show ¬ (false = true) by decide)] at H; exact H
    clear H
    have H := H1
    clear H1
    have H' := Aside0.mk H
    clear H
    go_wp2
    go_loopg [9] kj4 (fun kq v9 w' => ∃ (x9_2 : Int) (x396000_2 : Int) (x396001_2 : Int) (x396002_2 : Int) (x396003_2 : Int), v9 = .int .i64 x9_2 ∧ Aside0 (q_DoorWorst.l0 kq t388 x9_2 t384 t385 t386 x396000_2 x396001_2 x396002_2 x396003_2 t390 t391 t392 t393 = some r) ∧ Aside0 (kq ≤ kj4) ∧ Aside0 (w'.heap[gb387]? = some (.cells #[.int .i64 t384, .int .i64 t385, .int .i64 t386] 25 (0, 0))) ∧ Aside0 (w'.heap[gb395]? = some (.cells #[.int .i64 x396000_2, .int .i64 x396001_2, .int .i64 x396002_2, .int .i64 x396003_2] 23 (0, 0))) ∧ Aside0 (w'.heap[gb396]? = some (.cells #[.int .i64 t390, .int .i64 t391, .int .i64 t392, .int .i64 t393] 23 (0, 0))) ∧ Aside0 (Below w.heap.size w w'))
    case atStart => exact ⟨(0), (t390), (t391), (t392), (t393), (by first | rfl | (simp; done) | (simp [*]; done)), H', ⟨Nat.le_refl _⟩, ⟨by (with_reducible repeat (first | refine blk_drewN ?_ _ | refine blk_drew ?_ | refine blk_alloc ?_ _)); exact BK387.out⟩, ⟨by (with_reducible repeat (first | refine blk_drewN ?_ _ | refine blk_drew ?_ | refine blk_alloc ?_ _)); exact BK395.out⟩, ⟨by (with_reducible repeat (first | refine blk_drewN ?_ _ | refine blk_drew ?_ | refine blk_alloc ?_ _)); exact BK396.out⟩, ⟨by repeat (first | (with_reducible first | exact HB.out | apply below_alloc | apply pw_below_drewN | apply below_drew1 | refine below_set ?_ GE387.out | refine below_set ?_ GE395.out | refine below_set ?_ GE396.out) | exact HB.out)⟩⟩
    case round =>
     clear H'
     try clear c1
     try clear c2
     try clear p2
     try clear c7
     try clear c13
     try clear c15
     try clear c16
     try clear c17
     try clear c19
     try clear c19b0
     try clear c19b1
     try clear c20
     try clear hcz10_0
     try clear hcz10_1
     try clear hcz10_2
     try clear hcz14_0
     try clear hcz14_1
     try clear hcz14_2
     try clear hcz14_3
     try clear hcz18_0
     try clear hcz18_1
     try clear hcz18_2
     try clear hcz18_3
     try clear hcz8_0
     try clear hcz8_1
     try clear hcz8_2
     try clear hfz10_0
     try clear hfz10_1
     try clear hfz10_2
     try clear hfz14_0
     try clear hfz14_1
     try clear hfz14_2
     try clear hfz14_3
     try clear hfz18_0
     try clear hfz18_1
     try clear hfz18_2
     try clear hfz18_3
     try clear hfz8_0
     try clear hfz8_1
     try clear hfz8_2
     try clear p2
     obtain ⟨x9_2, x396000_2, x396001_2, x396002_2, x396003_2, rfl, HA, HK2, BK387, BK395, BK396, HB⟩ := hrel
     cases gk with
     | zero => exact absurd HA.out (by simp [q_DoorWorst.l0])
     | succ k2 =>
      have H := HA.out
      clear HA
      simp only [q_DoorWorst.l0] at H
      have HC21 := Aside0.mk H
      clear H
      go_upto_region 8 with (fail)
      go_cut [43] (fun v43 wc => ∃ (kq : Nat) (x43_20 : Bool), v43 = .bool x43_20 ∧ Aside0 (q_DoorWorst.j2 kq t388 x9_2 x43_20 t384 t385 t386 x396000_2 x396001_2 x396002_2 x396003_2 t390 t391 t392 t393 = some r) ∧ Aside0 (kq ≤ k2) ∧ Aside0 (wc.heap[gb387]? = some (.cells #[.int .i64 t384, .int .i64 t385, .int .i64 t386] 25 (0, 0))) ∧ Aside0 (wc.heap[gb395]? = some (.cells #[.int .i64 x396000_2, .int .i64 x396001_2, .int .i64 x396002_2, .int .i64 x396003_2] 23 (0, 0))) ∧ Aside0 (wc.heap[gb396]? = some (.cells #[.int .i64 t390, .int .i64 t391, .int .i64 t392, .int .i64 t393] 23 (0, 0))) ∧ Aside0 (Below w.heap.size w wc))
      case first =>
       have H := HC21.out
       clear HC21
       by_cases c22 : x396000_2 = 0
       ·rw [if_pos c22] at H
        have c22b0 : (x396000_2 == 0) = true := beq_iff_eq.mpr c22
        have c22b1 : (x396000_2 != 0) = false := bne_eq_false_iff_eq.mpr c22
        clear c22
        (first | rw [c22b0] | (simp only [i64_w, i32_w]; rw [c22b0]) | skip)
        have H' := Aside0.mk H
        clear H
        have hnb23 := NB395_387.out
        have hnc23 := NB387_395.out
        have hnb24 := NB395_396.out
        have hnc24 := NB396_395.out
        have hcz25_0 : wr.cell? ⟨gb395, 0, none⟩ = some (.int .i64 x396000_2) := (blk_cell BK395.out 0).trans rfl
        have hcz25_1 : wr.cell? ⟨gb395, 1, none⟩ = some (.int .i64 x396001_2) := (blk_cell BK395.out 1).trans rfl
        have hcz25_2 : wr.cell? ⟨gb395, 2, none⟩ = some (.int .i64 x396002_2) := (blk_cell BK395.out 2).trans rfl
        have hcz25_3 : wr.cell? ⟨gb395, 3, none⟩ = some (.int .i64 x396003_2) := (blk_cell BK395.out 3).trans rfl
        have hfz25_0 := blk_frozen BK395.out 0
        have hfz25_1 := blk_frozen BK395.out 1
        have hfz25_2 := blk_frozen BK395.out 2
        have hfz25_3 := blk_frozen BK395.out 3
        go_wp2
        go_meet
        case rel => exact ⟨_, (false), (by first | rfl | (simp; done) | (simp [*]; done)), H', ⟨by have := HJ4.out; have := HK2.out; first | omega | exact Nat.le_refl _⟩, ⟨by (with_reducible repeat (first | refine blk_drewN ?_ _ | refine blk_drew ?_ | refine blk_alloc ?_ _)); exact BK387.out⟩, ⟨by (with_reducible repeat (first | refine blk_drewN ?_ _ | refine blk_drew ?_ | refine blk_alloc ?_ _)); exact BK395.out⟩, ⟨by (with_reducible repeat (first | refine blk_drewN ?_ _ | refine blk_drew ?_ | refine blk_alloc ?_ _)); exact BK396.out⟩, ⟨by repeat (first | (with_reducible first | exact HB.out | apply below_alloc | apply pw_below_drewN | apply below_drew1 | refine below_set ?_ GE387.out | refine below_set ?_ GE395.out | refine below_set ?_ GE396.out) | exact HB.out)⟩⟩
       ·rw [if_neg c22] at H
        have c22b0 : (x396000_2 == 0) = false := beq_eq_false_iff_ne.mpr c22
        have c22b1 : (x396000_2 != 0) = true := bne_iff_ne.mpr c22
        (first | rw [c22b0] | (simp only [i64_w, i32_w]; rw [c22b0]) | skip)
        have H' := Aside0.mk H
        clear H
        have hnb26 := NB395_387.out
        have hnc26 := NB387_395.out
        have hnb27 := NB395_396.out
        have hnc27 := NB396_395.out
        have hcz28_0 : wr.cell? ⟨gb395, 0, none⟩ = some (.int .i64 x396000_2) := (blk_cell BK395.out 0).trans rfl
        have hcz28_1 : wr.cell? ⟨gb395, 1, none⟩ = some (.int .i64 x396001_2) := (blk_cell BK395.out 1).trans rfl
        have hcz28_2 : wr.cell? ⟨gb395, 2, none⟩ = some (.int .i64 x396002_2) := (blk_cell BK395.out 2).trans rfl
        have hcz28_3 : wr.cell? ⟨gb395, 3, none⟩ = some (.int .i64 x396003_2) := (blk_cell BK395.out 3).trans rfl
        have hfz28_0 := blk_frozen BK395.out 0
        have hfz28_1 := blk_frozen BK395.out 1
        have hfz28_2 := blk_frozen BK395.out 2
        have hfz28_3 := blk_frozen BK395.out 3
        go_wp2
        go_meet
        case rel => exact ⟨_, (decide (x9_2 ≤ 300)), (by first | rfl | (simp; done) | (simp [*]; done)), H', ⟨by have := HJ4.out; have := HK2.out; first | omega | exact Nat.le_refl _⟩, ⟨by (with_reducible repeat (first | refine blk_drewN ?_ _ | refine blk_drew ?_ | refine blk_alloc ?_ _)); exact BK387.out⟩, ⟨by (with_reducible repeat (first | refine blk_drewN ?_ _ | refine blk_drew ?_ | refine blk_alloc ?_ _)); exact BK395.out⟩, ⟨by (with_reducible repeat (first | refine blk_drewN ?_ _ | refine blk_drew ?_ | refine blk_alloc ?_ _)); exact BK396.out⟩, ⟨by repeat (first | (with_reducible first | exact HB.out | apply below_alloc | apply pw_below_drewN | apply below_drew1 | refine below_set ?_ GE387.out | refine below_set ?_ GE395.out | refine below_set ?_ GE396.out) | exact HB.out)⟩⟩
      case rest =>
       clear HC21
       try clear c1
       try clear c2
       try clear p2
       try clear c7
       try clear c13
       try clear c15
       try clear c16
       try clear c17
       try clear c19
       try clear c19b0
       try clear c19b1
       try clear c20
       try clear c22
       try clear c22b0
       try clear c22b1
       try clear c23
       try clear c24
       try clear c26
       try clear c27
       try clear hcz10_0
       try clear hcz10_1
       try clear hcz10_2
       try clear hcz14_0
       try clear hcz14_1
       try clear hcz14_2
       try clear hcz14_3
       try clear hcz18_0
       try clear hcz18_1
       try clear hcz18_2
       try clear hcz18_3
       try clear hcz25_0
       try clear hcz25_1
       try clear hcz25_2
       try clear hcz25_3
       try clear hcz28_0
       try clear hcz28_1
       try clear hcz28_2
       try clear hcz28_3
       try clear hcz8_0
       try clear hcz8_1
       try clear hcz8_2
       try clear hfz10_0
       try clear hfz10_1
       try clear hfz10_2
       try clear hfz14_0
       try clear hfz14_1
       try clear hfz14_2
       try clear hfz14_3
       try clear hfz18_0
       try clear hfz18_1
       try clear hfz18_2
       try clear hfz18_3
       try clear hfz25_0
       try clear hfz25_1
       try clear hfz25_2
       try clear hfz25_3
       try clear hfz28_0
       try clear hfz28_1
       try clear hfz28_2
       try clear hfz28_3
       try clear hfz8_0
       try clear hfz8_1
       try clear hfz8_2
       try clear p2
       obtain ⟨kq, x43_20, rfl, HA, HJ20, BK387, BK395, BK396, HB⟩ := hcut
       cases kq with
       | zero => exact absurd HA.out (by simp [q_DoorWorst.j2])
       | succ kj20 =>
        have H := HA.out
        clear HA
        simp only [q_DoorWorst.j2] at H
        by_cases c29 : x43_20 = true
        ·subst c29
         have H1 : (if x396000_2 = 3 then ((door_Step.f kj20 x396000_2 x396001_2 x396002_2 x396003_2 t384 t385 t386 (x396001_2 == 1)).bind fun bt397 => (if bt397.2.2.2.2.2 = 0 then (q_DoorWorst.l0 kj20 t388 (wrap64 (x9_2 + 1)) t384 t385 t386 bt397.1 bt397.2.1 bt397.2.2.1 bt397.2.2.2.1 t390 t391 t392 t393) else (none))) else ((door_Step.f kj20 x396000_2 x396001_2 x396002_2 x396003_2 t384 t385 t386 false).bind fun bt404 => (if bt404.2.2.2.2.2 = 0 then (q_DoorWorst.l0 kj20 t388 (wrap64 (x9_2 + 1)) t384 t385 t386 bt404.1 bt404.2.1 bt404.2.2.1 bt404.2.2.2.1 t390 t391 t392 t393) else (none)))) = some r := by rw [if_pos rfl] at H; exact H
         clear H
         have H := H1
         clear H1
         by_cases c30 : x396000_2 = 3
         ·rw [if_pos c30] at H
          have c30b0 : (x396000_2 == 3) = true := beq_iff_eq.mpr c30
          have c30b1 : (x396000_2 != 3) = false := bne_eq_false_iff_eq.mpr c30
          clear c30
          replace H := Option.bind_eq_some_iff.mp H
          obtain ⟨⟨t397, t398, t399, t400, t401, t402⟩, A310, H⟩ := H
          replace H : (if t402 = 0 then (q_DoorWorst.l0 kj20 t388 (wrap64 (x9_2 + 1)) t384 t385 t386 t397 t398 t399 t400 t390 t391 t392 t393) else (none)) = some r := H
          have A31 := Aside0.mk A310
          clear A310
          by_cases c32 : t402 = 0
          ·rw [if_pos c32] at H
           have c32b0 : (t402 == 0) = true := beq_iff_eq.mpr c32
           have c32b1 : (t402 != 0) = false := bne_eq_false_iff_eq.mpr c32
           clear c32
           have H' := Aside0.mk H
           clear H
           have hnb33 := NB395_387.out
           have hnc33 := NB387_395.out
           have hnb34 := NB395_396.out
           have hnc34 := NB396_395.out
           have hcz35_0 : wc.cell? ⟨gb395, 0, none⟩ = some (.int .i64 x396000_2) := (blk_cell BK395.out 0).trans rfl
           have hcz35_1 : wc.cell? ⟨gb395, 1, none⟩ = some (.int .i64 x396001_2) := (blk_cell BK395.out 1).trans rfl
           have hcz35_2 : wc.cell? ⟨gb395, 2, none⟩ = some (.int .i64 x396002_2) := (blk_cell BK395.out 2).trans rfl
           have hcz35_3 : wc.cell? ⟨gb395, 3, none⟩ = some (.int .i64 x396003_2) := (blk_cell BK395.out 3).trans rfl
           have hfz35_0 := blk_frozen BK395.out 0
           have hfz35_1 := blk_frozen BK395.out 1
           have hfz35_2 := blk_frozen BK395.out 2
           have hfz35_3 := blk_frozen BK395.out 3
           have hnb36 := NB387_396.out
           have hnc36 := NB396_387.out
           have hcz37_0 : wc.cell? ⟨gb387, 0, none⟩ = some (.int .i64 t384) := (blk_cell BK387.out 0).trans rfl
           have hcz37_1 : wc.cell? ⟨gb387, 1, none⟩ = some (.int .i64 t385) := (blk_cell BK387.out 1).trans rfl
           have hcz37_2 : wc.cell? ⟨gb387, 2, none⟩ = some (.int .i64 t386) := (blk_cell BK387.out 2).trans rfl
           have hfz37_0 := blk_frozen BK387.out 0
           have hfz37_1 := blk_frozen BK387.out 1
           have hfz37_2 := blk_frozen BK387.out 2
           go_wp2_with (first | ((with_reducible refine gate_callee (f := 9) rfl ?_); refine goesL_ (some 55) rfl rfl Try.func9 (by kernel_rfl) rfl #[.agg #[.int .i64 x396000_2, .int .i64 x396001_2, .int .i64 x396002_2, .int .i64 x396003_2], .agg #[.int .i64 t384, .int .i64 t385, .int .i64 t386], .bool (x396001_2 == 1)] rfl (by (try simp only [List.map_toArray, List.map_cons, List.map_nil]); first | done | rfl | (simp only [List.length_drop, List.length_take]; rfl)) ?_; (with_reducible refine (door_Step.calls kj20 x396000_2 x396001_2 x396002_2 x396003_2 t384 t385 t386 (x396001_2 == 1) t397 t398 t399 t400 t401 t402 _ A31.out).mono ?_); rintro e w38 ⟨rfl, hb⟩; refine ⟨_, rfl, ?_⟩; have n0_ := Aside0.mk (blk_below (g := gb387) (o := .cells #[.int .i64 t384, .int .i64 t385, .int .i64 t386] 25 (0, 0)) (by (with_reducible repeat (first | refine blk_drewN ?_ _ | refine blk_drew ?_ | refine blk_alloc ?_ _)); exact BK387.out) hb); have n1_ := Aside0.mk (blk_below (g := gb395) (o := .cells #[.int .i64 x396000_2, .int .i64 x396001_2, .int .i64 x396002_2, .int .i64 x396003_2] 23 (0, 0)) (by (with_reducible repeat (first | refine blk_drewN ?_ _ | refine blk_drew ?_ | refine blk_alloc ?_ _)); exact BK395.out) hb); have n2_ := Aside0.mk (blk_below (g := gb396) (o := .cells #[.int .i64 t390, .int .i64 t391, .int .i64 t392, .int .i64 t393] 23 (0, 0)) (by (with_reducible repeat (first | refine blk_drewN ?_ _ | refine blk_drew ?_ | refine blk_alloc ?_ _)); exact BK396.out) hb); have n3_ := Aside0.mk (below_step (by repeat (first | (with_reducible first | exact HB.out | apply below_alloc | apply pw_below_drewN | apply below_drew1 | refine below_set ?_ GE387.out | refine below_set ?_ GE395.out | refine below_set ?_ GE396.out) | exact HB.out)) hb); clear BK387; clear BK395; clear BK396; clear HB; have BK387 := n0_; have BK395 := n1_; have BK396 := n2_; have HB := n3_; clear n0_ n1_ n2_ n3_; (try clear hb); (try clear hb2); (try clear hk); (try clear hi)) | ((with_reducible refine gate_dst (N := 10) rfl ?_); (try (refine gate_guard (by rfl) ?_; dsimp only)); refine box_event ?hg (N := 10) ?hd (cs := #[.int .i64 0, .int .i64 0, .int .i64 0, .int .i64 0]) (t := 23) ?hr ?_; (case hd => rfl); (case hg => rfl); (case hr => first | (go_simp; done) | (go_simp; rfl)); intro gb403 hg w39 hbox hb; have n0_ := Aside0.mk (blk_below (g := gb387) (o := .cells #[.int .i64 t384, .int .i64 t385, .int .i64 t386] 25 (0, 0)) (by (with_reducible repeat (first | refine blk_drewN ?_ _ | refine blk_drew ?_ | refine blk_alloc ?_ _)); exact BK387.out) hb); have n1_ := Aside0.mk (blk_below (g := gb395) (o := .cells #[.int .i64 x396000_2, .int .i64 x396001_2, .int .i64 x396002_2, .int .i64 x396003_2] 23 (0, 0)) (by (with_reducible repeat (first | refine blk_drewN ?_ _ | refine blk_drew ?_ | refine blk_alloc ?_ _)); exact BK395.out) hb); have n2_ := Aside0.mk (blk_below (g := gb396) (o := .cells #[.int .i64 t390, .int .i64 t391, .int .i64 t392, .int .i64 t393] 23 (0, 0)) (by (with_reducible repeat (first | refine blk_drewN ?_ _ | refine blk_drew ?_ | refine blk_alloc ?_ _)); exact BK396.out) hb); have n3_ := Aside0.mk (below_step (by repeat (first | (with_reducible first | exact HB.out | apply below_alloc | apply pw_below_drewN | apply below_drew1 | refine below_set ?_ GE387.out | refine below_set ?_ GE395.out | refine below_set ?_ GE396.out) | exact HB.out)) hb); have n4_ := Aside0.mk (hbox); have n5_ := Aside0.mk ((by rw [hg]; exact (below_size (by repeat (first | (with_reducible first | exact HB.out | apply below_alloc | apply pw_below_drewN | apply below_drew1 | refine below_set ?_ GE387.out | refine below_set ?_ GE395.out | refine below_set ?_ GE396.out) | exact HB.out))) : w.heap.size ≤ gb403)); have n6_ := Aside0.mk ((by rw [hg]; exact (below_size (by repeat (first | (with_reducible first | exact HB.out | apply below_alloc | apply pw_below_drewN | apply below_drew1 | refine below_set ?_ GE387.out | refine below_set ?_ GE395.out | refine below_set ?_ GE396.out) | exact HB.out))) : w.heap.size ≤ gb403)); have n7_ := Aside0.mk ((by rw [hg]; exact Nat.ne_of_lt (blk_lt (g := gb387) (o := .cells #[.int .i64 t384, .int .i64 t385, .int .i64 t386] 25 (0, 0)) (by (with_reducible repeat (first | refine blk_drewN ?_ _ | refine blk_drew ?_ | refine blk_alloc ?_ _)); exact BK387.out)) : gb387 ≠ gb403)); have n8_ := Aside0.mk ((by rw [hg]; exact Nat.ne_of_gt (blk_lt (g := gb387) (o := .cells #[.int .i64 t384, .int .i64 t385, .int .i64 t386] 25 (0, 0)) (by (with_reducible repeat (first | refine blk_drewN ?_ _ | refine blk_drew ?_ | refine blk_alloc ?_ _)); exact BK387.out)) : gb403 ≠ gb387)); have n9_ := Aside0.mk ((by rw [hg]; exact Nat.ne_of_lt (blk_lt (g := gb395) (o := .cells #[.int .i64 x396000_2, .int .i64 x396001_2, .int .i64 x396002_2, .int .i64 x396003_2] 23 (0, 0)) (by (with_reducible repeat (first | refine blk_drewN ?_ _ | refine blk_drew ?_ | refine blk_alloc ?_ _)); exact BK395.out)) : gb395 ≠ gb403)); have n10_ := Aside0.mk ((by rw [hg]; exact Nat.ne_of_gt (blk_lt (g := gb395) (o := .cells #[.int .i64 x396000_2, .int .i64 x396001_2, .int .i64 x396002_2, .int .i64 x396003_2] 23 (0, 0)) (by (with_reducible repeat (first | refine blk_drewN ?_ _ | refine blk_drew ?_ | refine blk_alloc ?_ _)); exact BK395.out)) : gb403 ≠ gb395)); have n11_ := Aside0.mk ((by rw [hg]; exact Nat.ne_of_lt (blk_lt (g := gb396) (o := .cells #[.int .i64 t390, .int .i64 t391, .int .i64 t392, .int .i64 t393] 23 (0, 0)) (by (with_reducible repeat (first | refine blk_drewN ?_ _ | refine blk_drew ?_ | refine blk_alloc ?_ _)); exact BK396.out)) : gb396 ≠ gb403)); have n12_ := Aside0.mk ((by rw [hg]; exact Nat.ne_of_gt (blk_lt (g := gb396) (o := .cells #[.int .i64 t390, .int .i64 t391, .int .i64 t392, .int .i64 t393] 23 (0, 0)) (by (with_reducible repeat (first | refine blk_drewN ?_ _ | refine blk_drew ?_ | refine blk_alloc ?_ _)); exact BK396.out)) : gb403 ≠ gb396)); clear BK387; clear BK395; clear BK396; clear HB; have BK387 := n0_; have BK395 := n1_; have BK396 := n2_; have HB := n3_; have BK403 := n4_; have GW403 := n5_; have GE403 := n6_; have NB387_403 := n7_; have NB403_387 := n8_; have NB395_403 := n9_; have NB403_395 := n10_; have NB396_403 := n11_; have NB403_396 := n12_; clear n0_ n1_ n2_ n3_ n4_ n5_ n6_ n7_ n8_ n9_ n10_ n11_ n12_; clear hb hbox hg; have hnb40 := NB403_387.out; have hnc40 := NB387_403.out; have hnb41 := NB403_395.out; have hnc41 := NB395_403.out; have hnb42 := NB403_396.out; have hnc42 := NB396_403.out; have hcz43_0 : w39.cell? ⟨gb403, 0, none⟩ = some (.int .i64 0) := (blk_cell BK403.out 0).trans rfl; have hcz43_1 : w39.cell? ⟨gb403, 1, none⟩ = some (.int .i64 0) := (blk_cell BK403.out 1).trans rfl; have hcz43_2 : w39.cell? ⟨gb403, 2, none⟩ = some (.int .i64 0) := (blk_cell BK403.out 2).trans rfl; have hcz43_3 : w39.cell? ⟨gb403, 3, none⟩ = some (.int .i64 0) := (blk_cell BK403.out 3).trans rfl; have hfz43_0 := blk_frozen BK403.out 0; have hfz43_1 := blk_frozen BK403.out 1; have hfz43_2 := blk_frozen BK403.out 2; have hfz43_3 := blk_frozen BK403.out 3; have hcz44_0 : w39.cell? ⟨gb395, 0, none⟩ = some (.int .i64 x396000_2) := (blk_cell BK395.out 0).trans rfl; have hcz44_1 : w39.cell? ⟨gb395, 1, none⟩ = some (.int .i64 x396001_2) := (blk_cell BK395.out 1).trans rfl; have hcz44_2 : w39.cell? ⟨gb395, 2, none⟩ = some (.int .i64 x396002_2) := (blk_cell BK395.out 2).trans rfl; have hcz44_3 : w39.cell? ⟨gb395, 3, none⟩ = some (.int .i64 x396003_2) := (blk_cell BK395.out 3).trans rfl; have hfz44_0 := blk_frozen BK395.out 0; have hfz44_1 := blk_frozen BK395.out 1; have hfz44_2 := blk_frozen BK395.out 2; have hfz44_3 := blk_frozen BK395.out 3))
           go_roundg kj20
           case measure => have := HJ4.out; have := HK2.out; have := HJ20.out; omega
           case rel => exact ⟨(wrap64 (x9_2 + 1)), (t397), (t398), (t399), (t400), (by first | rfl | (simp; done) | (simp [*]; done)), H', ⟨by have := HJ4.out; have := HK2.out; have := HJ20.out; omega⟩, ⟨by (with_reducible repeat (first | refine blk_drewN ?_ _ | refine blk_drew ?_ | refine blk_alloc ?_ _)); refine blk_far ?_ NB387_395.out _; (with_reducible repeat (first | refine blk_drewN ?_ _ | refine blk_drew ?_ | refine blk_alloc ?_ _)); refine blk_far ?_ NB387_395.out _; (with_reducible repeat (first | refine blk_drewN ?_ _ | refine blk_drew ?_ | refine blk_alloc ?_ _)); refine blk_far ?_ NB387_395.out _; (with_reducible repeat (first | refine blk_drewN ?_ _ | refine blk_drew ?_ | refine blk_alloc ?_ _)); refine blk_far ?_ NB387_395.out _; (with_reducible repeat (first | refine blk_drewN ?_ _ | refine blk_drew ?_ | refine blk_alloc ?_ _)); refine blk_far ?_ NB387_403.out _; (with_reducible repeat (first | refine blk_drewN ?_ _ | refine blk_drew ?_ | refine blk_alloc ?_ _)); refine blk_far ?_ NB387_403.out _; (with_reducible repeat (first | refine blk_drewN ?_ _ | refine blk_drew ?_ | refine blk_alloc ?_ _)); refine blk_far ?_ NB387_403.out _; (with_reducible repeat (first | refine blk_drewN ?_ _ | refine blk_drew ?_ | refine blk_alloc ?_ _)); refine blk_far ?_ NB387_403.out _; (with_reducible repeat (first | refine blk_drewN ?_ _ | refine blk_drew ?_ | refine blk_alloc ?_ _)); exact BK387.out⟩, ⟨by (with_reducible repeat (first | refine blk_drewN ?_ _ | refine blk_drew ?_ | refine blk_alloc ?_ _)); refine blk_put (cs := #[.int .i64 t397, .int .i64 t398, .int .i64 t399, .int .i64 x396003_2]) ?_ 3 _ rfl; (with_reducible repeat (first | refine blk_drewN ?_ _ | refine blk_drew ?_ | refine blk_alloc ?_ _)); refine blk_put (cs := #[.int .i64 t397, .int .i64 t398, .int .i64 x396002_2, .int .i64 x396003_2]) ?_ 2 _ rfl; (with_reducible repeat (first | refine blk_drewN ?_ _ | refine blk_drew ?_ | refine blk_alloc ?_ _)); refine blk_put (cs := #[.int .i64 t397, .int .i64 x396001_2, .int .i64 x396002_2, .int .i64 x396003_2]) ?_ 1 _ rfl; (with_reducible repeat (first | refine blk_drewN ?_ _ | refine blk_drew ?_ | refine blk_alloc ?_ _)); refine blk_put (cs := #[.int .i64 x396000_2, .int .i64 x396001_2, .int .i64 x396002_2, .int .i64 x396003_2]) ?_ 0 _ rfl; (with_reducible repeat (first | refine blk_drewN ?_ _ | refine blk_drew ?_ | refine blk_alloc ?_ _)); refine blk_far ?_ NB395_403.out _; (with_reducible repeat (first | refine blk_drewN ?_ _ | refine blk_drew ?_ | refine blk_alloc ?_ _)); refine blk_far ?_ NB395_403.out _; (with_reducible repeat (first | refine blk_drewN ?_ _ | refine blk_drew ?_ | refine blk_alloc ?_ _)); refine blk_far ?_ NB395_403.out _; (with_reducible repeat (first | refine blk_drewN ?_ _ | refine blk_drew ?_ | refine blk_alloc ?_ _)); refine blk_far ?_ NB395_403.out _; (with_reducible repeat (first | refine blk_drewN ?_ _ | refine blk_drew ?_ | refine blk_alloc ?_ _)); exact BK395.out⟩, ⟨by (with_reducible repeat (first | refine blk_drewN ?_ _ | refine blk_drew ?_ | refine blk_alloc ?_ _)); refine blk_far ?_ NB396_395.out _; (with_reducible repeat (first | refine blk_drewN ?_ _ | refine blk_drew ?_ | refine blk_alloc ?_ _)); refine blk_far ?_ NB396_395.out _; (with_reducible repeat (first | refine blk_drewN ?_ _ | refine blk_drew ?_ | refine blk_alloc ?_ _)); refine blk_far ?_ NB396_395.out _; (with_reducible repeat (first | refine blk_drewN ?_ _ | refine blk_drew ?_ | refine blk_alloc ?_ _)); refine blk_far ?_ NB396_395.out _; (with_reducible repeat (first | refine blk_drewN ?_ _ | refine blk_drew ?_ | refine blk_alloc ?_ _)); refine blk_far ?_ NB396_403.out _; (with_reducible repeat (first | refine blk_drewN ?_ _ | refine blk_drew ?_ | refine blk_alloc ?_ _)); refine blk_far ?_ NB396_403.out _; (with_reducible repeat (first | refine blk_drewN ?_ _ | refine blk_drew ?_ | refine blk_alloc ?_ _)); refine blk_far ?_ NB396_403.out _; (with_reducible repeat (first | refine blk_drewN ?_ _ | refine blk_drew ?_ | refine blk_alloc ?_ _)); refine blk_far ?_ NB396_403.out _; (with_reducible repeat (first | refine blk_drewN ?_ _ | refine blk_drew ?_ | refine blk_alloc ?_ _)); exact BK396.out⟩, ⟨by repeat (first | (with_reducible first | exact HB.out | apply below_alloc | apply pw_below_drewN | apply below_drew1 | refine below_set ?_ GE387.out | refine below_set ?_ GE395.out | refine below_set ?_ GE396.out | refine below_set ?_ GE403.out) | exact HB.out)⟩⟩
          ·rw [if_neg c32] at H
           exact absurd H (by simp)
         ·rw [if_neg c30] at H
          have c30b0 : (x396000_2 == 3) = false := beq_eq_false_iff_ne.mpr c30
          have c30b1 : (x396000_2 != 3) = true := bne_iff_ne.mpr c30
          replace H := Option.bind_eq_some_iff.mp H
          obtain ⟨⟨t404, t405, t406, t407, t408, t409⟩, A450, H⟩ := H
          replace H : (if t409 = 0 then (q_DoorWorst.l0 kj20 t388 (wrap64 (x9_2 + 1)) t384 t385 t386 t404 t405 t406 t407 t390 t391 t392 t393) else (none)) = some r := H
          have A45 := Aside0.mk A450
          clear A450
          by_cases c46 : t409 = 0
          ·rw [if_pos c46] at H
           have c46b0 : (t409 == 0) = true := beq_iff_eq.mpr c46
           have c46b1 : (t409 != 0) = false := bne_eq_false_iff_eq.mpr c46
           clear c46
           have H' := Aside0.mk H
           clear H
           have hnb47 := NB395_387.out
           have hnc47 := NB387_395.out
           have hnb48 := NB395_396.out
           have hnc48 := NB396_395.out
           have hcz49_0 : wc.cell? ⟨gb395, 0, none⟩ = some (.int .i64 x396000_2) := (blk_cell BK395.out 0).trans rfl
           have hcz49_1 : wc.cell? ⟨gb395, 1, none⟩ = some (.int .i64 x396001_2) := (blk_cell BK395.out 1).trans rfl
           have hcz49_2 : wc.cell? ⟨gb395, 2, none⟩ = some (.int .i64 x396002_2) := (blk_cell BK395.out 2).trans rfl
           have hcz49_3 : wc.cell? ⟨gb395, 3, none⟩ = some (.int .i64 x396003_2) := (blk_cell BK395.out 3).trans rfl
           have hfz49_0 := blk_frozen BK395.out 0
           have hfz49_1 := blk_frozen BK395.out 1
           have hfz49_2 := blk_frozen BK395.out 2
           have hfz49_3 := blk_frozen BK395.out 3
           have hnb50 := NB387_396.out
           have hnc50 := NB396_387.out
           have hcz51_0 : wc.cell? ⟨gb387, 0, none⟩ = some (.int .i64 t384) := (blk_cell BK387.out 0).trans rfl
           have hcz51_1 : wc.cell? ⟨gb387, 1, none⟩ = some (.int .i64 t385) := (blk_cell BK387.out 1).trans rfl
           have hcz51_2 : wc.cell? ⟨gb387, 2, none⟩ = some (.int .i64 t386) := (blk_cell BK387.out 2).trans rfl
           have hfz51_0 := blk_frozen BK387.out 0
           have hfz51_1 := blk_frozen BK387.out 1
           have hfz51_2 := blk_frozen BK387.out 2
           go_wp2_with (first | ((with_reducible refine gate_callee (f := 9) rfl ?_); refine goesL_ (some 55) rfl rfl Try.func9 (by kernel_rfl) rfl #[.agg #[.int .i64 x396000_2, .int .i64 x396001_2, .int .i64 x396002_2, .int .i64 x396003_2], .agg #[.int .i64 t384, .int .i64 t385, .int .i64 t386], .bool false] rfl (by (try simp only [List.map_toArray, List.map_cons, List.map_nil]); first | done | rfl | (simp only [List.length_drop, List.length_take]; rfl)) ?_; (with_reducible refine (door_Step.calls kj20 x396000_2 x396001_2 x396002_2 x396003_2 t384 t385 t386 false t404 t405 t406 t407 t408 t409 _ A45.out).mono ?_); rintro e w52 ⟨rfl, hb⟩; refine ⟨_, rfl, ?_⟩; have n0_ := Aside0.mk (blk_below (g := gb387) (o := .cells #[.int .i64 t384, .int .i64 t385, .int .i64 t386] 25 (0, 0)) (by (with_reducible repeat (first | refine blk_drewN ?_ _ | refine blk_drew ?_ | refine blk_alloc ?_ _)); exact BK387.out) hb); have n1_ := Aside0.mk (blk_below (g := gb395) (o := .cells #[.int .i64 x396000_2, .int .i64 x396001_2, .int .i64 x396002_2, .int .i64 x396003_2] 23 (0, 0)) (by (with_reducible repeat (first | refine blk_drewN ?_ _ | refine blk_drew ?_ | refine blk_alloc ?_ _)); exact BK395.out) hb); have n2_ := Aside0.mk (blk_below (g := gb396) (o := .cells #[.int .i64 t390, .int .i64 t391, .int .i64 t392, .int .i64 t393] 23 (0, 0)) (by (with_reducible repeat (first | refine blk_drewN ?_ _ | refine blk_drew ?_ | refine blk_alloc ?_ _)); exact BK396.out) hb); have n3_ := Aside0.mk (below_step (by repeat (first | (with_reducible first | exact HB.out | apply below_alloc | apply pw_below_drewN | apply below_drew1 | refine below_set ?_ GE387.out | refine below_set ?_ GE395.out | refine below_set ?_ GE396.out) | exact HB.out)) hb); clear BK387; clear BK395; clear BK396; clear HB; have BK387 := n0_; have BK395 := n1_; have BK396 := n2_; have HB := n3_; clear n0_ n1_ n2_ n3_; (try clear hb); (try clear hb2); (try clear hk); (try clear hi)) | ((with_reducible refine gate_dst (N := 10) rfl ?_); (try (refine gate_guard (by rfl) ?_; dsimp only)); refine box_event ?hg (N := 10) ?hd (cs := #[.int .i64 0, .int .i64 0, .int .i64 0, .int .i64 0]) (t := 23) ?hr ?_; (case hd => rfl); (case hg => rfl); (case hr => first | (go_simp; done) | (go_simp; rfl)); intro gb410 hg w53 hbox hb; have n0_ := Aside0.mk (blk_below (g := gb387) (o := .cells #[.int .i64 t384, .int .i64 t385, .int .i64 t386] 25 (0, 0)) (by (with_reducible repeat (first | refine blk_drewN ?_ _ | refine blk_drew ?_ | refine blk_alloc ?_ _)); exact BK387.out) hb); have n1_ := Aside0.mk (blk_below (g := gb395) (o := .cells #[.int .i64 x396000_2, .int .i64 x396001_2, .int .i64 x396002_2, .int .i64 x396003_2] 23 (0, 0)) (by (with_reducible repeat (first | refine blk_drewN ?_ _ | refine blk_drew ?_ | refine blk_alloc ?_ _)); exact BK395.out) hb); have n2_ := Aside0.mk (blk_below (g := gb396) (o := .cells #[.int .i64 t390, .int .i64 t391, .int .i64 t392, .int .i64 t393] 23 (0, 0)) (by (with_reducible repeat (first | refine blk_drewN ?_ _ | refine blk_drew ?_ | refine blk_alloc ?_ _)); exact BK396.out) hb); have n3_ := Aside0.mk (below_step (by repeat (first | (with_reducible first | exact HB.out | apply below_alloc | apply pw_below_drewN | apply below_drew1 | refine below_set ?_ GE387.out | refine below_set ?_ GE395.out | refine below_set ?_ GE396.out) | exact HB.out)) hb); have n4_ := Aside0.mk (hbox); have n5_ := Aside0.mk ((by rw [hg]; exact (below_size (by repeat (first | (with_reducible first | exact HB.out | apply below_alloc | apply pw_below_drewN | apply below_drew1 | refine below_set ?_ GE387.out | refine below_set ?_ GE395.out | refine below_set ?_ GE396.out) | exact HB.out))) : w.heap.size ≤ gb410)); have n6_ := Aside0.mk ((by rw [hg]; exact (below_size (by repeat (first | (with_reducible first | exact HB.out | apply below_alloc | apply pw_below_drewN | apply below_drew1 | refine below_set ?_ GE387.out | refine below_set ?_ GE395.out | refine below_set ?_ GE396.out) | exact HB.out))) : w.heap.size ≤ gb410)); have n7_ := Aside0.mk ((by rw [hg]; exact Nat.ne_of_lt (blk_lt (g := gb387) (o := .cells #[.int .i64 t384, .int .i64 t385, .int .i64 t386] 25 (0, 0)) (by (with_reducible repeat (first | refine blk_drewN ?_ _ | refine blk_drew ?_ | refine blk_alloc ?_ _)); exact BK387.out)) : gb387 ≠ gb410)); have n8_ := Aside0.mk ((by rw [hg]; exact Nat.ne_of_gt (blk_lt (g := gb387) (o := .cells #[.int .i64 t384, .int .i64 t385, .int .i64 t386] 25 (0, 0)) (by (with_reducible repeat (first | refine blk_drewN ?_ _ | refine blk_drew ?_ | refine blk_alloc ?_ _)); exact BK387.out)) : gb410 ≠ gb387)); have n9_ := Aside0.mk ((by rw [hg]; exact Nat.ne_of_lt (blk_lt (g := gb395) (o := .cells #[.int .i64 x396000_2, .int .i64 x396001_2, .int .i64 x396002_2, .int .i64 x396003_2] 23 (0, 0)) (by (with_reducible repeat (first | refine blk_drewN ?_ _ | refine blk_drew ?_ | refine blk_alloc ?_ _)); exact BK395.out)) : gb395 ≠ gb410)); have n10_ := Aside0.mk ((by rw [hg]; exact Nat.ne_of_gt (blk_lt (g := gb395) (o := .cells #[.int .i64 x396000_2, .int .i64 x396001_2, .int .i64 x396002_2, .int .i64 x396003_2] 23 (0, 0)) (by (with_reducible repeat (first | refine blk_drewN ?_ _ | refine blk_drew ?_ | refine blk_alloc ?_ _)); exact BK395.out)) : gb410 ≠ gb395)); have n11_ := Aside0.mk ((by rw [hg]; exact Nat.ne_of_lt (blk_lt (g := gb396) (o := .cells #[.int .i64 t390, .int .i64 t391, .int .i64 t392, .int .i64 t393] 23 (0, 0)) (by (with_reducible repeat (first | refine blk_drewN ?_ _ | refine blk_drew ?_ | refine blk_alloc ?_ _)); exact BK396.out)) : gb396 ≠ gb410)); have n12_ := Aside0.mk ((by rw [hg]; exact Nat.ne_of_gt (blk_lt (g := gb396) (o := .cells #[.int .i64 t390, .int .i64 t391, .int .i64 t392, .int .i64 t393] 23 (0, 0)) (by (with_reducible repeat (first | refine blk_drewN ?_ _ | refine blk_drew ?_ | refine blk_alloc ?_ _)); exact BK396.out)) : gb410 ≠ gb396)); clear BK387; clear BK395; clear BK396; clear HB; have BK387 := n0_; have BK395 := n1_; have BK396 := n2_; have HB := n3_; have BK410 := n4_; have GW410 := n5_; have GE410 := n6_; have NB387_410 := n7_; have NB410_387 := n8_; have NB395_410 := n9_; have NB410_395 := n10_; have NB396_410 := n11_; have NB410_396 := n12_; clear n0_ n1_ n2_ n3_ n4_ n5_ n6_ n7_ n8_ n9_ n10_ n11_ n12_; clear hb hbox hg; have hnb54 := NB410_387.out; have hnc54 := NB387_410.out; have hnb55 := NB410_395.out; have hnc55 := NB395_410.out; have hnb56 := NB410_396.out; have hnc56 := NB396_410.out; have hcz57_0 : w53.cell? ⟨gb410, 0, none⟩ = some (.int .i64 0) := (blk_cell BK410.out 0).trans rfl; have hcz57_1 : w53.cell? ⟨gb410, 1, none⟩ = some (.int .i64 0) := (blk_cell BK410.out 1).trans rfl; have hcz57_2 : w53.cell? ⟨gb410, 2, none⟩ = some (.int .i64 0) := (blk_cell BK410.out 2).trans rfl; have hcz57_3 : w53.cell? ⟨gb410, 3, none⟩ = some (.int .i64 0) := (blk_cell BK410.out 3).trans rfl; have hfz57_0 := blk_frozen BK410.out 0; have hfz57_1 := blk_frozen BK410.out 1; have hfz57_2 := blk_frozen BK410.out 2; have hfz57_3 := blk_frozen BK410.out 3; have hcz58_0 : w53.cell? ⟨gb395, 0, none⟩ = some (.int .i64 x396000_2) := (blk_cell BK395.out 0).trans rfl; have hcz58_1 : w53.cell? ⟨gb395, 1, none⟩ = some (.int .i64 x396001_2) := (blk_cell BK395.out 1).trans rfl; have hcz58_2 : w53.cell? ⟨gb395, 2, none⟩ = some (.int .i64 x396002_2) := (blk_cell BK395.out 2).trans rfl; have hcz58_3 : w53.cell? ⟨gb395, 3, none⟩ = some (.int .i64 x396003_2) := (blk_cell BK395.out 3).trans rfl; have hfz58_0 := blk_frozen BK395.out 0; have hfz58_1 := blk_frozen BK395.out 1; have hfz58_2 := blk_frozen BK395.out 2; have hfz58_3 := blk_frozen BK395.out 3))
           go_roundg kj20
           case measure => have := HJ4.out; have := HK2.out; have := HJ20.out; omega
           case rel => exact ⟨(wrap64 (x9_2 + 1)), (t404), (t405), (t406), (t407), (by first | rfl | (simp; done) | (simp [*]; done)), H', ⟨by have := HJ4.out; have := HK2.out; have := HJ20.out; omega⟩, ⟨by (with_reducible repeat (first | refine blk_drewN ?_ _ | refine blk_drew ?_ | refine blk_alloc ?_ _)); refine blk_far ?_ NB387_395.out _; (with_reducible repeat (first | refine blk_drewN ?_ _ | refine blk_drew ?_ | refine blk_alloc ?_ _)); refine blk_far ?_ NB387_395.out _; (with_reducible repeat (first | refine blk_drewN ?_ _ | refine blk_drew ?_ | refine blk_alloc ?_ _)); refine blk_far ?_ NB387_395.out _; (with_reducible repeat (first | refine blk_drewN ?_ _ | refine blk_drew ?_ | refine blk_alloc ?_ _)); refine blk_far ?_ NB387_395.out _; (with_reducible repeat (first | refine blk_drewN ?_ _ | refine blk_drew ?_ | refine blk_alloc ?_ _)); refine blk_far ?_ NB387_410.out _; (with_reducible repeat (first | refine blk_drewN ?_ _ | refine blk_drew ?_ | refine blk_alloc ?_ _)); refine blk_far ?_ NB387_410.out _; (with_reducible repeat (first | refine blk_drewN ?_ _ | refine blk_drew ?_ | refine blk_alloc ?_ _)); refine blk_far ?_ NB387_410.out _; (with_reducible repeat (first | refine blk_drewN ?_ _ | refine blk_drew ?_ | refine blk_alloc ?_ _)); refine blk_far ?_ NB387_410.out _; (with_reducible repeat (first | refine blk_drewN ?_ _ | refine blk_drew ?_ | refine blk_alloc ?_ _)); exact BK387.out⟩, ⟨by (with_reducible repeat (first | refine blk_drewN ?_ _ | refine blk_drew ?_ | refine blk_alloc ?_ _)); refine blk_put (cs := #[.int .i64 t404, .int .i64 t405, .int .i64 t406, .int .i64 x396003_2]) ?_ 3 _ rfl; (with_reducible repeat (first | refine blk_drewN ?_ _ | refine blk_drew ?_ | refine blk_alloc ?_ _)); refine blk_put (cs := #[.int .i64 t404, .int .i64 t405, .int .i64 x396002_2, .int .i64 x396003_2]) ?_ 2 _ rfl; (with_reducible repeat (first | refine blk_drewN ?_ _ | refine blk_drew ?_ | refine blk_alloc ?_ _)); refine blk_put (cs := #[.int .i64 t404, .int .i64 x396001_2, .int .i64 x396002_2, .int .i64 x396003_2]) ?_ 1 _ rfl; (with_reducible repeat (first | refine blk_drewN ?_ _ | refine blk_drew ?_ | refine blk_alloc ?_ _)); refine blk_put (cs := #[.int .i64 x396000_2, .int .i64 x396001_2, .int .i64 x396002_2, .int .i64 x396003_2]) ?_ 0 _ rfl; (with_reducible repeat (first | refine blk_drewN ?_ _ | refine blk_drew ?_ | refine blk_alloc ?_ _)); refine blk_far ?_ NB395_410.out _; (with_reducible repeat (first | refine blk_drewN ?_ _ | refine blk_drew ?_ | refine blk_alloc ?_ _)); refine blk_far ?_ NB395_410.out _; (with_reducible repeat (first | refine blk_drewN ?_ _ | refine blk_drew ?_ | refine blk_alloc ?_ _)); refine blk_far ?_ NB395_410.out _; (with_reducible repeat (first | refine blk_drewN ?_ _ | refine blk_drew ?_ | refine blk_alloc ?_ _)); refine blk_far ?_ NB395_410.out _; (with_reducible repeat (first | refine blk_drewN ?_ _ | refine blk_drew ?_ | refine blk_alloc ?_ _)); exact BK395.out⟩, ⟨by (with_reducible repeat (first | refine blk_drewN ?_ _ | refine blk_drew ?_ | refine blk_alloc ?_ _)); refine blk_far ?_ NB396_395.out _; (with_reducible repeat (first | refine blk_drewN ?_ _ | refine blk_drew ?_ | refine blk_alloc ?_ _)); refine blk_far ?_ NB396_395.out _; (with_reducible repeat (first | refine blk_drewN ?_ _ | refine blk_drew ?_ | refine blk_alloc ?_ _)); refine blk_far ?_ NB396_395.out _; (with_reducible repeat (first | refine blk_drewN ?_ _ | refine blk_drew ?_ | refine blk_alloc ?_ _)); refine blk_far ?_ NB396_395.out _; (with_reducible repeat (first | refine blk_drewN ?_ _ | refine blk_drew ?_ | refine blk_alloc ?_ _)); refine blk_far ?_ NB396_410.out _; (with_reducible repeat (first | refine blk_drewN ?_ _ | refine blk_drew ?_ | refine blk_alloc ?_ _)); refine blk_far ?_ NB396_410.out _; (with_reducible repeat (first | refine blk_drewN ?_ _ | refine blk_drew ?_ | refine blk_alloc ?_ _)); refine blk_far ?_ NB396_410.out _; (with_reducible repeat (first | refine blk_drewN ?_ _ | refine blk_drew ?_ | refine blk_alloc ?_ _)); refine blk_far ?_ NB396_410.out _; (with_reducible repeat (first | refine blk_drewN ?_ _ | refine blk_drew ?_ | refine blk_alloc ?_ _)); exact BK396.out⟩, ⟨by repeat (first | (with_reducible first | exact HB.out | apply below_alloc | apply pw_below_drewN | apply below_drew1 | refine below_set ?_ GE387.out | refine below_set ?_ GE395.out | refine below_set ?_ GE396.out | refine below_set ?_ GE410.out) | exact HB.out)⟩⟩
          ·rw [if_neg c46] at H
           exact absurd H (by simp)
        ·replace c29 := Bool.eq_false_iff.mpr c29
         subst c29
         have H1 : (if 0 ≤ (wrap64 ((wrap64 (2 * t384)) + t385)) then (if (wrap64 ((wrap64 (2 * t384)) + t385) : Int).toNat ≤ 281474976710656 then ((door_Run.f t390 t391 t392 t393 t384 t385 t386 (List.replicate (wrap64 ((wrap64 (2 * t384)) + t385) : Int).toNat false)).bind fun bt414 => ((door_Rest.f t390 t391 t392 t393 t384 t385 t386).bind fun bt423 => (if x9_2 = t388 then (if bt414.2.2.2.2.2 = 0 then (if bt423.2.2 = 0 then (if (bt414.1 == 0 && (bt414.2.1 == 0 && (bt414.2.2.1 == 0 && (bt414.2.2.2.1 == 0)))) = true then ((kit_SameInts.f kj20 bt414.2.2.2.2.1 (([wrap64 (t384 - 1)] : List Int))).bind fun t429 => (if t429 = true then (if bt423.1 = (wrap64 ((wrap64 (2 * t384)) + t385)) then (if bt423.2.1 = t388 then ((q_awake.f kj20).bind fun t430 => (if t430 = true then (some true) else (none))) else (none)) else (none)) else (none))) else (none)) else (none)) else (none)) else (none)))) else (none)) else (none)) = some r := by rw [if_neg (show ¬ (false = true) by decide)] at H; exact H
         clear H
         have H := H1
         clear H1
         obtain ⟨ji59, hji59⟩ : ∃ j_ : Int, (wrap64 ((wrap64 (2 * t384)) + t385)) = j_ := ⟨_, rfl⟩
         replace H : (if 0 ≤ (ji59) then (if (ji59 : Int).toNat ≤ 281474976710656 then ((door_Run.f t390 t391 t392 t393 t384 t385 t386 (List.replicate (ji59 : Int).toNat false)).bind fun bt414 => ((door_Rest.f t390 t391 t392 t393 t384 t385 t386).bind fun bt423 => (if x9_2 = t388 then (if bt414.2.2.2.2.2 = 0 then (if bt423.2.2 = 0 then (if (bt414.1 == 0 && (bt414.2.1 == 0 && (bt414.2.2.1 == 0 && (bt414.2.2.2.1 == 0)))) = true then ((kit_SameInts.f kj20 bt414.2.2.2.2.1 (([wrap64 (t384 - 1)] : List Int))).bind fun t429 => (if t429 = true then (if bt423.1 = (ji59) then (if bt423.2.1 = t388 then ((q_awake.f kj20).bind fun t430 => (if t430 = true then (some true) else (none))) else (none)) else (none)) else (none))) else (none)) else (none)) else (none)) else (none)))) else (none)) else (none)) = some r := by first | (rw [hji59] at H; exact H) | (simp only [hji59] at H ⊢; exact H)
         have hji59w : (IntKind.i64.wrap ((wrap64 (2 * t384)) + t385)) = ji59 := (i64_w _).trans hji59
         by_cases c60 : 0 ≤ (ji59)
         ·rw [if_pos c60] at H
          have c60b0 := eq_true c60
          have c60b1 : decide (0 ≤ (ji59)) = true := decide_eq_true c60
          clear c60
          by_cases c61 : (ji59 : Int).toNat ≤ 281474976710656
          ·rw [if_pos c61] at H
           have c61b0 := eq_true c61
           have c61b1 : decide ((ji59 : Int).toNat ≤ 281474976710656) = true := decide_eq_true c61
           clear c61
           obtain ⟨y411, hy411⟩ : ∃ y_ : List Bool, y_ = (List.replicate (ji59 : Int).toNat false) := ⟨_, rfl⟩
           replace H : ((door_Run.f t390 t391 t392 t393 t384 t385 t386 y411).bind fun bt414 => ((door_Rest.f t390 t391 t392 t393 t384 t385 t386).bind fun bt423 => (if x9_2 = t388 then (if bt414.2.2.2.2.2 = 0 then (if bt423.2.2 = 0 then (if (bt414.1 == 0 && (bt414.2.1 == 0 && (bt414.2.2.1 == 0 && (bt414.2.2.2.1 == 0)))) = true then ((kit_SameInts.f kj20 bt414.2.2.2.2.1 (([wrap64 (t384 - 1)] : List Int))).bind fun t429 => (if t429 = true then (if bt423.1 = (ji59) then (if bt423.2.1 = t388 then ((q_awake.f kj20).bind fun t430 => (if t430 = true then (some true) else (none))) else (none)) else (none)) else (none))) else (none)) else (none)) else (none)) else (none)))) = some r := by first | (rw [hy411]; with_reducible exact H) | (have H2_ := (Option.bind_some _ _).symm.trans H; rw [hy411]; with_reducible exact H2_) | (have H2_ := (Option.bind_some _ _).symm.trans H; with_reducible exact H2_) | with_reducible exact H | (rw [hy411]; exact H) | exact H
           have Ny411 := Aside0.mk hy411
           clear hy411
           replace H := Option.bind_eq_some_iff.mp H
           obtain ⟨⟨t414, t415, t416, t417, t418, t421⟩, A620, H⟩ := H
           replace H : ((door_Rest.f t390 t391 t392 t393 t384 t385 t386).bind fun bt423 => (if x9_2 = t388 then (if t421 = 0 then (if bt423.2.2 = 0 then (if (t414 == 0 && (t415 == 0 && (t416 == 0 && (t417 == 0)))) = true then ((kit_SameInts.f kj20 t418 (([wrap64 (t384 - 1)] : List Int))).bind fun t429 => (if t429 = true then (if bt423.1 = (ji59) then (if bt423.2.1 = t388 then ((q_awake.f kj20).bind fun t430 => (if t430 = true then (some true) else (none))) else (none)) else (none)) else (none))) else (none)) else (none)) else (none)) else (none))) = some r := H
           have A62 := Aside0.mk A620
           clear A620
           replace H := Option.bind_eq_some_iff.mp H
           obtain ⟨⟨t423, t424, t425⟩, A630, H⟩ := H
           replace H : (if x9_2 = t388 then (if t421 = 0 then (if t425 = 0 then (if (t414 == 0 && (t415 == 0 && (t416 == 0 && (t417 == 0)))) = true then ((kit_SameInts.f kj20 t418 (([wrap64 (t384 - 1)] : List Int))).bind fun t429 => (if t429 = true then (if t423 = (ji59) then (if t424 = t388 then ((q_awake.f kj20).bind fun t430 => (if t430 = true then (some true) else (none))) else (none)) else (none)) else (none))) else (none)) else (none)) else (none)) else (none)) = some r := H
           have A63 := Aside0.mk A630
           clear A630
           by_cases c64 : x9_2 = t388
           ·rw [if_pos c64] at H
            have c64b0 : (x9_2 == t388) = true := beq_iff_eq.mpr c64
            have c64b1 : (x9_2 != t388) = false := bne_eq_false_iff_eq.mpr c64
            clear c64
            by_cases c65 : t421 = 0
            ·rw [if_pos c65] at H
             have c65b0 : (t421 == 0) = true := beq_iff_eq.mpr c65
             have c65b1 : (t421 != 0) = false := bne_eq_false_iff_eq.mpr c65
             clear c65
             by_cases c66 : t425 = 0
             ·rw [if_pos c66] at H
              have c66b0 : (t425 == 0) = true := beq_iff_eq.mpr c66
              have c66b1 : (t425 != 0) = false := bne_eq_false_iff_eq.mpr c66
              clear c66
              by_cases c67 : (t414 == 0 && (t415 == 0 && (t416 == 0 && (t417 == 0)))) = true
              ·rw [if_pos c67] at H
               have c67b0 : (t414 == 0 && (t415 == 0 && (t416 == 0 && (t417 == 0)))) = true := c67
               (try (have c67b1 : decide (t414 = 0 && (t415 == 0 && (t416 == 0 && (t417 == 0)))) = true := by simpa using c67))
               (try (have c67b2 : (t414 == 0 && (t415 == 0 && (t416 == 0 && (t417 == 0)))) = true := by simpa using c67))
               clear c67
               obtain ⟨y426, hy426⟩ : ∃ y_ : List Int, y_ = (([wrap64 (t384 - 1)] : List Int)) := ⟨_, rfl⟩
               replace H : ((kit_SameInts.f kj20 t418 y426).bind fun t429 => (if t429 = true then (if t423 = (ji59) then (if t424 = t388 then ((q_awake.f kj20).bind fun t430 => (if t430 = true then (some true) else (none))) else (none)) else (none)) else (none))) = some r := by first | (rw [hy426]; with_reducible exact H) | (have H2_ := (Option.bind_some _ _).symm.trans H; rw [hy426]; with_reducible exact H2_) | (have H2_ := (Option.bind_some _ _).symm.trans H; with_reducible exact H2_) | with_reducible exact H | (rw [hy426]; exact H) | exact H
               have Ny426 := Aside0.mk hy426
               clear hy426
               replace H := Option.bind_eq_some_iff.mp H
               obtain ⟨t429, A680, H⟩ := H
               replace H : (if t429 = true then (if t423 = (ji59) then (if t424 = t388 then ((q_awake.f kj20).bind fun t430 => (if t430 = true then (some true) else (none))) else (none)) else (none)) else (none)) = some r := H
               have A68 := Aside0.mk A680
               clear A680
               by_cases c69 : t429 = true
               ·subst c69
                have H1 : (if t423 = (ji59) then (if t424 = t388 then ((q_awake.f kj20).bind fun t430 => (if t430 = true then (some true) else (none))) else (none)) else (none)) = some r := by rw [if_pos rfl] at H; exact H
                clear H
                have H := H1
                clear H1
                by_cases c70 : t423 = (ji59)
                ·rw [if_pos c70] at H
                 have c70b0 : (t423 == (ji59)) = true := beq_iff_eq.mpr c70
                 have c70b1 : (t423 != (ji59)) = false := bne_eq_false_iff_eq.mpr c70
                 clear c70
                 by_cases c71 : t424 = t388
                 ·rw [if_pos c71] at H
                  have c71b0 : (t424 == t388) = true := beq_iff_eq.mpr c71
                  have c71b1 : (t424 != t388) = false := bne_eq_false_iff_eq.mpr c71
                  clear c71
                  replace H := Option.bind_eq_some_iff.mp H
                  obtain ⟨t430, A720, H⟩ := H
                  replace H : (if t430 = true then (some true) else (none)) = some r := H
                  have A72 := Aside0.mk A720
                  clear A720
                  by_cases c73 : t430 = true
                  ·subst c73
                   have H1 : (some true) = some r := by rw [if_pos rfl] at H; exact H
                   clear H
                   have H := H1
                   clear H1
                   obtain rfl := Option.some.inj H
                   try go_wp2
                   have n0_ := Aside0.mk (blk_drew BK387.out)
                   have n1_ := Aside0.mk (blk_drew BK395.out)
                   have n2_ := Aside0.mk (blk_drew BK396.out)
                   have n3_ := Aside0.mk (below_drew1 HB.out)
                   clear BK387
                   clear BK395
                   clear BK396
                   clear HB
                   have BK387 := n0_
                   have BK395 := n1_
                   have BK396 := n2_
                   have HB := n3_
                   clear n0_ n1_ n2_ n3_
                   refine start_ (n := 18) (S := fun w' => w'.cell? ⟨gb396, 0, none⟩ = some (.int .i64 t390) ∧ w'.cell? ⟨gb396, 1, none⟩ = some (.int .i64 t391) ∧ w'.cell? ⟨gb396, 2, none⟩ = some (.int .i64 t392) ∧ w'.cell? ⟨gb396, 3, none⟩ = some (.int .i64 t393) ∧ w'.cell? ⟨gb387, 0, none⟩ = some (.int .i64 t384) ∧ w'.cell? ⟨gb387, 1, none⟩ = some (.int .i64 t385) ∧ w'.cell? ⟨gb387, 2, none⟩ = some (.int .i64 t386)) (ds := []) #[false, false, false, false, false, false, false, false, false, false, false, false, false, false, false, false, false, false] (by kernel_rfl) rfl rfl ⟨(blk_cell BK396.out 0).trans rfl, (blk_cell BK396.out 1).trans rfl, (blk_cell BK396.out 2).trans rfl, (blk_cell BK396.out 3).trans rfl, (blk_cell BK387.out 0).trans rfl, (blk_cell BK387.out 1).trans rfl, (blk_cell BK387.out 2).trans rfl⟩ (fun hHeld => ?_); refine with_tabW q_DoorWorst.tab14 q_DoorWorst.bits14 (fun HT_ HW_ => ?_)
                   generalize wc.drew = w74 at BK387 BK395 BK396 HB hHeld ⊢
                   refine pure_ (i := 2) (N := some 67) (v := ?_) (a' := ?_) #[false, false, true, false, false, false, false, false, false, false, false, false, false, false, false, false, false, false] rfl rfl (any_of HT_.out (by kernel_rfl)) (fun _ _ _ h => h) (Or.inl ⟨by rfl, ?_⟩) ?_ ?_
                   rotate_left
                   ·intro w'
                    go_simp
                    with_reducible rfl
                   rotate_left
                   ·simp only [Act.put, List.setIfInBounds_toArray, List.set_cons_zero, List.set_cons_succ, i64_w, i32_w]
                    rfl
                   refine pure_ (i := 5) (N := some 70) (v := ?_) (a' := ?_) #[false, false, true, false, false, true, false, false, false, false, false, false, false, false, false, false, false, false] rfl rfl (any_of HT_.out (by kernel_rfl)) (fun _ _ _ h => h) (Or.inl ⟨by rfl, ?_⟩) ?_ ?_
                   rotate_left
                   ·intro w'
                    go_simp
                    with_reducible rfl
                   rotate_left
                   ·simp only [Act.put, List.setIfInBounds_toArray, List.set_cons_zero, List.set_cons_succ, i64_w, i32_w]
                    rfl
                   refine take_ (i := 0) (N := some 65) (v := ?_) (a' := ?_) #[true, false, true, false, false, true, false, false, false, false, false, false, false, false, false, false, false, false] rfl rfl (take_ofW HT_.out HW_.out (by kernel_rfl)) (fun _ _ _ h => h) (Or.inl ⟨by rfl, ?_⟩) hHeld ?_ ?_
                   rotate_left
                   ·rintro w' ⟨s0, s1, s2, s3, s4, s5, s6⟩
                    go_simp
                    with_reducible rfl
                   rotate_left
                   ·simp only [Act.put, List.setIfInBounds_toArray, List.set_cons_zero, List.set_cons_succ, i64_w, i32_w]
                    rfl
                   refine take_ (i := 1) (N := some 66) (v := ?_) (a' := ?_) #[true, true, true, false, false, true, false, false, false, false, false, false, false, false, false, false, false, false] rfl rfl (take_ofW HT_.out HW_.out (by kernel_rfl)) (fun _ _ _ h => h) (Or.inl ⟨by rfl, ?_⟩) hHeld ?_ ?_
                   rotate_left
                   ·rintro w' ⟨s0, s1, s2, s3, s4, s5, s6⟩
                    go_simp
                    with_reducible rfl
                   rotate_left
                   ·simp only [Act.put, List.setIfInBounds_toArray, List.set_cons_zero, List.set_cons_succ, i64_w, i32_w]
                    rfl
                   refine take_ (i := 3) (N := some 68) (v := ?_) (a' := ?_) #[true, true, true, true, false, true, false, false, false, false, false, false, false, false, false, false, false, false] rfl rfl (take_ofW HT_.out HW_.out (by kernel_rfl)) (fun _ _ _ h => h) (Or.inl ⟨by rfl, ?_⟩) hHeld ?_ ?_
                   rotate_left
                   ·rintro w' ⟨s0, s1, s2, s3, s4, s5, s6⟩
                    go_simp
                    with_reducible rfl
                   rotate_left
                   ·simp only [Act.put, List.setIfInBounds_toArray, List.set_cons_zero, List.set_cons_succ, i64_w, i32_w]
                    rfl
                   refine pure_ (i := 4) (N := some 69) (v := ?_) (a' := ?_) #[true, true, true, true, true, true, false, false, false, false, false, false, false, false, false, false, false, false] rfl rfl (any_of HT_.out (by kernel_rfl)) (fun _ _ _ h => h) (Or.inl ⟨by rfl, ?_⟩) ?_ ?_
                   rotate_left
                   ·intro w'
                    go_simp
                    with_reducible rfl
                   rotate_left
                   ·simp only [Act.put, List.setIfInBounds_toArray, List.set_cons_zero, List.set_cons_succ, i64_w, i32_w]
                    rfl
                   refine take_ (i := 6) (N := some 71) (v := ?_) (a' := ?_) #[true, true, true, true, true, true, true, false, false, false, false, false, false, false, false, false, false, false] rfl rfl (take_ofW HT_.out HW_.out (by kernel_rfl)) (fun _ _ _ h => h) (Or.inl ⟨by rfl, ?_⟩) hHeld ?_ ?_
                   rotate_left
                   ·rintro w' ⟨s0, s1, s2, s3, s4, s5, s6⟩
                    go_simp
                    with_reducible rfl
                   rotate_left
                   ·simp only [Act.put, List.setIfInBounds_toArray, List.set_cons_zero, List.set_cons_succ, i64_w, i32_w]
                    rfl
                   refine pure_ (i := 7) (N := some 72) (v := ?_) (a' := ?_) #[true, true, true, true, true, true, true, true, false, false, false, false, false, false, false, false, false, false] rfl rfl (any_of HT_.out (by kernel_rfl)) (fun _ _ _ h => h) (Or.inl ⟨by rfl, ?_⟩) ?_ ?_
                   rotate_left
                   ·intro w'
                    go_simp
                    with_reducible rfl
                   rotate_left
                   ·simp only [Act.put, List.setIfInBounds_toArray, List.set_cons_zero, List.set_cons_succ, i64_w, i32_w]
                    rfl
                   refine join_ (σ := Value × Value × Nat) 3 #[true, true, true, true, true, true, true, true, true, true, true, true, true, true, true, false, false, false] (fun s_ => [(73, s_.1), (74, .tuple #[.agg #[.int .i64 t414, .int .i64 t415, .int .i64 t416, .int .i64 t417], s_.2.1, .int .i64 t421]), (13, .pointer (some ⟨s_.2.2, 0, none⟩)), (64, .tuple #[.agg #[.int .i64 t414, .int .i64 t415, .int .i64 t416, .int .i64 t417], s_.2.1, .int .i64 t421]), (75, .agg #[.int .i64 t414, .int .i64 t415, .int .i64 t416, .int .i64 t417]), (76, s_.2.1), (77, .int .i64 t421)]) (fun s_ w' => (w'.cell? ⟨gb396, 0, none⟩ = some (.int .i64 t390) ∧ w'.cell? ⟨gb396, 1, none⟩ = some (.int .i64 t391) ∧ w'.cell? ⟨gb396, 2, none⟩ = some (.int .i64 t392) ∧ w'.cell? ⟨gb396, 3, none⟩ = some (.int .i64 t393) ∧ w'.cell? ⟨gb387, 0, none⟩ = some (.int .i64 t384) ∧ w'.cell? ⟨gb387, 1, none⟩ = some (.int .i64 t385) ∧ w'.cell? ⟨gb387, 2, none⟩ = some (.int .i64 t386)) ∧ (Kd.R Kd.bool 4 w' w.heap.size (fun _ => True) s_.1 y411) ∧ (Kd.R (Kd.int .i64) 3 w' w.heap.size (fun _ => True) s_.2.1 t418) ∧ (w'.heap[gb387]? = some (.cells #[.int .i64 t384, .int .i64 t385, .int .i64 t386] 25 (0, 0))) ∧ (w'.heap[gb395]? = some (.cells #[.int .i64 x396000_2, .int .i64 x396001_2, .int .i64 x396002_2, .int .i64 x396003_2] 23 (0, 0))) ∧ (w'.heap[gb396]? = some (.cells #[.int .i64 t390, .int .i64 t391, .int .i64 t392, .int .i64 t393] 23 (0, 0))) ∧ (w'.heap[s_.2.2]? = some (.cells #[.int .i64 0, .int .i64 0, .int .i64 0, .int .i64 0] 23 (0, 0))) ∧ (w.heap.size ≤ s_.2.2) ∧ (w.heap.size ≤ s_.2.2) ∧ (gb387 ≠ s_.2.2) ∧ (s_.2.2 ≠ gb387) ∧ (gb395 ≠ s_.2.2) ∧ (s_.2.2 ≠ gb395) ∧ (gb396 ≠ s_.2.2) ∧ (s_.2.2 ≠ gb396) ∧ (Below w.heap.size w w')) ?_ ?_
                   rotate_left
                   ·intro hCont
                    refine two_ (i := 8) (j := 14) (Ni := some 73) (Nj := some 13) #[true, true, true, true, true, true, true, true, true, false, false, false, false, false, false, false, false, false] #[true, true, true, true, true, true, true, true, false, false, false, false, false, false, true, false, false, false] rfl rfl rfl rfl (two_of HT_.out (by kernel_rfl)) (by decide) (by decide) (fun K hK => ?_) (fun K hK => ?_)
                    ·skip
                     refine Kd.R_make_step Kd.bool _ 4 (by rfl) (N := 73) rfl 40 _ _ rfl ji59 rfl rfl Try.underlying40 (.bool false) 1 info4 rfl (by decide) (by omega) false (ok := fun _ => True) (okp := fun _ => True) rfl (fun _ hk => hk) trivial (of_decide_eq_true (by first | (with_reducible assumption) | assumption)) (Nat.le_trans (Nat.mul_le_mul_right _ (of_decide_eq_true (by first | (with_reducible assumption) | assumption) : ji59.toNat ≤ 281474976710656)) (by omega)) (Below.refl _ _) (Nat.le_refl _) ?_
                     intro v412 w75 ho76 hb hg_ hnew_
                     clear hg_ hnew_
                     (first | rw [← Ny411.out] at ho76 | (simp only [Int.reduceToNat] at ho76; rw [← Ny411.out] at ho76))
                     have n0_ := Aside0.mk (Kd.R_lower ho76 (below_size (by repeat (first | (with_reducible first | exact HB.out | apply below_alloc | apply pw_below_drewN | apply below_drew1 | refine below_set ?_ GE387.out | refine below_set ?_ GE395.out | refine below_set ?_ GE396.out) | exact HB.out))))
                     have n1_ := Aside0.mk (blk_below (g := gb387) (o := .cells #[.int .i64 t384, .int .i64 t385, .int .i64 t386] 25 (0, 0)) (by (with_reducible repeat (first | refine blk_drewN ?_ _ | refine blk_drew ?_ | refine blk_alloc ?_ _)); exact BK387.out) hb)
                     have n2_ := Aside0.mk (blk_below (g := gb395) (o := .cells #[.int .i64 x396000_2, .int .i64 x396001_2, .int .i64 x396002_2, .int .i64 x396003_2] 23 (0, 0)) (by (with_reducible repeat (first | refine blk_drewN ?_ _ | refine blk_drew ?_ | refine blk_alloc ?_ _)); exact BK395.out) hb)
                     have n3_ := Aside0.mk (blk_below (g := gb396) (o := .cells #[.int .i64 t390, .int .i64 t391, .int .i64 t392, .int .i64 t393] 23 (0, 0)) (by (with_reducible repeat (first | refine blk_drewN ?_ _ | refine blk_drew ?_ | refine blk_alloc ?_ _)); exact BK396.out) hb)
                     have n4_ := Aside0.mk (below_step (by repeat (first | (with_reducible first | exact HB.out | apply below_alloc | apply pw_below_drewN | apply below_drew1 | refine below_set ?_ GE387.out | refine below_set ?_ GE395.out | refine below_set ?_ GE396.out) | exact HB.out)) hb)
                     clear BK387
                     clear BK395
                     clear BK396
                     clear HB
                     have HO413 := n0_
                     have BK387 := n1_
                     have BK395 := n2_
                     have BK396 := n3_
                     have HB := n4_
                     clear n0_ n1_ n2_ n3_ n4_
                     clear hb ho76
                     obtain ⟨Ao77, co77, eo77⟩ := Kd.R_slice HO413.out
                     (first | subst eo77 | (injection eo77 with f1_ f2_ f3_; have f4_ := f1_.symm; have f5_ := f3_.symm; clear f1_ f2_ f3_; subst f4_; subst f5_))
                     refine hK.out _ _ ⟨(blk_cell BK396.out 0).trans rfl, (blk_cell BK396.out 1).trans rfl, (blk_cell BK396.out 2).trans rfl, (blk_cell BK396.out 3).trans rfl, (blk_cell BK387.out 0).trans rfl, (blk_cell BK387.out 1).trans rfl, (blk_cell BK387.out 2).trans rfl⟩ (fun hHeld => ?_)
                     clear hK K
                     refine norm_ (a' := ?_) ?_ ?_
                     rotate_left
                     ·show Act.put _ (some 73) _ = _
                      simp only [Act.put, List.setIfInBounds_toArray, List.set_cons_zero, List.set_cons_succ, i64_w, i32_w]
                      rfl
                     refine two_ (i := 9) (j := 14) (Ni := some 74) (Nj := some 13) #[true, true, true, true, true, true, true, true, true, true, false, false, false, false, false, false, false, false] #[true, true, true, true, true, true, true, true, true, false, false, false, false, false, true, false, false, false] rfl rfl rfl rfl (two_of HT_.out (by kernel_rfl)) (by decide) (by decide) (fun K hK => ?_) (fun K hK => ?_)
                     ·skip
                      refine goes_ Try.func24 (by kernel_rfl) rfl #[.agg #[.int .i64 t390, .int .i64 t391, .int .i64 t392, .int .i64 t393], .agg #[.int .i64 t384, .int .i64 t385, .int .i64 t386], .slice Ao77 y411.length co77] (by rfl) rfl rfl (by (try simp only [List.map_toArray, List.map_cons, List.map_nil]); first | done | rfl | (simp only [List.length_drop, List.length_take]; rfl)) ?_
                      with_reducible refine (door_Run.calls t390 t391 t392 t393 t384 t385 t386 _ _ y411 t414 t415 t416 t417 t418 t421 _ ?side1 ?side2 A62.out).mono ?_
                      (case side1 => repeat (first | exact (Kd.R_reads' HO413.out).2.2 | (with_reducible refine Kd.C_alloc ?_ _) | (with_reducible refine Kd.C_drewN ?_ _) | (with_reducible refine Kd.C_drew ?_)))
                      (case side2 => exact (Kd.R_reads' HO413.out).2.1)
                      rintro e w78 ⟨v419, rfl, ho0, hb⟩
                      refine ⟨_, rfl, ?_⟩
                      have n0_ := Aside0.mk (Kd.R_below (by (with_reducible repeat (first | apply Kd.R_alloc | apply Kd.R_drewN | apply Kd.R_drew)); exact HO413.out) hb)
                      have n1_ := Aside0.mk (Kd.R_lower ho0 (below_size (by repeat (first | (with_reducible first | exact HB.out | apply below_alloc | apply pw_below_drewN | apply below_drew1 | refine below_set ?_ GE387.out | refine below_set ?_ GE395.out | refine below_set ?_ GE396.out) | exact HB.out))))
                      have n2_ := Aside0.mk (blk_below (g := gb387) (o := .cells #[.int .i64 t384, .int .i64 t385, .int .i64 t386] 25 (0, 0)) (by (with_reducible repeat (first | refine blk_drewN ?_ _ | refine blk_drew ?_ | refine blk_alloc ?_ _)); exact BK387.out) hb)
                      have n3_ := Aside0.mk (blk_below (g := gb395) (o := .cells #[.int .i64 x396000_2, .int .i64 x396001_2, .int .i64 x396002_2, .int .i64 x396003_2] 23 (0, 0)) (by (with_reducible repeat (first | refine blk_drewN ?_ _ | refine blk_drew ?_ | refine blk_alloc ?_ _)); exact BK395.out) hb)
                      have n4_ := Aside0.mk (blk_below (g := gb396) (o := .cells #[.int .i64 t390, .int .i64 t391, .int .i64 t392, .int .i64 t393] 23 (0, 0)) (by (with_reducible repeat (first | refine blk_drewN ?_ _ | refine blk_drew ?_ | refine blk_alloc ?_ _)); exact BK396.out) hb)
                      have n5_ := Aside0.mk (below_step (by repeat (first | (with_reducible first | exact HB.out | apply below_alloc | apply pw_below_drewN | apply below_drew1 | refine below_set ?_ GE387.out | refine below_set ?_ GE395.out | refine below_set ?_ GE396.out) | exact HB.out)) hb)
                      clear HO413
                      clear BK387
                      clear BK395
                      clear BK396
                      clear HB
                      have HO413 := n0_
                      have HO420 := n1_
                      have BK387 := n2_
                      have BK395 := n3_
                      have BK396 := n4_
                      have HB := n5_
                      clear n0_ n1_ n2_ n3_ n4_ n5_
                      (try clear hb)
                      (try clear hb2)
                      (try clear hk)
                      (try clear hi)
                      (try clear ho0)
                      refine hK.out _ _ ⟨(blk_cell BK396.out 0).trans rfl, (blk_cell BK396.out 1).trans rfl, (blk_cell BK396.out 2).trans rfl, (blk_cell BK396.out 3).trans rfl, (blk_cell BK387.out 0).trans rfl, (blk_cell BK387.out 1).trans rfl, (blk_cell BK387.out 2).trans rfl⟩ (fun hHeld => ?_)
                      clear hK K
                      refine norm_ (a' := ?_) ?_ ?_
                      rotate_left
                      ·show Act.put _ (some 74) _ = _
                       simp only [Act.put, List.setIfInBounds_toArray, List.set_cons_zero, List.set_cons_succ, i64_w, i32_w]
                       rfl
                      refine pure_ (i := 10) (N := some 64) (v := ?_) (a' := ?_) #[true, true, true, true, true, true, true, true, true, true, true, false, false, false, false, false, false, false] rfl rfl (any_of HT_.out (by kernel_rfl)) (fun _ _ _ h => h) (Or.inl ⟨by rfl, ?_⟩) ?_ ?_
                      rotate_left
                      ·intro w'
                       go_simp
                       with_reducible rfl
                      rotate_left
                      ·simp only [Act.put, List.setIfInBounds_toArray, List.set_cons_zero, List.set_cons_succ, i64_w, i32_w]
                       rfl
                      refine pure_ (i := 11) (N := some 75) (v := ?_) (a' := ?_) #[true, true, true, true, true, true, true, true, true, true, true, true, false, false, false, false, false, false] rfl rfl (any_of HT_.out (by kernel_rfl)) (fun _ _ _ h => h) (Or.inl ⟨by rfl, ?_⟩) ?_ ?_
                      rotate_left
                      ·intro w'
                       go_simp
                       with_reducible rfl
                      rotate_left
                      ·simp only [Act.put, List.setIfInBounds_toArray, List.set_cons_zero, List.set_cons_succ, i64_w, i32_w]
                       rfl
                      refine pure_ (i := 12) (N := some 76) (v := ?_) (a' := ?_) #[true, true, true, true, true, true, true, true, true, true, true, true, true, false, false, false, false, false] rfl rfl (any_of HT_.out (by kernel_rfl)) (fun _ _ _ h => h) (Or.inl ⟨by rfl, ?_⟩) ?_ ?_
                      rotate_left
                      ·intro w'
                       go_simp
                       with_reducible rfl
                      rotate_left
                      ·simp only [Act.put, List.setIfInBounds_toArray, List.set_cons_zero, List.set_cons_succ, i64_w, i32_w]
                       rfl
                      refine pure_ (i := 13) (N := some 77) (v := ?_) (a' := ?_) #[true, true, true, true, true, true, true, true, true, true, true, true, true, true, false, false, false, false] rfl rfl (any_of HT_.out (by kernel_rfl)) (fun _ _ _ h => h) (Or.inl ⟨by rfl, ?_⟩) ?_ ?_
                      rotate_left
                      ·intro w'
                       go_simp
                       with_reducible rfl
                      rotate_left
                      ·simp only [Act.put, List.setIfInBounds_toArray, List.set_cons_zero, List.set_cons_succ, i64_w, i32_w]
                       rfl
                      refine one_ (i := 14) (N := some 13) #[true, true, true, true, true, true, true, true, true, true, true, true, true, true, true, false, false, false] rfl rfl (one_of HT_.out (by kernel_rfl)) (by decide) (fun K hK => ?_)
                      refine box_step ?hg (N := 13) ?hd (cs := #[.int .i64 0, .int .i64 0, .int .i64 0, .int .i64 0]) (t := 23) ?hr ?_; (case hd => rfl); (case hg => rfl); (case hr => first | (go_simp; done) | (go_simp; rfl))
                      intro gb422 hg w79 hbox hb
                      have n0_ := Aside0.mk (Kd.R_below (by (with_reducible repeat (first | apply Kd.R_alloc | apply Kd.R_drewN | apply Kd.R_drew)); exact HO413.out) hb)
                      have n1_ := Aside0.mk (Kd.R_below (by (with_reducible repeat (first | apply Kd.R_alloc | apply Kd.R_drewN | apply Kd.R_drew)); exact HO420.out) hb)
                      have n2_ := Aside0.mk (blk_below (g := gb387) (o := .cells #[.int .i64 t384, .int .i64 t385, .int .i64 t386] 25 (0, 0)) (by (with_reducible repeat (first | refine blk_drewN ?_ _ | refine blk_drew ?_ | refine blk_alloc ?_ _)); exact BK387.out) hb)
                      have n3_ := Aside0.mk (blk_below (g := gb395) (o := .cells #[.int .i64 x396000_2, .int .i64 x396001_2, .int .i64 x396002_2, .int .i64 x396003_2] 23 (0, 0)) (by (with_reducible repeat (first | refine blk_drewN ?_ _ | refine blk_drew ?_ | refine blk_alloc ?_ _)); exact BK395.out) hb)
                      have n4_ := Aside0.mk (blk_below (g := gb396) (o := .cells #[.int .i64 t390, .int .i64 t391, .int .i64 t392, .int .i64 t393] 23 (0, 0)) (by (with_reducible repeat (first | refine blk_drewN ?_ _ | refine blk_drew ?_ | refine blk_alloc ?_ _)); exact BK396.out) hb)
                      have n5_ := Aside0.mk (below_step (by repeat (first | (with_reducible first | exact HB.out | apply below_alloc | apply pw_below_drewN | apply below_drew1 | refine below_set ?_ GE387.out | refine below_set ?_ GE395.out | refine below_set ?_ GE396.out) | exact HB.out)) hb)
                      have n6_ := Aside0.mk (hbox)
                      have n7_ := Aside0.mk ((by rw [hg]; exact (below_size (by repeat (first | (with_reducible first | exact HB.out | apply below_alloc | apply pw_below_drewN | apply below_drew1 | refine below_set ?_ GE387.out | refine below_set ?_ GE395.out | refine below_set ?_ GE396.out) | exact HB.out))) : w.heap.size ≤ gb422))
                      have n8_ := Aside0.mk ((by rw [hg]; exact (below_size (by repeat (first | (with_reducible first | exact HB.out | apply below_alloc | apply pw_below_drewN | apply below_drew1 | refine below_set ?_ GE387.out | refine below_set ?_ GE395.out | refine below_set ?_ GE396.out) | exact HB.out))) : w.heap.size ≤ gb422))
                      have n9_ := Aside0.mk ((by rw [hg]; exact Nat.ne_of_lt (blk_lt (g := gb387) (o := .cells #[.int .i64 t384, .int .i64 t385, .int .i64 t386] 25 (0, 0)) (by (with_reducible repeat (first | refine blk_drewN ?_ _ | refine blk_drew ?_ | refine blk_alloc ?_ _)); exact BK387.out)) : gb387 ≠ gb422))
                      have n10_ := Aside0.mk ((by rw [hg]; exact Nat.ne_of_gt (blk_lt (g := gb387) (o := .cells #[.int .i64 t384, .int .i64 t385, .int .i64 t386] 25 (0, 0)) (by (with_reducible repeat (first | refine blk_drewN ?_ _ | refine blk_drew ?_ | refine blk_alloc ?_ _)); exact BK387.out)) : gb422 ≠ gb387))
                      have n11_ := Aside0.mk ((by rw [hg]; exact Nat.ne_of_lt (blk_lt (g := gb395) (o := .cells #[.int .i64 x396000_2, .int .i64 x396001_2, .int .i64 x396002_2, .int .i64 x396003_2] 23 (0, 0)) (by (with_reducible repeat (first | refine blk_drewN ?_ _ | refine blk_drew ?_ | refine blk_alloc ?_ _)); exact BK395.out)) : gb395 ≠ gb422))
                      have n12_ := Aside0.mk ((by rw [hg]; exact Nat.ne_of_gt (blk_lt (g := gb395) (o := .cells #[.int .i64 x396000_2, .int .i64 x396001_2, .int .i64 x396002_2, .int .i64 x396003_2] 23 (0, 0)) (by (with_reducible repeat (first | refine blk_drewN ?_ _ | refine blk_drew ?_ | refine blk_alloc ?_ _)); exact BK395.out)) : gb422 ≠ gb395))
                      have n13_ := Aside0.mk ((by rw [hg]; exact Nat.ne_of_lt (blk_lt (g := gb396) (o := .cells #[.int .i64 t390, .int .i64 t391, .int .i64 t392, .int .i64 t393] 23 (0, 0)) (by (with_reducible repeat (first | refine blk_drewN ?_ _ | refine blk_drew ?_ | refine blk_alloc ?_ _)); exact BK396.out)) : gb396 ≠ gb422))
                      have n14_ := Aside0.mk ((by rw [hg]; exact Nat.ne_of_gt (blk_lt (g := gb396) (o := .cells #[.int .i64 t390, .int .i64 t391, .int .i64 t392, .int .i64 t393] 23 (0, 0)) (by (with_reducible repeat (first | refine blk_drewN ?_ _ | refine blk_drew ?_ | refine blk_alloc ?_ _)); exact BK396.out)) : gb422 ≠ gb396))
                      clear HO413
                      clear HO420
                      clear BK387
                      clear BK395
                      clear BK396
                      clear HB
                      have HO413 := n0_
                      have HO420 := n1_
                      have BK387 := n2_
                      have BK395 := n3_
                      have BK396 := n4_
                      have HB := n5_
                      have BK422 := n6_
                      have GW422 := n7_
                      have GE422 := n8_
                      have NB387_422 := n9_
                      have NB422_387 := n10_
                      have NB395_422 := n11_
                      have NB422_395 := n12_
                      have NB396_422 := n13_
                      have NB422_396 := n14_
                      clear n0_ n1_ n2_ n3_ n4_ n5_ n6_ n7_ n8_ n9_ n10_ n11_ n12_ n13_ n14_
                      clear hb hbox hg
                      refine hK.out _ _ ⟨(blk_cell BK396.out 0).trans rfl, (blk_cell BK396.out 1).trans rfl, (blk_cell BK396.out 2).trans rfl, (blk_cell BK396.out 3).trans rfl, (blk_cell BK387.out 0).trans rfl, (blk_cell BK387.out 1).trans rfl, (blk_cell BK387.out 2).trans rfl⟩ (fun hHeld => ?_)
                      clear hK K
                      refine norm_ (a' := ?_) ?_ ?_
                      rotate_left
                      ·show Act.put _ (some 13) _ = _
                       simp only [Act.put, List.setIfInBounds_toArray, List.set_cons_zero, List.set_cons_succ, i64_w, i32_w]
                       rfl
                      exact norm_ (by simp only [putAll, Act.put, List.setIfInBounds_toArray, List.set_cons_zero, List.set_cons_succ]) (hCont (.slice Ao77 y411.length co77, v419, gb422) _ ⟨hHeld, (by (with_reducible repeat (first | apply Kd.R_alloc | apply Kd.R_drewN | apply Kd.R_drew)); exact HO413.out), (by (with_reducible repeat (first | apply Kd.R_alloc | apply Kd.R_drewN | apply Kd.R_drew)); exact HO420.out), (by (with_reducible repeat (first | refine blk_drewN ?_ _ | refine blk_drew ?_ | refine blk_alloc ?_ _)); exact BK387.out), (by (with_reducible repeat (first | refine blk_drewN ?_ _ | refine blk_drew ?_ | refine blk_alloc ?_ _)); exact BK395.out), (by (with_reducible repeat (first | refine blk_drewN ?_ _ | refine blk_drew ?_ | refine blk_alloc ?_ _)); exact BK396.out), (by (with_reducible repeat (first | refine blk_drewN ?_ _ | refine blk_drew ?_ | refine blk_alloc ?_ _)); exact BK422.out), GW422.out, GE422.out, NB387_422.out, NB422_387.out, NB395_422.out, NB422_395.out, NB396_422.out, NB422_396.out, (by repeat (first | (with_reducible first | exact HB.out | apply below_alloc | apply pw_below_drewN | apply below_drew1 | refine below_set ?_ GE387.out | refine below_set ?_ GE395.out | refine below_set ?_ GE396.out | refine below_set ?_ GE422.out) | exact HB.out))⟩)
                     ·skip
                      refine box_step ?hg (N := 13) ?hd (cs := #[.int .i64 0, .int .i64 0, .int .i64 0, .int .i64 0]) (t := 23) ?hr ?_; (case hd => rfl); (case hg => rfl); (case hr => first | (go_simp; done) | (go_simp; rfl))
                      intro gb422 hg w77 hbox hb
                      have n0_ := Aside0.mk (Kd.R_below (by (with_reducible repeat (first | apply Kd.R_alloc | apply Kd.R_drewN | apply Kd.R_drew)); exact HO413.out) hb)
                      have n1_ := Aside0.mk (blk_below (g := gb387) (o := .cells #[.int .i64 t384, .int .i64 t385, .int .i64 t386] 25 (0, 0)) (by (with_reducible repeat (first | refine blk_drewN ?_ _ | refine blk_drew ?_ | refine blk_alloc ?_ _)); exact BK387.out) hb)
                      have n2_ := Aside0.mk (blk_below (g := gb395) (o := .cells #[.int .i64 x396000_2, .int .i64 x396001_2, .int .i64 x396002_2, .int .i64 x396003_2] 23 (0, 0)) (by (with_reducible repeat (first | refine blk_drewN ?_ _ | refine blk_drew ?_ | refine blk_alloc ?_ _)); exact BK395.out) hb)
                      have n3_ := Aside0.mk (blk_below (g := gb396) (o := .cells #[.int .i64 t390, .int .i64 t391, .int .i64 t392, .int .i64 t393] 23 (0, 0)) (by (with_reducible repeat (first | refine blk_drewN ?_ _ | refine blk_drew ?_ | refine blk_alloc ?_ _)); exact BK396.out) hb)
                      have n4_ := Aside0.mk (below_step (by repeat (first | (with_reducible first | exact HB.out | apply below_alloc | apply pw_below_drewN | apply below_drew1 | refine below_set ?_ GE387.out | refine below_set ?_ GE395.out | refine below_set ?_ GE396.out) | exact HB.out)) hb)
                      have n5_ := Aside0.mk (hbox)
                      have n6_ := Aside0.mk ((by rw [hg]; exact (below_size (by repeat (first | (with_reducible first | exact HB.out | apply below_alloc | apply pw_below_drewN | apply below_drew1 | refine below_set ?_ GE387.out | refine below_set ?_ GE395.out | refine below_set ?_ GE396.out) | exact HB.out))) : w.heap.size ≤ gb422))
                      have n7_ := Aside0.mk ((by rw [hg]; exact (below_size (by repeat (first | (with_reducible first | exact HB.out | apply below_alloc | apply pw_below_drewN | apply below_drew1 | refine below_set ?_ GE387.out | refine below_set ?_ GE395.out | refine below_set ?_ GE396.out) | exact HB.out))) : w.heap.size ≤ gb422))
                      have n8_ := Aside0.mk ((by rw [hg]; exact Nat.ne_of_lt (blk_lt (g := gb387) (o := .cells #[.int .i64 t384, .int .i64 t385, .int .i64 t386] 25 (0, 0)) (by (with_reducible repeat (first | refine blk_drewN ?_ _ | refine blk_drew ?_ | refine blk_alloc ?_ _)); exact BK387.out)) : gb387 ≠ gb422))
                      have n9_ := Aside0.mk ((by rw [hg]; exact Nat.ne_of_gt (blk_lt (g := gb387) (o := .cells #[.int .i64 t384, .int .i64 t385, .int .i64 t386] 25 (0, 0)) (by (with_reducible repeat (first | refine blk_drewN ?_ _ | refine blk_drew ?_ | refine blk_alloc ?_ _)); exact BK387.out)) : gb422 ≠ gb387))
                      have n10_ := Aside0.mk ((by rw [hg]; exact Nat.ne_of_lt (blk_lt (g := gb395) (o := .cells #[.int .i64 x396000_2, .int .i64 x396001_2, .int .i64 x396002_2, .int .i64 x396003_2] 23 (0, 0)) (by (with_reducible repeat (first | refine blk_drewN ?_ _ | refine blk_drew ?_ | refine blk_alloc ?_ _)); exact BK395.out)) : gb395 ≠ gb422))
                      have n11_ := Aside0.mk ((by rw [hg]; exact Nat.ne_of_gt (blk_lt (g := gb395) (o := .cells #[.int .i64 x396000_2, .int .i64 x396001_2, .int .i64 x396002_2, .int .i64 x396003_2] 23 (0, 0)) (by (with_reducible repeat (first | refine blk_drewN ?_ _ | refine blk_drew ?_ | refine blk_alloc ?_ _)); exact BK395.out)) : gb422 ≠ gb395))
                      have n12_ := Aside0.mk ((by rw [hg]; exact Nat.ne_of_lt (blk_lt (g := gb396) (o := .cells #[.int .i64 t390, .int .i64 t391, .int .i64 t392, .int .i64 t393] 23 (0, 0)) (by (with_reducible repeat (first | refine blk_drewN ?_ _ | refine blk_drew ?_ | refine blk_alloc ?_ _)); exact BK396.out)) : gb396 ≠ gb422))
                      have n13_ := Aside0.mk ((by rw [hg]; exact Nat.ne_of_gt (blk_lt (g := gb396) (o := .cells #[.int .i64 t390, .int .i64 t391, .int .i64 t392, .int .i64 t393] 23 (0, 0)) (by (with_reducible repeat (first | refine blk_drewN ?_ _ | refine blk_drew ?_ | refine blk_alloc ?_ _)); exact BK396.out)) : gb422 ≠ gb396))
                      clear HO413
                      clear BK387
                      clear BK395
                      clear BK396
                      clear HB
                      have HO413 := n0_
                      have BK387 := n1_
                      have BK395 := n2_
                      have BK396 := n3_
                      have HB := n4_
                      have BK422 := n5_
                      have GW422 := n6_
                      have GE422 := n7_
                      have NB387_422 := n8_
                      have NB422_387 := n9_
                      have NB395_422 := n10_
                      have NB422_395 := n11_
                      have NB396_422 := n12_
                      have NB422_396 := n13_
                      clear n0_ n1_ n2_ n3_ n4_ n5_ n6_ n7_ n8_ n9_ n10_ n11_ n12_ n13_
                      clear hb hbox hg
                      obtain ⟨Ao78, co78, eo78⟩ := Kd.R_slice HO413.out
                      (first | subst eo78 | (injection eo78 with f1_ f2_ f3_; have f4_ := f1_.symm; have f5_ := f3_.symm; clear f1_ f2_ f3_; subst f4_; subst f5_))
                      refine hK.out _ _ ⟨(blk_cell BK396.out 0).trans rfl, (blk_cell BK396.out 1).trans rfl, (blk_cell BK396.out 2).trans rfl, (blk_cell BK396.out 3).trans rfl, (blk_cell BK387.out 0).trans rfl, (blk_cell BK387.out 1).trans rfl, (blk_cell BK387.out 2).trans rfl⟩ (fun hHeld => ?_)
                      clear hK K
                      refine norm_ (a' := ?_) ?_ ?_
                      rotate_left
                      ·show Act.put _ (some 13) _ = _
                       simp only [Act.put, List.setIfInBounds_toArray, List.set_cons_zero, List.set_cons_succ, i64_w, i32_w]
                       rfl
                      refine one_ (i := 9) (N := some 74) #[true, true, true, true, true, true, true, true, true, true, false, false, false, false, true, false, false, false] rfl rfl (one_of HT_.out (by kernel_rfl)) (by decide) (fun K hK => ?_)
                      refine goes_ Try.func24 (by kernel_rfl) rfl #[.agg #[.int .i64 t390, .int .i64 t391, .int .i64 t392, .int .i64 t393], .agg #[.int .i64 t384, .int .i64 t385, .int .i64 t386], .slice Ao78 y411.length co78] (by rfl) rfl rfl (by (try simp only [List.map_toArray, List.map_cons, List.map_nil]); first | done | rfl | (simp only [List.length_drop, List.length_take]; rfl)) ?_
                      with_reducible refine (door_Run.calls t390 t391 t392 t393 t384 t385 t386 _ _ y411 t414 t415 t416 t417 t418 t421 _ ?side1 ?side2 A62.out).mono ?_
                      (case side1 => repeat (first | exact (Kd.R_reads' HO413.out).2.2 | (with_reducible refine Kd.C_alloc ?_ _) | (with_reducible refine Kd.C_drewN ?_ _) | (with_reducible refine Kd.C_drew ?_)))
                      (case side2 => exact (Kd.R_reads' HO413.out).2.1)
                      rintro e w79 ⟨v419, rfl, ho0, hb⟩
                      refine ⟨_, rfl, ?_⟩
                      have n0_ := Aside0.mk (Kd.R_below (by (with_reducible repeat (first | apply Kd.R_alloc | apply Kd.R_drewN | apply Kd.R_drew)); exact HO413.out) hb)
                      have n1_ := Aside0.mk (Kd.R_lower ho0 (below_size (by repeat (first | (with_reducible first | exact HB.out | apply below_alloc | apply pw_below_drewN | apply below_drew1 | refine below_set ?_ GE387.out | refine below_set ?_ GE395.out | refine below_set ?_ GE396.out | refine below_set ?_ GE422.out) | exact HB.out))))
                      have n2_ := Aside0.mk (blk_below (g := gb387) (o := .cells #[.int .i64 t384, .int .i64 t385, .int .i64 t386] 25 (0, 0)) (by (with_reducible repeat (first | refine blk_drewN ?_ _ | refine blk_drew ?_ | refine blk_alloc ?_ _)); exact BK387.out) hb)
                      have n3_ := Aside0.mk (blk_below (g := gb395) (o := .cells #[.int .i64 x396000_2, .int .i64 x396001_2, .int .i64 x396002_2, .int .i64 x396003_2] 23 (0, 0)) (by (with_reducible repeat (first | refine blk_drewN ?_ _ | refine blk_drew ?_ | refine blk_alloc ?_ _)); exact BK395.out) hb)
                      have n4_ := Aside0.mk (blk_below (g := gb396) (o := .cells #[.int .i64 t390, .int .i64 t391, .int .i64 t392, .int .i64 t393] 23 (0, 0)) (by (with_reducible repeat (first | refine blk_drewN ?_ _ | refine blk_drew ?_ | refine blk_alloc ?_ _)); exact BK396.out) hb)
                      have n5_ := Aside0.mk (blk_below (g := gb422) (o := .cells #[.int .i64 0, .int .i64 0, .int .i64 0, .int .i64 0] 23 (0, 0)) (by (with_reducible repeat (first | refine blk_drewN ?_ _ | refine blk_drew ?_ | refine blk_alloc ?_ _)); exact BK422.out) hb)
                      have n6_ := Aside0.mk (below_step (by repeat (first | (with_reducible first | exact HB.out | apply below_alloc | apply pw_below_drewN | apply below_drew1 | refine below_set ?_ GE387.out | refine below_set ?_ GE395.out | refine below_set ?_ GE396.out | refine below_set ?_ GE422.out) | exact HB.out)) hb)
                      clear HO413
                      clear BK387
                      clear BK395
                      clear BK396
                      clear BK422
                      clear HB
                      have HO413 := n0_
                      have HO420 := n1_
                      have BK387 := n2_
                      have BK395 := n3_
                      have BK396 := n4_
                      have BK422 := n5_
                      have HB := n6_
                      clear n0_ n1_ n2_ n3_ n4_ n5_ n6_
                      (try clear hb)
                      (try clear hb2)
                      (try clear hk)
                      (try clear hi)
                      (try clear ho0)
                      refine hK.out _ _ ⟨(blk_cell BK396.out 0).trans rfl, (blk_cell BK396.out 1).trans rfl, (blk_cell BK396.out 2).trans rfl, (blk_cell BK396.out 3).trans rfl, (blk_cell BK387.out 0).trans rfl, (blk_cell BK387.out 1).trans rfl, (blk_cell BK387.out 2).trans rfl⟩ (fun hHeld => ?_)
                      clear hK K
                      refine norm_ (a' := ?_) ?_ ?_
                      rotate_left
                      ·show Act.put _ (some 74) _ = _
                       simp only [Act.put, List.setIfInBounds_toArray, List.set_cons_zero, List.set_cons_succ, i64_w, i32_w]
                       rfl
                      refine pure_ (i := 10) (N := some 64) (v := ?_) (a' := ?_) #[true, true, true, true, true, true, true, true, true, true, true, false, false, false, true, false, false, false] rfl rfl (any_of HT_.out (by kernel_rfl)) (fun _ _ _ h => h) (Or.inl ⟨by rfl, ?_⟩) ?_ ?_
                      rotate_left
                      ·intro w'
                       go_simp
                       with_reducible rfl
                      rotate_left
                      ·simp only [Act.put, List.setIfInBounds_toArray, List.set_cons_zero, List.set_cons_succ, i64_w, i32_w]
                       rfl
                      refine pure_ (i := 11) (N := some 75) (v := ?_) (a' := ?_) #[true, true, true, true, true, true, true, true, true, true, true, true, false, false, true, false, false, false] rfl rfl (any_of HT_.out (by kernel_rfl)) (fun _ _ _ h => h) (Or.inl ⟨by rfl, ?_⟩) ?_ ?_
                      rotate_left
                      ·intro w'
                       go_simp
                       with_reducible rfl
                      rotate_left
                      ·simp only [Act.put, List.setIfInBounds_toArray, List.set_cons_zero, List.set_cons_succ, i64_w, i32_w]
                       rfl
                      refine pure_ (i := 12) (N := some 76) (v := ?_) (a' := ?_) #[true, true, true, true, true, true, true, true, true, true, true, true, true, false, true, false, false, false] rfl rfl (any_of HT_.out (by kernel_rfl)) (fun _ _ _ h => h) (Or.inl ⟨by rfl, ?_⟩) ?_ ?_
                      rotate_left
                      ·intro w'
                       go_simp
                       with_reducible rfl
                      rotate_left
                      ·simp only [Act.put, List.setIfInBounds_toArray, List.set_cons_zero, List.set_cons_succ, i64_w, i32_w]
                       rfl
                      refine pure_ (i := 13) (N := some 77) (v := ?_) (a' := ?_) #[true, true, true, true, true, true, true, true, true, true, true, true, true, true, true, false, false, false] rfl rfl (any_of HT_.out (by kernel_rfl)) (fun _ _ _ h => h) (Or.inl ⟨by rfl, ?_⟩) ?_ ?_
                      rotate_left
                      ·intro w'
                       go_simp
                       with_reducible rfl
                      rotate_left
                      ·simp only [Act.put, List.setIfInBounds_toArray, List.set_cons_zero, List.set_cons_succ, i64_w, i32_w]
                       rfl
                      exact norm_ (by simp only [putAll, Act.put, List.setIfInBounds_toArray, List.set_cons_zero, List.set_cons_succ]) (hCont (.slice Ao78 y411.length co78, v419, gb422) _ ⟨hHeld, (by (with_reducible repeat (first | apply Kd.R_alloc | apply Kd.R_drewN | apply Kd.R_drew)); exact HO413.out), (by (with_reducible repeat (first | apply Kd.R_alloc | apply Kd.R_drewN | apply Kd.R_drew)); exact HO420.out), (by (with_reducible repeat (first | refine blk_drewN ?_ _ | refine blk_drew ?_ | refine blk_alloc ?_ _)); exact BK387.out), (by (with_reducible repeat (first | refine blk_drewN ?_ _ | refine blk_drew ?_ | refine blk_alloc ?_ _)); exact BK395.out), (by (with_reducible repeat (first | refine blk_drewN ?_ _ | refine blk_drew ?_ | refine blk_alloc ?_ _)); exact BK396.out), (by (with_reducible repeat (first | refine blk_drewN ?_ _ | refine blk_drew ?_ | refine blk_alloc ?_ _)); exact BK422.out), GW422.out, GE422.out, NB387_422.out, NB422_387.out, NB395_422.out, NB422_395.out, NB396_422.out, NB422_396.out, (by repeat (first | (with_reducible first | exact HB.out | apply below_alloc | apply pw_below_drewN | apply below_drew1 | refine below_set ?_ GE387.out | refine below_set ?_ GE395.out | refine below_set ?_ GE396.out | refine below_set ?_ GE422.out) | exact HB.out))⟩)
                    ·skip
                     refine box_step ?hg (N := 13) ?hd (cs := #[.int .i64 0, .int .i64 0, .int .i64 0, .int .i64 0]) (t := 23) ?hr ?_; (case hd => rfl); (case hg => rfl); (case hr => first | (go_simp; done) | (go_simp; rfl))
                     intro gb422 hg w75 hbox hb
                     have n0_ := Aside0.mk (blk_below (g := gb387) (o := .cells #[.int .i64 t384, .int .i64 t385, .int .i64 t386] 25 (0, 0)) (by (with_reducible repeat (first | refine blk_drewN ?_ _ | refine blk_drew ?_ | refine blk_alloc ?_ _)); exact BK387.out) hb)
                     have n1_ := Aside0.mk (blk_below (g := gb395) (o := .cells #[.int .i64 x396000_2, .int .i64 x396001_2, .int .i64 x396002_2, .int .i64 x396003_2] 23 (0, 0)) (by (with_reducible repeat (first | refine blk_drewN ?_ _ | refine blk_drew ?_ | refine blk_alloc ?_ _)); exact BK395.out) hb)
                     have n2_ := Aside0.mk (blk_below (g := gb396) (o := .cells #[.int .i64 t390, .int .i64 t391, .int .i64 t392, .int .i64 t393] 23 (0, 0)) (by (with_reducible repeat (first | refine blk_drewN ?_ _ | refine blk_drew ?_ | refine blk_alloc ?_ _)); exact BK396.out) hb)
                     have n3_ := Aside0.mk (below_step (by repeat (first | (with_reducible first | exact HB.out | apply below_alloc | apply pw_below_drewN | apply below_drew1 | refine below_set ?_ GE387.out | refine below_set ?_ GE395.out | refine below_set ?_ GE396.out) | exact HB.out)) hb)
                     have n4_ := Aside0.mk (hbox)
                     have n5_ := Aside0.mk ((by rw [hg]; exact (below_size (by repeat (first | (with_reducible first | exact HB.out | apply below_alloc | apply pw_below_drewN | apply below_drew1 | refine below_set ?_ GE387.out | refine below_set ?_ GE395.out | refine below_set ?_ GE396.out) | exact HB.out))) : w.heap.size ≤ gb422))
                     have n6_ := Aside0.mk ((by rw [hg]; exact (below_size (by repeat (first | (with_reducible first | exact HB.out | apply below_alloc | apply pw_below_drewN | apply below_drew1 | refine below_set ?_ GE387.out | refine below_set ?_ GE395.out | refine below_set ?_ GE396.out) | exact HB.out))) : w.heap.size ≤ gb422))
                     have n7_ := Aside0.mk ((by rw [hg]; exact Nat.ne_of_lt (blk_lt (g := gb387) (o := .cells #[.int .i64 t384, .int .i64 t385, .int .i64 t386] 25 (0, 0)) (by (with_reducible repeat (first | refine blk_drewN ?_ _ | refine blk_drew ?_ | refine blk_alloc ?_ _)); exact BK387.out)) : gb387 ≠ gb422))
                     have n8_ := Aside0.mk ((by rw [hg]; exact Nat.ne_of_gt (blk_lt (g := gb387) (o := .cells #[.int .i64 t384, .int .i64 t385, .int .i64 t386] 25 (0, 0)) (by (with_reducible repeat (first | refine blk_drewN ?_ _ | refine blk_drew ?_ | refine blk_alloc ?_ _)); exact BK387.out)) : gb422 ≠ gb387))
                     have n9_ := Aside0.mk ((by rw [hg]; exact Nat.ne_of_lt (blk_lt (g := gb395) (o := .cells #[.int .i64 x396000_2, .int .i64 x396001_2, .int .i64 x396002_2, .int .i64 x396003_2] 23 (0, 0)) (by (with_reducible repeat (first | refine blk_drewN ?_ _ | refine blk_drew ?_ | refine blk_alloc ?_ _)); exact BK395.out)) : gb395 ≠ gb422))
                     have n10_ := Aside0.mk ((by rw [hg]; exact Nat.ne_of_gt (blk_lt (g := gb395) (o := .cells #[.int .i64 x396000_2, .int .i64 x396001_2, .int .i64 x396002_2, .int .i64 x396003_2] 23 (0, 0)) (by (with_reducible repeat (first | refine blk_drewN ?_ _ | refine blk_drew ?_ | refine blk_alloc ?_ _)); exact BK395.out)) : gb422 ≠ gb395))
                     have n11_ := Aside0.mk ((by rw [hg]; exact Nat.ne_of_lt (blk_lt (g := gb396) (o := .cells #[.int .i64 t390, .int .i64 t391, .int .i64 t392, .int .i64 t393] 23 (0, 0)) (by (with_reducible repeat (first | refine blk_drewN ?_ _ | refine blk_drew ?_ | refine blk_alloc ?_ _)); exact BK396.out)) : gb396 ≠ gb422))
                     have n12_ := Aside0.mk ((by rw [hg]; exact Nat.ne_of_gt (blk_lt (g := gb396) (o := .cells #[.int .i64 t390, .int .i64 t391, .int .i64 t392, .int .i64 t393] 23 (0, 0)) (by (with_reducible repeat (first | refine blk_drewN ?_ _ | refine blk_drew ?_ | refine blk_alloc ?_ _)); exact BK396.out)) : gb422 ≠ gb396))
                     clear BK387
                     clear BK395
                     clear BK396
                     clear HB
                     have BK387 := n0_
                     have BK395 := n1_
                     have BK396 := n2_
                     have HB := n3_
                     have BK422 := n4_
                     have GW422 := n5_
                     have GE422 := n6_
                     have NB387_422 := n7_
                     have NB422_387 := n8_
                     have NB395_422 := n9_
                     have NB422_395 := n10_
                     have NB396_422 := n11_
                     have NB422_396 := n12_
                     clear n0_ n1_ n2_ n3_ n4_ n5_ n6_ n7_ n8_ n9_ n10_ n11_ n12_
                     clear hb hbox hg
                     refine hK.out _ _ ⟨(blk_cell BK396.out 0).trans rfl, (blk_cell BK396.out 1).trans rfl, (blk_cell BK396.out 2).trans rfl, (blk_cell BK396.out 3).trans rfl, (blk_cell BK387.out 0).trans rfl, (blk_cell BK387.out 1).trans rfl, (blk_cell BK387.out 2).trans rfl⟩ (fun hHeld => ?_)
                     clear hK K
                     refine norm_ (a' := ?_) ?_ ?_
                     rotate_left
                     ·show Act.put _ (some 13) _ = _
                      simp only [Act.put, List.setIfInBounds_toArray, List.set_cons_zero, List.set_cons_succ, i64_w, i32_w]
                      rfl
                     refine one_ (i := 8) (N := some 73) #[true, true, true, true, true, true, true, true, true, false, false, false, false, false, true, false, false, false] rfl rfl (one_of HT_.out (by kernel_rfl)) (by decide) (fun K hK => ?_)
                     refine Kd.R_make_step Kd.bool _ 4 (by rfl) (N := 73) rfl 40 _ _ rfl ji59 rfl rfl Try.underlying40 (.bool false) 1 info4 rfl (by decide) (by omega) false (ok := fun _ => True) (okp := fun _ => True) rfl (fun _ hk => hk) trivial (of_decide_eq_true (by first | (with_reducible assumption) | assumption)) (Nat.le_trans (Nat.mul_le_mul_right _ (of_decide_eq_true (by first | (with_reducible assumption) | assumption) : ji59.toNat ≤ 281474976710656)) (by omega)) (Below.refl _ _) (Nat.le_refl _) ?_
                     intro v412 w76 ho77 hb hg_ hnew_
                     clear hg_ hnew_
                     (first | rw [← Ny411.out] at ho77 | (simp only [Int.reduceToNat] at ho77; rw [← Ny411.out] at ho77))
                     have n0_ := Aside0.mk (Kd.R_lower ho77 (below_size (by repeat (first | (with_reducible first | exact HB.out | apply below_alloc | apply pw_below_drewN | apply below_drew1 | refine below_set ?_ GE387.out | refine below_set ?_ GE395.out | refine below_set ?_ GE396.out | refine below_set ?_ GE422.out) | exact HB.out))))
                     have n1_ := Aside0.mk (blk_below (g := gb387) (o := .cells #[.int .i64 t384, .int .i64 t385, .int .i64 t386] 25 (0, 0)) (by (with_reducible repeat (first | refine blk_drewN ?_ _ | refine blk_drew ?_ | refine blk_alloc ?_ _)); exact BK387.out) hb)
                     have n2_ := Aside0.mk (blk_below (g := gb395) (o := .cells #[.int .i64 x396000_2, .int .i64 x396001_2, .int .i64 x396002_2, .int .i64 x396003_2] 23 (0, 0)) (by (with_reducible repeat (first | refine blk_drewN ?_ _ | refine blk_drew ?_ | refine blk_alloc ?_ _)); exact BK395.out) hb)
                     have n3_ := Aside0.mk (blk_below (g := gb396) (o := .cells #[.int .i64 t390, .int .i64 t391, .int .i64 t392, .int .i64 t393] 23 (0, 0)) (by (with_reducible repeat (first | refine blk_drewN ?_ _ | refine blk_drew ?_ | refine blk_alloc ?_ _)); exact BK396.out) hb)
                     have n4_ := Aside0.mk (blk_below (g := gb422) (o := .cells #[.int .i64 0, .int .i64 0, .int .i64 0, .int .i64 0] 23 (0, 0)) (by (with_reducible repeat (first | refine blk_drewN ?_ _ | refine blk_drew ?_ | refine blk_alloc ?_ _)); exact BK422.out) hb)
                     have n5_ := Aside0.mk (below_step (by repeat (first | (with_reducible first | exact HB.out | apply below_alloc | apply pw_below_drewN | apply below_drew1 | refine below_set ?_ GE387.out | refine below_set ?_ GE395.out | refine below_set ?_ GE396.out | refine below_set ?_ GE422.out) | exact HB.out)) hb)
                     clear BK387
                     clear BK395
                     clear BK396
                     clear BK422
                     clear HB
                     have HO413 := n0_
                     have BK387 := n1_
                     have BK395 := n2_
                     have BK396 := n3_
                     have BK422 := n4_
                     have HB := n5_
                     clear n0_ n1_ n2_ n3_ n4_ n5_
                     clear hb ho77
                     obtain ⟨Ao78, co78, eo78⟩ := Kd.R_slice HO413.out
                     (first | subst eo78 | (injection eo78 with f1_ f2_ f3_; have f4_ := f1_.symm; have f5_ := f3_.symm; clear f1_ f2_ f3_; subst f4_; subst f5_))
                     refine hK.out _ _ ⟨(blk_cell BK396.out 0).trans rfl, (blk_cell BK396.out 1).trans rfl, (blk_cell BK396.out 2).trans rfl, (blk_cell BK396.out 3).trans rfl, (blk_cell BK387.out 0).trans rfl, (blk_cell BK387.out 1).trans rfl, (blk_cell BK387.out 2).trans rfl⟩ (fun hHeld => ?_)
                     clear hK K
                     refine norm_ (a' := ?_) ?_ ?_
                     rotate_left
                     ·show Act.put _ (some 73) _ = _
                      simp only [Act.put, List.setIfInBounds_toArray, List.set_cons_zero, List.set_cons_succ, i64_w, i32_w]
                      rfl
                     refine one_ (i := 9) (N := some 74) #[true, true, true, true, true, true, true, true, true, true, false, false, false, false, true, false, false, false] rfl rfl (one_of HT_.out (by kernel_rfl)) (by decide) (fun K hK => ?_)
                     refine goes_ Try.func24 (by kernel_rfl) rfl #[.agg #[.int .i64 t390, .int .i64 t391, .int .i64 t392, .int .i64 t393], .agg #[.int .i64 t384, .int .i64 t385, .int .i64 t386], .slice Ao78 y411.length co78] (by rfl) rfl rfl (by (try simp only [List.map_toArray, List.map_cons, List.map_nil]); first | done | rfl | (simp only [List.length_drop, List.length_take]; rfl)) ?_
                     with_reducible refine (door_Run.calls t390 t391 t392 t393 t384 t385 t386 _ _ y411 t414 t415 t416 t417 t418 t421 _ ?side1 ?side2 A62.out).mono ?_
                     (case side1 => repeat (first | exact (Kd.R_reads' HO413.out).2.2 | (with_reducible refine Kd.C_alloc ?_ _) | (with_reducible refine Kd.C_drewN ?_ _) | (with_reducible refine Kd.C_drew ?_)))
                     (case side2 => exact (Kd.R_reads' HO413.out).2.1)
                     rintro e w79 ⟨v419, rfl, ho0, hb⟩
                     refine ⟨_, rfl, ?_⟩
                     have n0_ := Aside0.mk (Kd.R_below (by (with_reducible repeat (first | apply Kd.R_alloc | apply Kd.R_drewN | apply Kd.R_drew)); exact HO413.out) hb)
                     have n1_ := Aside0.mk (Kd.R_lower ho0 (below_size (by repeat (first | (with_reducible first | exact HB.out | apply below_alloc | apply pw_below_drewN | apply below_drew1 | refine below_set ?_ GE387.out | refine below_set ?_ GE395.out | refine below_set ?_ GE396.out | refine below_set ?_ GE422.out) | exact HB.out))))
                     have n2_ := Aside0.mk (blk_below (g := gb387) (o := .cells #[.int .i64 t384, .int .i64 t385, .int .i64 t386] 25 (0, 0)) (by (with_reducible repeat (first | refine blk_drewN ?_ _ | refine blk_drew ?_ | refine blk_alloc ?_ _)); exact BK387.out) hb)
                     have n3_ := Aside0.mk (blk_below (g := gb395) (o := .cells #[.int .i64 x396000_2, .int .i64 x396001_2, .int .i64 x396002_2, .int .i64 x396003_2] 23 (0, 0)) (by (with_reducible repeat (first | refine blk_drewN ?_ _ | refine blk_drew ?_ | refine blk_alloc ?_ _)); exact BK395.out) hb)
                     have n4_ := Aside0.mk (blk_below (g := gb396) (o := .cells #[.int .i64 t390, .int .i64 t391, .int .i64 t392, .int .i64 t393] 23 (0, 0)) (by (with_reducible repeat (first | refine blk_drewN ?_ _ | refine blk_drew ?_ | refine blk_alloc ?_ _)); exact BK396.out) hb)
                     have n5_ := Aside0.mk (blk_below (g := gb422) (o := .cells #[.int .i64 0, .int .i64 0, .int .i64 0, .int .i64 0] 23 (0, 0)) (by (with_reducible repeat (first | refine blk_drewN ?_ _ | refine blk_drew ?_ | refine blk_alloc ?_ _)); exact BK422.out) hb)
                     have n6_ := Aside0.mk (below_step (by repeat (first | (with_reducible first | exact HB.out | apply below_alloc | apply pw_below_drewN | apply below_drew1 | refine below_set ?_ GE387.out | refine below_set ?_ GE395.out | refine below_set ?_ GE396.out | refine below_set ?_ GE422.out) | exact HB.out)) hb)
                     clear HO413
                     clear BK387
                     clear BK395
                     clear BK396
                     clear BK422
                     clear HB
                     have HO413 := n0_
                     have HO420 := n1_
                     have BK387 := n2_
                     have BK395 := n3_
                     have BK396 := n4_
                     have BK422 := n5_
                     have HB := n6_
                     clear n0_ n1_ n2_ n3_ n4_ n5_ n6_
                     (try clear hb)
                     (try clear hb2)
                     (try clear hk)
                     (try clear hi)
                     (try clear ho0)
                     refine hK.out _ _ ⟨(blk_cell BK396.out 0).trans rfl, (blk_cell BK396.out 1).trans rfl, (blk_cell BK396.out 2).trans rfl, (blk_cell BK396.out 3).trans rfl, (blk_cell BK387.out 0).trans rfl, (blk_cell BK387.out 1).trans rfl, (blk_cell BK387.out 2).trans rfl⟩ (fun hHeld => ?_)
                     clear hK K
                     refine norm_ (a' := ?_) ?_ ?_
                     rotate_left
                     ·show Act.put _ (some 74) _ = _
                      simp only [Act.put, List.setIfInBounds_toArray, List.set_cons_zero, List.set_cons_succ, i64_w, i32_w]
                      rfl
                     refine pure_ (i := 10) (N := some 64) (v := ?_) (a' := ?_) #[true, true, true, true, true, true, true, true, true, true, true, false, false, false, true, false, false, false] rfl rfl (any_of HT_.out (by kernel_rfl)) (fun _ _ _ h => h) (Or.inl ⟨by rfl, ?_⟩) ?_ ?_
                     rotate_left
                     ·intro w'
                      go_simp
                      with_reducible rfl
                     rotate_left
                     ·simp only [Act.put, List.setIfInBounds_toArray, List.set_cons_zero, List.set_cons_succ, i64_w, i32_w]
                      rfl
                     refine pure_ (i := 11) (N := some 75) (v := ?_) (a' := ?_) #[true, true, true, true, true, true, true, true, true, true, true, true, false, false, true, false, false, false] rfl rfl (any_of HT_.out (by kernel_rfl)) (fun _ _ _ h => h) (Or.inl ⟨by rfl, ?_⟩) ?_ ?_
                     rotate_left
                     ·intro w'
                      go_simp
                      with_reducible rfl
                     rotate_left
                     ·simp only [Act.put, List.setIfInBounds_toArray, List.set_cons_zero, List.set_cons_succ, i64_w, i32_w]
                      rfl
                     refine pure_ (i := 12) (N := some 76) (v := ?_) (a' := ?_) #[true, true, true, true, true, true, true, true, true, true, true, true, true, false, true, false, false, false] rfl rfl (any_of HT_.out (by kernel_rfl)) (fun _ _ _ h => h) (Or.inl ⟨by rfl, ?_⟩) ?_ ?_
                     rotate_left
                     ·intro w'
                      go_simp
                      with_reducible rfl
                     rotate_left
                     ·simp only [Act.put, List.setIfInBounds_toArray, List.set_cons_zero, List.set_cons_succ, i64_w, i32_w]
                      rfl
                     refine pure_ (i := 13) (N := some 77) (v := ?_) (a' := ?_) #[true, true, true, true, true, true, true, true, true, true, true, true, true, true, true, false, false, false] rfl rfl (any_of HT_.out (by kernel_rfl)) (fun _ _ _ h => h) (Or.inl ⟨by rfl, ?_⟩) ?_ ?_
                     rotate_left
                     ·intro w'
                      go_simp
                      with_reducible rfl
                     rotate_left
                     ·simp only [Act.put, List.setIfInBounds_toArray, List.set_cons_zero, List.set_cons_succ, i64_w, i32_w]
                      rfl
                     exact norm_ (by simp only [putAll, Act.put, List.setIfInBounds_toArray, List.set_cons_zero, List.set_cons_succ]) (hCont (.slice Ao78 y411.length co78, v419, gb422) _ ⟨hHeld, (by (with_reducible repeat (first | apply Kd.R_alloc | apply Kd.R_drewN | apply Kd.R_drew)); exact HO413.out), (by (with_reducible repeat (first | apply Kd.R_alloc | apply Kd.R_drewN | apply Kd.R_drew)); exact HO420.out), (by (with_reducible repeat (first | refine blk_drewN ?_ _ | refine blk_drew ?_ | refine blk_alloc ?_ _)); exact BK387.out), (by (with_reducible repeat (first | refine blk_drewN ?_ _ | refine blk_drew ?_ | refine blk_alloc ?_ _)); exact BK395.out), (by (with_reducible repeat (first | refine blk_drewN ?_ _ | refine blk_drew ?_ | refine blk_alloc ?_ _)); exact BK396.out), (by (with_reducible repeat (first | refine blk_drewN ?_ _ | refine blk_drew ?_ | refine blk_alloc ?_ _)); exact BK422.out), GW422.out, GE422.out, NB387_422.out, NB422_387.out, NB395_422.out, NB422_395.out, NB396_422.out, NB422_396.out, (by repeat (first | (with_reducible first | exact HB.out | apply below_alloc | apply pw_below_drewN | apply below_drew1 | refine below_set ?_ GE387.out | refine below_set ?_ GE395.out | refine below_set ?_ GE396.out | refine below_set ?_ GE422.out) | exact HB.out))⟩)
                   rintro ⟨v412, v419, gb422⟩ w80 ⟨hS_, h0_, h1_, h2_, h3_, h4_, h5_, h6_, h7_, h8_, h9_, h10_, h11_, h12_, h13_, h14_⟩
                   have n0_ : Aside0 (Kd.R Kd.bool 4 w80 w.heap.size (fun _ => True) v412 y411) := ⟨h0_⟩
                   have n1_ : Aside0 (Kd.R (Kd.int .i64) 3 w80 w.heap.size (fun _ => True) v419 t418) := ⟨h1_⟩
                   have n2_ : Aside0 (w80.heap[gb387]? = some (.cells #[.int .i64 t384, .int .i64 t385, .int .i64 t386] 25 (0, 0))) := ⟨h2_⟩
                   have n3_ : Aside0 (w80.heap[gb395]? = some (.cells #[.int .i64 x396000_2, .int .i64 x396001_2, .int .i64 x396002_2, .int .i64 x396003_2] 23 (0, 0))) := ⟨h3_⟩
                   have n4_ : Aside0 (w80.heap[gb396]? = some (.cells #[.int .i64 t390, .int .i64 t391, .int .i64 t392, .int .i64 t393] 23 (0, 0))) := ⟨h4_⟩
                   have n5_ : Aside0 (w80.heap[gb422]? = some (.cells #[.int .i64 0, .int .i64 0, .int .i64 0, .int .i64 0] 23 (0, 0))) := ⟨h5_⟩
                   have n6_ : Aside0 (w.heap.size ≤ gb422) := ⟨h6_⟩
                   have n7_ : Aside0 (w.heap.size ≤ gb422) := ⟨h7_⟩
                   have n8_ : Aside0 (gb387 ≠ gb422) := ⟨h8_⟩
                   have n9_ : Aside0 (gb422 ≠ gb387) := ⟨h9_⟩
                   have n10_ : Aside0 (gb395 ≠ gb422) := ⟨h10_⟩
                   have n11_ : Aside0 (gb422 ≠ gb395) := ⟨h11_⟩
                   have n12_ : Aside0 (gb396 ≠ gb422) := ⟨h12_⟩
                   have n13_ : Aside0 (gb422 ≠ gb396) := ⟨h13_⟩
                   have n14_ : Aside0 (Below w.heap.size w w80) := ⟨h14_⟩
                   clear BK387
                   clear BK395
                   clear BK396
                   clear HB
                   clear h0_ h1_ h2_ h3_ h4_ h5_ h6_ h7_ h8_ h9_ h10_ h11_ h12_ h13_ h14_
                   have HO413 := n0_
                   have HO420 := n1_
                   have BK387 := n2_
                   have BK395 := n3_
                   have BK396 := n4_
                   have BK422 := n5_
                   have GW422 := n6_
                   have GE422 := n7_
                   have NB387_422 := n8_
                   have NB422_387 := n9_
                   have NB395_422 := n10_
                   have NB422_395 := n11_
                   have NB396_422 := n12_
                   have NB422_396 := n13_
                   have HB := n14_
                   clear n0_ n1_ n2_ n3_ n4_ n5_ n6_ n7_ n8_ n9_ n10_ n11_ n12_ n13_ n14_
                   have hHeld : w80.cell? ⟨gb396, 0, none⟩ = some (.int .i64 t390) ∧ w80.cell? ⟨gb396, 1, none⟩ = some (.int .i64 t391) ∧ w80.cell? ⟨gb396, 2, none⟩ = some (.int .i64 t392) ∧ w80.cell? ⟨gb396, 3, none⟩ = some (.int .i64 t393) ∧ w80.cell? ⟨gb387, 0, none⟩ = some (.int .i64 t384) ∧ w80.cell? ⟨gb387, 1, none⟩ = some (.int .i64 t385) ∧ w80.cell? ⟨gb387, 2, none⟩ = some (.int .i64 t386) := hS_
                   refine norm_ (a' := ?_) ?_ ?_
                   rotate_left
                   ·simp only [putAll, Act.put, List.setIfInBounds_toArray, List.set_cons_zero, List.set_cons_succ]
                    rfl
                   refine one_ (i := 15) (N := none) #[true, true, true, true, true, true, true, true, true, true, true, true, true, true, true, true, false, false] rfl rfl (one_of HT_.out (by kernel_rfl)) (by decide) (fun K hK => ?_)
                   have hs81 : w80.cell? ⟨gb422, 0, none⟩ = some (.int .i64 0) := (blk_cell BK422.out 0).trans rfl
                   have hfs81 := blk_frozen BK422.out 0
                   have hns81_0 := NB387_422.out
                   have hns81_1 := NB395_422.out
                   have hns81_2 := NB396_422.out
                   have hms81_0 := NB422_387.out
                   have hms81_1 := NB422_395.out
                   have hms81_2 := NB422_396.out
                   have hs82 : w80.cell? ⟨gb422, 1, none⟩ = some (.int .i64 0) := (blk_cell BK422.out 1).trans rfl
                   have hfs82 := blk_frozen BK422.out 1
                   have hns82_0 := NB387_422.out
                   have hns82_1 := NB395_422.out
                   have hns82_2 := NB396_422.out
                   have hms82_0 := NB422_387.out
                   have hms82_1 := NB422_395.out
                   have hms82_2 := NB422_396.out
                   have hs83 : w80.cell? ⟨gb422, 2, none⟩ = some (.int .i64 0) := (blk_cell BK422.out 2).trans rfl
                   have hfs83 := blk_frozen BK422.out 2
                   have hns83_0 := NB387_422.out
                   have hns83_1 := NB395_422.out
                   have hns83_2 := NB396_422.out
                   have hms83_0 := NB422_387.out
                   have hms83_1 := NB422_395.out
                   have hms83_2 := NB422_396.out
                   have hs84 : w80.cell? ⟨gb422, 3, none⟩ = some (.int .i64 0) := (blk_cell BK422.out 3).trans rfl
                   have hfs84 := blk_frozen BK422.out 3
                   have hns84_0 := NB387_422.out
                   have hns84_1 := NB395_422.out
                   have hns84_2 := NB396_422.out
                   have hms84_0 := NB422_387.out
                   have hms84_1 := NB422_395.out
                   have hms84_2 := NB422_396.out
                   refine skip_ (w1 := ?_) (by rfl) rfl ?_ ?_
                   rotate_left
                   ·go_simp
                    rfl
                   refine hK.out _ _ ⟨((cell_far (p := ⟨gb422, _, none⟩) NB396_422.out _).trans (((cell_far (p := ⟨gb422, _, none⟩) NB396_422.out _).trans (((cell_far (p := ⟨gb422, _, none⟩) NB396_422.out _).trans (((cell_far (p := ⟨gb422, _, none⟩) NB396_422.out _).trans (hHeld.1)))))))), ((cell_far (p := ⟨gb422, _, none⟩) NB396_422.out _).trans (((cell_far (p := ⟨gb422, _, none⟩) NB396_422.out _).trans (((cell_far (p := ⟨gb422, _, none⟩) NB396_422.out _).trans (((cell_far (p := ⟨gb422, _, none⟩) NB396_422.out _).trans (hHeld.2.1)))))))), ((cell_far (p := ⟨gb422, _, none⟩) NB396_422.out _).trans (((cell_far (p := ⟨gb422, _, none⟩) NB396_422.out _).trans (((cell_far (p := ⟨gb422, _, none⟩) NB396_422.out _).trans (((cell_far (p := ⟨gb422, _, none⟩) NB396_422.out _).trans (hHeld.2.2.1)))))))), ((cell_far (p := ⟨gb422, _, none⟩) NB396_422.out _).trans (((cell_far (p := ⟨gb422, _, none⟩) NB396_422.out _).trans (((cell_far (p := ⟨gb422, _, none⟩) NB396_422.out _).trans (((cell_far (p := ⟨gb422, _, none⟩) NB396_422.out _).trans (hHeld.2.2.2.1)))))))), ((cell_far (p := ⟨gb422, _, none⟩) NB387_422.out _).trans (((cell_far (p := ⟨gb422, _, none⟩) NB387_422.out _).trans (((cell_far (p := ⟨gb422, _, none⟩) NB387_422.out _).trans (((cell_far (p := ⟨gb422, _, none⟩) NB387_422.out _).trans (hHeld.2.2.2.2.1)))))))), ((cell_far (p := ⟨gb422, _, none⟩) NB387_422.out _).trans (((cell_far (p := ⟨gb422, _, none⟩) NB387_422.out _).trans (((cell_far (p := ⟨gb422, _, none⟩) NB387_422.out _).trans (((cell_far (p := ⟨gb422, _, none⟩) NB387_422.out _).trans (hHeld.2.2.2.2.2.1)))))))), ((cell_far (p := ⟨gb422, _, none⟩) NB387_422.out _).trans (((cell_far (p := ⟨gb422, _, none⟩) NB387_422.out _).trans (((cell_far (p := ⟨gb422, _, none⟩) NB387_422.out _).trans (((cell_far (p := ⟨gb422, _, none⟩) NB387_422.out _).trans (hHeld.2.2.2.2.2.2))))))))⟩ (fun hHeld => ?_)
                   clear hK K
                   refine pure_ (i := 16) (N := some 14) (v := ?_) (a' := ?_) #[true, true, true, true, true, true, true, true, true, true, true, true, true, true, true, true, true, false] rfl rfl (any_of HT_.out (by kernel_rfl)) (fun _ _ _ h => h) (Or.inl ⟨by rfl, ?_⟩) ?_ ?_
                   rotate_left
                   ·intro w'
                    go_simp
                    with_reducible rfl
                   rotate_left
                   ·simp only [Act.put, List.setIfInBounds_toArray, List.set_cons_zero, List.set_cons_succ, i64_w, i32_w]
                    rfl
                   refine pure_ (i := 17) (N := some 5) (v := ?_) (a' := ?_) #[true, true, true, true, true, true, true, true, true, true, true, true, true, true, true, true, true, true] rfl rfl (any_of HT_.out (by kernel_rfl)) (fun _ _ _ h => h) (Or.inl ⟨by rfl, ?_⟩) ?_ ?_
                   rotate_left
                   ·intro w'
                    go_simp
                    with_reducible rfl
                   rotate_left
                   ·simp only [Act.put, List.setIfInBounds_toArray, List.set_cons_zero, List.set_cons_succ, i64_w, i32_w]
                    rfl
                   refine done_ (done_of HT_.out (by kernel_rfl)) ?_
                   have hnb85 := NB396_387.out
                   have hnc85 := NB387_396.out
                   have hnb86 := NB396_395.out
                   have hnc86 := NB395_396.out
                   have hnb87 := NB396_422.out
                   have hnc87 := NB422_396.out
                   have hcz88_0 : w80.cell? ⟨gb396, 0, none⟩ = some (.int .i64 t390) := (blk_cell BK396.out 0).trans rfl
                   have hcz88_1 : w80.cell? ⟨gb396, 1, none⟩ = some (.int .i64 t391) := (blk_cell BK396.out 1).trans rfl
                   have hcz88_2 : w80.cell? ⟨gb396, 2, none⟩ = some (.int .i64 t392) := (blk_cell BK396.out 2).trans rfl
                   have hcz88_3 : w80.cell? ⟨gb396, 3, none⟩ = some (.int .i64 t393) := (blk_cell BK396.out 3).trans rfl
                   have hfz88_0 := blk_frozen BK396.out 0
                   have hfz88_1 := blk_frozen BK396.out 1
                   have hfz88_2 := blk_frozen BK396.out 2
                   have hfz88_3 := blk_frozen BK396.out 3
                   have hnb89 := NB387_395.out
                   have hnc89 := NB395_387.out
                   have hnb90 := NB387_422.out
                   have hnc90 := NB422_387.out
                   have hcz91_0 : w80.cell? ⟨gb387, 0, none⟩ = some (.int .i64 t384) := (blk_cell BK387.out 0).trans rfl
                   have hcz91_1 : w80.cell? ⟨gb387, 1, none⟩ = some (.int .i64 t385) := (blk_cell BK387.out 1).trans rfl
                   have hcz91_2 : w80.cell? ⟨gb387, 2, none⟩ = some (.int .i64 t386) := (blk_cell BK387.out 2).trans rfl
                   have hfz91_0 := blk_frozen BK387.out 0
                   have hfz91_1 := blk_frozen BK387.out 1
                   have hfz91_2 := blk_frozen BK387.out 2
                   try go_wp2_with (first | ((with_reducible refine gate_callee (f := 22) rfl ?_); refine goesL_ (some 81) rfl rfl Try.func22 (by kernel_rfl) rfl #[.agg #[.int .i64 t390, .int .i64 t391, .int .i64 t392, .int .i64 t393], .agg #[.int .i64 t384, .int .i64 t385, .int .i64 t386]] rfl (by (try simp only [List.map_toArray, List.map_cons, List.map_nil]); first | done | rfl | (simp only [List.length_drop, List.length_take]; rfl)) ?_; (with_reducible refine (door_Rest.calls t390 t391 t392 t393 t384 t385 t386 t423 t424 t425 _ A63.out).mono ?_); rintro e w92 ⟨rfl, hb⟩; refine ⟨_, rfl, ?_⟩; have n0_ := Aside0.mk (Kd.R_below (by (with_reducible repeat (first | apply Kd.R_alloc | apply Kd.R_drewN | apply Kd.R_drew)); exact (Kd.R_mono (Kd.R_far (p := ⟨gb422, 3, none⟩) (Kd.R_far (p := ⟨gb422, 2, none⟩) (Kd.R_far (p := ⟨gb422, 1, none⟩) (Kd.R_far (p := ⟨gb422, 0, none⟩) (Kd.R_types HO413.out BK422.out (by decide)) (fun _ hk => hk.2) (.int .i64 t414)) (fun _ hk => hk.2) (.int .i64 t415)) (fun _ hk => hk.2) (.int .i64 t416)) (fun _ hk => hk.2) (.int .i64 t417)) (fun _ h_ => h_.1))) hb); have n1_ := Aside0.mk (Kd.R_below (by (with_reducible repeat (first | apply Kd.R_alloc | apply Kd.R_drewN | apply Kd.R_drew)); exact (Kd.R_mono (Kd.R_far (p := ⟨gb422, 3, none⟩) (Kd.R_far (p := ⟨gb422, 2, none⟩) (Kd.R_far (p := ⟨gb422, 1, none⟩) (Kd.R_far (p := ⟨gb422, 0, none⟩) (Kd.R_types HO420.out BK422.out (by decide)) (fun _ hk => hk.2) (.int .i64 t414)) (fun _ hk => hk.2) (.int .i64 t415)) (fun _ hk => hk.2) (.int .i64 t416)) (fun _ hk => hk.2) (.int .i64 t417)) (fun _ h_ => h_.1))) hb); have n2_ := Aside0.mk (blk_below (g := gb387) (o := .cells #[.int .i64 t384, .int .i64 t385, .int .i64 t386] 25 (0, 0)) (by (with_reducible repeat (first | refine blk_drewN ?_ _ | refine blk_drew ?_ | refine blk_alloc ?_ _)); refine blk_far ?_ NB387_422.out _; (with_reducible repeat (first | refine blk_drewN ?_ _ | refine blk_drew ?_ | refine blk_alloc ?_ _)); refine blk_far ?_ NB387_422.out _; (with_reducible repeat (first | refine blk_drewN ?_ _ | refine blk_drew ?_ | refine blk_alloc ?_ _)); refine blk_far ?_ NB387_422.out _; (with_reducible repeat (first | refine blk_drewN ?_ _ | refine blk_drew ?_ | refine blk_alloc ?_ _)); refine blk_far ?_ NB387_422.out _; (with_reducible repeat (first | refine blk_drewN ?_ _ | refine blk_drew ?_ | refine blk_alloc ?_ _)); exact BK387.out) hb); have n3_ := Aside0.mk (blk_below (g := gb395) (o := .cells #[.int .i64 x396000_2, .int .i64 x396001_2, .int .i64 x396002_2, .int .i64 x396003_2] 23 (0, 0)) (by (with_reducible repeat (first | refine blk_drewN ?_ _ | refine blk_drew ?_ | refine blk_alloc ?_ _)); refine blk_far ?_ NB395_422.out _; (with_reducible repeat (first | refine blk_drewN ?_ _ | refine blk_drew ?_ | refine blk_alloc ?_ _)); refine blk_far ?_ NB395_422.out _; (with_reducible repeat (first | refine blk_drewN ?_ _ | refine blk_drew ?_ | refine blk_alloc ?_ _)); refine blk_far ?_ NB395_422.out _; (with_reducible repeat (first | refine blk_drewN ?_ _ | refine blk_drew ?_ | refine blk_alloc ?_ _)); refine blk_far ?_ NB395_422.out _; (with_reducible repeat (first | refine blk_drewN ?_ _ | refine blk_drew ?_ | refine blk_alloc ?_ _)); exact BK395.out) hb); have n4_ := Aside0.mk (blk_below (g := gb396) (o := .cells #[.int .i64 t390, .int .i64 t391, .int .i64 t392, .int .i64 t393] 23 (0, 0)) (by (with_reducible repeat (first | refine blk_drewN ?_ _ | refine blk_drew ?_ | refine blk_alloc ?_ _)); refine blk_far ?_ NB396_422.out _; (with_reducible repeat (first | refine blk_drewN ?_ _ | refine blk_drew ?_ | refine blk_alloc ?_ _)); refine blk_far ?_ NB396_422.out _; (with_reducible repeat (first | refine blk_drewN ?_ _ | refine blk_drew ?_ | refine blk_alloc ?_ _)); refine blk_far ?_ NB396_422.out _; (with_reducible repeat (first | refine blk_drewN ?_ _ | refine blk_drew ?_ | refine blk_alloc ?_ _)); refine blk_far ?_ NB396_422.out _; (with_reducible repeat (first | refine blk_drewN ?_ _ | refine blk_drew ?_ | refine blk_alloc ?_ _)); exact BK396.out) hb); have n5_ := Aside0.mk (blk_below (g := gb422) (o := .cells #[.int .i64 t414, .int .i64 t415, .int .i64 t416, .int .i64 t417] 23 (0, 0)) (by (with_reducible repeat (first | refine blk_drewN ?_ _ | refine blk_drew ?_ | refine blk_alloc ?_ _)); refine blk_put (cs := #[.int .i64 t414, .int .i64 t415, .int .i64 t416, .int .i64 0]) ?_ 3 _ rfl; (with_reducible repeat (first | refine blk_drewN ?_ _ | refine blk_drew ?_ | refine blk_alloc ?_ _)); refine blk_put (cs := #[.int .i64 t414, .int .i64 t415, .int .i64 0, .int .i64 0]) ?_ 2 _ rfl; (with_reducible repeat (first | refine blk_drewN ?_ _ | refine blk_drew ?_ | refine blk_alloc ?_ _)); refine blk_put (cs := #[.int .i64 t414, .int .i64 0, .int .i64 0, .int .i64 0]) ?_ 1 _ rfl; (with_reducible repeat (first | refine blk_drewN ?_ _ | refine blk_drew ?_ | refine blk_alloc ?_ _)); refine blk_put (cs := #[.int .i64 0, .int .i64 0, .int .i64 0, .int .i64 0]) ?_ 0 _ rfl; (with_reducible repeat (first | refine blk_drewN ?_ _ | refine blk_drew ?_ | refine blk_alloc ?_ _)); exact BK422.out) hb); have n6_ := Aside0.mk (below_step (by repeat (first | (with_reducible first | exact HB.out | apply below_alloc | apply pw_below_drewN | apply below_drew1 | refine below_set ?_ GE387.out | refine below_set ?_ GE395.out | refine below_set ?_ GE396.out | refine below_set ?_ GE422.out) | exact HB.out)) hb); clear HO413; clear HO420; clear BK387; clear BK395; clear BK396; clear BK422; clear HB; have HO413 := n0_; have HO420 := n1_; have BK387 := n2_; have BK395 := n3_; have BK396 := n4_; have BK422 := n5_; have HB := n6_; clear n0_ n1_ n2_ n3_ n4_ n5_ n6_; (try clear hb); (try clear hb2); (try clear hk); (try clear hi); have hnb93 := NB422_395.out; have hnc93 := NB395_422.out; have hcz94_0 : w92.cell? ⟨gb422, 0, none⟩ = some (.int .i64 t414) := (blk_cell BK422.out 0).trans rfl; have hcz94_1 : w92.cell? ⟨gb422, 1, none⟩ = some (.int .i64 t415) := (blk_cell BK422.out 1).trans rfl; have hcz94_2 : w92.cell? ⟨gb422, 2, none⟩ = some (.int .i64 t416) := (blk_cell BK422.out 2).trans rfl; have hcz94_3 : w92.cell? ⟨gb422, 3, none⟩ = some (.int .i64 t417) := (blk_cell BK422.out 3).trans rfl; have hfz94_0 := blk_frozen BK422.out 0; have hfz94_1 := blk_frozen BK422.out 1; have hfz94_2 := blk_frozen BK422.out 2; have hfz94_3 := blk_frozen BK422.out 3; have hcz95_0 : w92.cell? ⟨gb387, 0, none⟩ = some (.int .i64 t384) := (blk_cell BK387.out 0).trans rfl; have hcz95_1 : w92.cell? ⟨gb387, 1, none⟩ = some (.int .i64 t385) := (blk_cell BK387.out 1).trans rfl; have hcz95_2 : w92.cell? ⟨gb387, 2, none⟩ = some (.int .i64 t386) := (blk_cell BK387.out 2).trans rfl; have hfz95_0 := blk_frozen BK387.out 0; have hfz95_1 := blk_frozen BK387.out 1; have hfz95_2 := blk_frozen BK387.out 2) | ((with_reducible refine gate_dst (N := 106) rfl ?_); (try (refine gate_guard (by rfl) ?_; dsimp only)); refine Kd.R_lit (Kd.int .i64) _ 3 ?hg (N := 106) ?hd (xs := ([wrap64 (t384 - 1)] : List Int)) (inner := [.int .i64 (wrap64 (t384 - 1))]) (ok := fun _ => True) (okp := fun _ => True) ?hr ?hp (fun _ hk => hk) trivial (Below.refl _ _) (Nat.le_refl _) (by simp) ?_; (case hd => rfl); (case hg => rfl); (case hr => first | (go_simp; done) | (go_simp; rfl)); (case hp => exact (Reps.one (show Kd.M (Kd.int .i64) _ _ _ (wrap64 (t384 - 1)) [.int .i64 (wrap64 (t384 - 1))] from rfl) (Reps.none _ _))); intro v427 w96 ho97 hb hg_ hnew_; clear hg_ hnew_; (first | rw [← Ny426.out] at ho97 | (simp only [Int.reduceToNat] at ho97; rw [← Ny426.out] at ho97)); have n0_ := Aside0.mk (Kd.R_below (by (with_reducible repeat (first | apply Kd.R_alloc | apply Kd.R_drewN | apply Kd.R_drew)); exact HO413.out) hb); have n1_ := Aside0.mk (Kd.R_elder' (by (with_reducible repeat (first | apply Kd.R_alloc | apply Kd.R_drewN | apply Kd.R_drew)); exact HO420.out) (Kd.R_base ho97) hb); have n2_ := Aside0.mk (Kd.R_lower (Kd.R_new' ho97 (Kd.R_lt (by (with_reducible repeat (first | apply Kd.R_alloc | apply Kd.R_drewN | apply Kd.R_drew)); exact HO420.out))) (below_size (by repeat (first | (with_reducible first | exact HB.out | apply below_alloc | apply pw_below_drewN | apply below_drew1 | refine below_set ?_ GE387.out | refine below_set ?_ GE395.out | refine below_set ?_ GE396.out | refine below_set ?_ GE422.out) | exact HB.out)))); have n3_ := Aside0.mk (blk_below (g := gb387) (o := .cells #[.int .i64 t384, .int .i64 t385, .int .i64 t386] 25 (0, 0)) (by (with_reducible repeat (first | refine blk_drewN ?_ _ | refine blk_drew ?_ | refine blk_alloc ?_ _)); exact BK387.out) hb); have n4_ := Aside0.mk (blk_below (g := gb395) (o := .cells #[.int .i64 x396000_2, .int .i64 x396001_2, .int .i64 x396002_2, .int .i64 x396003_2] 23 (0, 0)) (by (with_reducible repeat (first | refine blk_drewN ?_ _ | refine blk_drew ?_ | refine blk_alloc ?_ _)); exact BK395.out) hb); have n5_ := Aside0.mk (blk_below (g := gb396) (o := .cells #[.int .i64 t390, .int .i64 t391, .int .i64 t392, .int .i64 t393] 23 (0, 0)) (by (with_reducible repeat (first | refine blk_drewN ?_ _ | refine blk_drew ?_ | refine blk_alloc ?_ _)); exact BK396.out) hb); have n6_ := Aside0.mk (blk_below (g := gb422) (o := .cells #[.int .i64 t414, .int .i64 t415, .int .i64 t416, .int .i64 t417] 23 (0, 0)) (by (with_reducible repeat (first | refine blk_drewN ?_ _ | refine blk_drew ?_ | refine blk_alloc ?_ _)); exact BK422.out) hb); have n7_ := Aside0.mk (below_step (by repeat (first | (with_reducible first | exact HB.out | apply below_alloc | apply pw_below_drewN | apply below_drew1 | refine below_set ?_ GE387.out | refine below_set ?_ GE395.out | refine below_set ?_ GE396.out | refine below_set ?_ GE422.out) | exact HB.out)) hb); clear HO413; clear HO420; clear BK387; clear BK395; clear BK396; clear BK422; clear HB; have HO413 := n0_; have HO420 := n1_; have HO428 := n2_; have BK387 := n3_; have BK395 := n4_; have BK396 := n5_; have BK422 := n6_; have HB := n7_; clear n0_ n1_ n2_ n3_ n4_ n5_ n6_ n7_; clear hb ho97; obtain ⟨Ao98, co98, eo98⟩ := Kd.R_slice HO420.out; subst eo98; obtain ⟨Ao99, co99, eo99⟩ := Kd.R_slice HO428.out; subst eo99) | (go_at_call 26; (with_reducible refine (kit_SameInts.calls kj20 _ _ t418 _ _ y426 true _ ?side1 ?side2 ?side3 ?side4 A68.out).mono ?_); (case side1 => repeat (first | exact (Kd.R_reads' HO420.out).2.2 | (with_reducible refine Kd.C_alloc ?_ _) | (with_reducible refine Kd.C_drewN ?_ _) | (with_reducible refine Kd.C_drew ?_))); (case side2 => exact (Kd.R_reads' HO420.out).2.1); (case side3 => repeat (first | exact (Kd.R_reads' HO428.out).2.2 | (with_reducible refine Kd.C_alloc ?_ _) | (with_reducible refine Kd.C_drewN ?_ _) | (with_reducible refine Kd.C_drew ?_))); (case side4 => exact (Kd.R_reads' HO428.out).2.1); rintro e w' ⟨rfl, ⟨nd, rfl⟩⟩; have hcz100_0 : w96.cell? ⟨gb387, 0, none⟩ = some (.int .i64 t384) := (blk_cell BK387.out 0).trans rfl; have hcz100_1 : w96.cell? ⟨gb387, 1, none⟩ = some (.int .i64 t385) := (blk_cell BK387.out 1).trans rfl; have hcz100_2 : w96.cell? ⟨gb387, 2, none⟩ = some (.int .i64 t386) := (blk_cell BK387.out 2).trans rfl; have hfz100_0 := blk_frozen BK387.out 0; have hfz100_1 := blk_frozen BK387.out 1; have hfz100_2 := blk_frozen BK387.out 2) | (go_at_call 19; (with_reducible refine (q_awake.calls kj20  true _ A72.out).mono ?_); rintro e w101 ⟨rfl, hb⟩; have n0_ := Aside0.mk (Kd.R_below (by (with_reducible repeat (first | apply Kd.R_alloc | apply Kd.R_drewN | apply Kd.R_drew)); exact HO413.out) hb); have n1_ := Aside0.mk (Kd.R_below (by (with_reducible repeat (first | apply Kd.R_alloc | apply Kd.R_drewN | apply Kd.R_drew)); exact HO420.out) hb); have n2_ := Aside0.mk (Kd.R_below (by (with_reducible repeat (first | apply Kd.R_alloc | apply Kd.R_drewN | apply Kd.R_drew)); exact HO428.out) hb); have n3_ := Aside0.mk (blk_below (g := gb387) (o := .cells #[.int .i64 t384, .int .i64 t385, .int .i64 t386] 25 (0, 0)) (by (with_reducible repeat (first | refine blk_drewN ?_ _ | refine blk_drew ?_ | refine blk_alloc ?_ _)); exact BK387.out) hb); have n4_ := Aside0.mk (blk_below (g := gb395) (o := .cells #[.int .i64 x396000_2, .int .i64 x396001_2, .int .i64 x396002_2, .int .i64 x396003_2] 23 (0, 0)) (by (with_reducible repeat (first | refine blk_drewN ?_ _ | refine blk_drew ?_ | refine blk_alloc ?_ _)); exact BK395.out) hb); have n5_ := Aside0.mk (blk_below (g := gb396) (o := .cells #[.int .i64 t390, .int .i64 t391, .int .i64 t392, .int .i64 t393] 23 (0, 0)) (by (with_reducible repeat (first | refine blk_drewN ?_ _ | refine blk_drew ?_ | refine blk_alloc ?_ _)); exact BK396.out) hb); have n6_ := Aside0.mk (blk_below (g := gb422) (o := .cells #[.int .i64 t414, .int .i64 t415, .int .i64 t416, .int .i64 t417] 23 (0, 0)) (by (with_reducible repeat (first | refine blk_drewN ?_ _ | refine blk_drew ?_ | refine blk_alloc ?_ _)); exact BK422.out) hb); have n7_ := Aside0.mk (below_step (by repeat (first | (with_reducible first | exact HB.out | apply below_alloc | apply pw_below_drewN | apply below_drew1 | refine below_set ?_ GE387.out | refine below_set ?_ GE395.out | refine below_set ?_ GE396.out | refine below_set ?_ GE422.out) | exact HB.out)) hb); clear HO413; clear HO420; clear HO428; clear BK387; clear BK395; clear BK396; clear BK422; clear HB; have HO413 := n0_; have HO420 := n1_; have HO428 := n2_; have BK387 := n3_; have BK395 := n4_; have BK396 := n5_; have BK422 := n6_; have HB := n7_; clear n0_ n1_ n2_ n3_ n4_ n5_ n6_ n7_; (try clear hb); (try clear hb2); (try clear hk); (try clear hi)))
                   go_ret
                   exact ⟨by first | rfl | (simp [errW_none, errW_some] <;> rfl) | (simp only [← hji59]; first | rfl | (simp [errW_none, errW_some] <;> rfl)) | (simp [*, errW_none, errW_some] <;> rfl), by repeat (first | (with_reducible first | exact HB.out | apply below_alloc | apply pw_below_drewN | apply below_drew1 | refine below_set ?_ GE387.out | refine below_set ?_ GE395.out | refine below_set ?_ GE396.out | refine below_set ?_ GE422.out) | exact HB.out)⟩
                  ·replace c73 := Bool.eq_false_iff.mpr c73
                   subst c73
                   have H1 : (none) = some r := by rw [if_neg (show ¬ (false = true) by decide)] at H; exact H
                   clear H
                   have H := H1
                   clear H1
                   exact absurd H (by simp)
                 ·rw [if_neg c71] at H
                  exact absurd H (by simp)
                ·rw [if_neg c70] at H
                 exact absurd H (by simp)
               ·replace c69 := Bool.eq_false_iff.mpr c69
                subst c69
                have H1 : (none) = some r := by rw [if_neg (show ¬ (false = true) by decide)] at H; exact H
                clear H
                have H := H1
                clear H1
                exact absurd H (by simp)
              ·rw [if_neg c67] at H
               exact absurd H (by simp)
             ·rw [if_neg c66] at H
              exact absurd H (by simp)
            ·rw [if_neg c65] at H
             exact absurd H (by simp)
           ·rw [if_neg c64] at H
            exact absurd H (by simp)
          ·rw [if_neg c61] at H
           exact absurd H (by simp)
         ·rw [if_neg c60] at H
          exact absurd H (by simp)

/-- THE ONE PURE STATEMENT of q_DoorWorst: yours. -/
def q_DoorWorst.Pure : Prop := ∀ (a0 : Int), (Lit.int .i64 a0).wf = true → ∃ k, q_DoorWorst.f k a0 = some true
theorem q_DoorWorst.walk (P : q_DoorWorst.Pure) (a0 : Int) (w : World) (w0 : (Lit.int .i64 a0).wf = true) :
  Calls Try.prog 7 #[.int .i64 a0] w fun e w' => e = .returned (.bool true) ∧ Below w.heap.size w w' := by
 obtain ⟨k, h⟩ := P a0 w0
 refine (q_DoorWorst.calls k a0 true w h).mono ?_
 rintro e w' ⟨rfl, hd⟩
 exact ⟨rfl, hd⟩

end Go.Proofs.Ytofffhnhinolnaa.P
