-- Printed by wip/myprint.py of this repo (over the kit's printer). Not trusted: Lean checks it.
import Derived.Test.YtmjmdnpenpdmhaaP0
import Derived.Test.YtmjmdnpenpdmhaaE39
import Derived.Test.YtmjmdnpenpdmhaaP0cycle
import Derived.Test.YtmjmdnpenpdmhaaP0tipstaffref19
import Derived.Test.YtmjmdnpenpdmhaaP0tipstaffref19a
import Derived.Test.YtmjmdnpenpdmhaaP0tipstaffref19b
import Derived.Test.YtmjmdnpenpdmhaaP2cycle
import Derived.Test.YtmjmdnpenpdmhaaP2cyclea
import Derived.Test.YtmjmdnpenpdmhaaP2tipstafflaw19
namespace Go.Proofs.Ytmjmdnpenpdmhaa.P
open Go.RowKit Go.Proofs.YtmjmdnpenpdmhaaW.PrintWords Go.Proofs.YtmjmdnpenpdmhaaW.PrintLast Go.Proofs.YtmjmdnpenpdmhaaW.PrintMore
attribute [local go_sem] cell_same1 cell_some1
attribute [local go_sem] max2_int min2_int max_two min_two max_three min_three max_four min_four   -- for this text's walks alone
set_option linter.unusedVariables false
set_option linter.unusedSimpArgs false

attribute [local go_sem high] eqA39
/-! ### q_CycleSteps: function 8 -/
mutual
def q_CycleSteps.j0 : Nat → Bool → Bool → Int → Int → Int → Int → Int → Bool → Int → Int → Int → Option (Bool)
 | 0, _, _, _, _, _, _, _, _, _, _, _ => none
 | k + 1, x2, x45, x721000, x721001, x721002, x721003, x721004, x721005, x722000, x722001, x722002 => if x45 = true then (none) else ((cycle_Step.f k x721000 x721001 x721002 x721003 x721004 x721005 x722000 x722001 x722002 x2).bind fun bt740 => ((ref_Step.f k x721000 x721001 x721002 x721003 x721004 x721005 x722000 x722001 x722002 x2).bind fun bt748 => (if ((!(bt740.1 == bt748.1) || (!(bt740.2.1 == bt748.2.1) || (!(bt740.2.2.1 == bt748.2.2.1) || (!(bt740.2.2.2.1 == bt748.2.2.2.1))))) || (!(bt740.2.2.2.2.1 == bt748.2.2.2.2.1) || (!(bt740.2.2.2.2.2.1 == bt748.2.2.2.2.2.1)))) = true then (q_CycleSteps.j1 k true x721000 x721001 x721002 x721003 x721004 x721005 x722000 x722001 x722002) else (if (bt740.2.2.2.2.2.2.1 != bt748.2.2.2.2.2.2.1) = true then (q_CycleSteps.j1 k true x721000 x721001 x721002 x721003 x721004 x721005 x722000 x722001 x722002) else (q_CycleSteps.j1 k (bt740.2.2.2.2.2.2.2 != bt748.2.2.2.2.2.2.2) x721000 x721001 x721002 x721003 x721004 x721005 x722000 x722001 x722002)))))
def q_CycleSteps.j1 : Nat → Bool → Int → Int → Int → Int → Int → Bool → Int → Int → Int → Option (Bool)
 | 0, _, _, _, _, _, _, _, _, _, _ => none
 | k + 1, x74, x721000, x721001, x721002, x721003, x721004, x721005, x722000, x722001, x722002 => if x74 = true then (none) else ((cycle_Force.f k x721000 x721001 x721002 x721003 x721004 x721005 x722000 x722001 x722002).bind fun bt756 => ((ref_Force.f k x721000 x721001 x721002 x721003 x721004 x721005 x722000 x722001 x722002).bind fun bt763 => ((cycle_Left.f k x721000 x721001 x721002 x721003 x721004 x721005 x722000 x722001 x722002).bind fun bt770 => ((ref_Left.f k x721000 x721001 x721002 x721003 x721004 x721005 x722000 x722001 x722002).bind fun bt772 => (if ((bt756.1 == bt763.1 && (bt756.2.1 == bt763.2.1 && (bt756.2.2.1 == bt763.2.2.1 && (bt756.2.2.2.1 == bt763.2.2.2.1)))) && (bt756.2.2.2.2.1 == bt763.2.2.2.2.1 && (bt756.2.2.2.2.2.1 == bt763.2.2.2.2.2.1))) = true then (if bt756.2.2.2.2.2.2 = bt763.2.2.2.2.2.2 then (if bt770.1 = bt772.1 then (if bt770.2 = bt772.2 then ((q_awake.f k).bind fun t774 => (if t774 = true then (some true) else (none))) else (none)) else (none)) else (none)) else (none))))))
end
def q_CycleSteps.f (k : Nat) (a0_0 : Int) (a0_1 : Int) (a0_2 : Int) (a0_3 : Int) (a0_4 : Int) (a0_5 : Bool) (a1_0 : Int) (a1_1 : Int) (a1_2 : Int) (a2 : Bool) : Option (Bool) := (cycle_Begin.f k a1_0 a1_1 a1_2 a2).bind fun bt722 => ((ref_Begin.f k a1_0 a1_1 a1_2 a2).bind fun bt730 => (if ((!(bt722.1 == bt730.1) || (!(bt722.2.1 == bt730.2.1) || (!(bt722.2.2.1 == bt730.2.2.1) || (!(bt722.2.2.2.1 == bt730.2.2.2.1))))) || (!(bt722.2.2.2.2.1 == bt730.2.2.2.2.1) || (!(bt722.2.2.2.2.2.1 == bt730.2.2.2.2.2.1)))) = true then (q_CycleSteps.j0 k a2 true a0_0 a0_1 a0_2 a0_3 a0_4 a0_5 a1_0 a1_1 a1_2) else (if bt722.2.2.2.2.2.2 = bt730.2.2.2.2.2.2 then ((cycle_Check.f k a0_0 a0_1 a0_2 a0_3 a0_4 a0_5 a1_0 a1_1 a1_2).bind fun t738 => ((ref_Check.f k a0_0 a0_1 a0_2 a0_3 a0_4 a0_5 a1_0 a1_1 a1_2).bind fun t739 => (q_CycleSteps.j0 k a2 (t738 != t739) a0_0 a0_1 a0_2 a0_3 a0_4 a0_5 a1_0 a1_1 a1_2))) else (q_CycleSteps.j0 k a2 true a0_0 a0_1 a0_2 a0_3 a0_4 a0_5 a1_0 a1_1 a1_2))))
theorem q_CycleSteps.mono_l : ∀ k, (∀ y0 y1 y2 y3 y4 y5 y6 y7 y8 y9 y10, LeO (q_CycleSteps.j0 k y0 y1 y2 y3 y4 y5 y6 y7 y8 y9 y10) (q_CycleSteps.j0 (k + 1) y0 y1 y2 y3 y4 y5 y6 y7 y8 y9 y10)) ∧ (∀ y0 y1 y2 y3 y4 y5 y6 y7 y8 y9, LeO (q_CycleSteps.j1 k y0 y1 y2 y3 y4 y5 y6 y7 y8 y9) (q_CycleSteps.j1 (k + 1) y0 y1 y2 y3 y4 y5 y6 y7 y8 y9))
 | 0 => ⟨fun _ _ _ _ _ _ _ _ _ _ _ r h => by simp [q_CycleSteps.j0] at h, fun _ _ _ _ _ _ _ _ _ _ r h => by simp [q_CycleSteps.j1] at h⟩
 | k + 1 => by
  obtain ⟨ih0, ih1⟩ := q_CycleSteps.mono_l k
  refine ⟨?_, ?_⟩
  ·intro y0 y1 y2 y3 y4 y5 y6 y7 y8 y9 y10
   unfold q_CycleSteps.j0
   repeat' first
   | (with_reducible exact ih0 _ _ _ _ _ _ _ _ _ _ _)
   | (with_reducible exact ih1 _ _ _ _ _ _ _ _ _ _)
   | (with_reducible exact cycle_Begin.mono _ _ _ _ _)
   | (with_reducible exact cycle_Check.mono _ _ _ _ _ _ _ _ _ _)
   | (with_reducible exact cycle_Force.mono _ _ _ _ _ _ _ _ _ _)
   | (with_reducible exact cycle_Left.mono _ _ _ _ _ _ _ _ _ _)
   | (with_reducible exact cycle_Step.mono _ _ _ _ _ _ _ _ _ _ _)
   | (with_reducible exact q_awake.mono _)
   | (with_reducible exact ref_Begin.mono _ _ _ _ _)
   | (with_reducible exact ref_Check.mono _ _ _ _ _ _ _ _ _ _)
   | (with_reducible exact ref_Force.mono _ _ _ _ _ _ _ _ _ _)
   | (with_reducible exact ref_Left.mono _ _ _ _ _ _ _ _ _ _)
   | (with_reducible exact ref_Step.mono _ _ _ _ _ _ _ _ _ _ _)
   | (with_reducible exact LeO.refl _)
   | (with_reducible exact LeO.none _)
   | (with_reducible refine LeO.ite ?_ ?_)
   | (with_reducible refine LeO.bind ?_ (fun _ => ?_))
   | exact ih0 _ _ _ _ _ _ _ _ _ _ _
   | exact ih1 _ _ _ _ _ _ _ _ _ _
   | exact cycle_Begin.mono _ _ _ _ _
   | exact cycle_Check.mono _ _ _ _ _ _ _ _ _ _
   | exact cycle_Force.mono _ _ _ _ _ _ _ _ _ _
   | exact cycle_Left.mono _ _ _ _ _ _ _ _ _ _
   | exact cycle_Step.mono _ _ _ _ _ _ _ _ _ _ _
   | exact q_awake.mono _
   | exact ref_Begin.mono _ _ _ _ _
   | exact ref_Check.mono _ _ _ _ _ _ _ _ _ _
   | exact ref_Force.mono _ _ _ _ _ _ _ _ _ _
   | exact ref_Left.mono _ _ _ _ _ _ _ _ _ _
   | exact ref_Step.mono _ _ _ _ _ _ _ _ _ _ _
   | exact LeO.none _
   | refine LeO.ite ?_ ?_
   | refine LeO.bind ?_ (fun _ => ?_)
  ·intro y0 y1 y2 y3 y4 y5 y6 y7 y8 y9
   unfold q_CycleSteps.j1
   repeat' first
   | (with_reducible exact ih0 _ _ _ _ _ _ _ _ _ _ _)
   | (with_reducible exact ih1 _ _ _ _ _ _ _ _ _ _)
   | (with_reducible exact cycle_Begin.mono _ _ _ _ _)
   | (with_reducible exact cycle_Check.mono _ _ _ _ _ _ _ _ _ _)
   | (with_reducible exact cycle_Force.mono _ _ _ _ _ _ _ _ _ _)
   | (with_reducible exact cycle_Left.mono _ _ _ _ _ _ _ _ _ _)
   | (with_reducible exact cycle_Step.mono _ _ _ _ _ _ _ _ _ _ _)
   | (with_reducible exact q_awake.mono _)
   | (with_reducible exact ref_Begin.mono _ _ _ _ _)
   | (with_reducible exact ref_Check.mono _ _ _ _ _ _ _ _ _ _)
   | (with_reducible exact ref_Force.mono _ _ _ _ _ _ _ _ _ _)
   | (with_reducible exact ref_Left.mono _ _ _ _ _ _ _ _ _ _)
   | (with_reducible exact ref_Step.mono _ _ _ _ _ _ _ _ _ _ _)
   | (with_reducible exact LeO.refl _)
   | (with_reducible exact LeO.none _)
   | (with_reducible refine LeO.ite ?_ ?_)
   | (with_reducible refine LeO.bind ?_ (fun _ => ?_))
   | exact ih0 _ _ _ _ _ _ _ _ _ _ _
   | exact ih1 _ _ _ _ _ _ _ _ _ _
   | exact cycle_Begin.mono _ _ _ _ _
   | exact cycle_Check.mono _ _ _ _ _ _ _ _ _ _
   | exact cycle_Force.mono _ _ _ _ _ _ _ _ _ _
   | exact cycle_Left.mono _ _ _ _ _ _ _ _ _ _
   | exact cycle_Step.mono _ _ _ _ _ _ _ _ _ _ _
   | exact q_awake.mono _
   | exact ref_Begin.mono _ _ _ _ _
   | exact ref_Check.mono _ _ _ _ _ _ _ _ _ _
   | exact ref_Force.mono _ _ _ _ _ _ _ _ _ _
   | exact ref_Left.mono _ _ _ _ _ _ _ _ _ _
   | exact ref_Step.mono _ _ _ _ _ _ _ _ _ _ _
   | exact LeO.none _
   | refine LeO.ite ?_ ?_
   | refine LeO.bind ?_ (fun _ => ?_)
theorem q_CycleSteps.mono : ∀ a0 a1 a2 a3 a4 a5 a6 a7 a8 a9 k, LeO (q_CycleSteps.f k a0 a1 a2 a3 a4 a5 a6 a7 a8 a9) (q_CycleSteps.f (k + 1) a0 a1 a2 a3 a4 a5 a6 a7 a8 a9) := by
 intro a0 a1 a2 a3 a4 a5 a6 a7 a8 a9 k
 obtain ⟨ih0, ih1⟩ := q_CycleSteps.mono_l k
 unfold q_CycleSteps.f
 repeat' first
   | (with_reducible exact ih0 _ _ _ _ _ _ _ _ _ _ _)
   | (with_reducible exact ih1 _ _ _ _ _ _ _ _ _ _)
   | (with_reducible exact cycle_Begin.mono _ _ _ _ _)
   | (with_reducible exact cycle_Check.mono _ _ _ _ _ _ _ _ _ _)
   | (with_reducible exact cycle_Force.mono _ _ _ _ _ _ _ _ _ _)
   | (with_reducible exact cycle_Left.mono _ _ _ _ _ _ _ _ _ _)
   | (with_reducible exact cycle_Step.mono _ _ _ _ _ _ _ _ _ _ _)
   | (with_reducible exact q_awake.mono _)
   | (with_reducible exact ref_Begin.mono _ _ _ _ _)
   | (with_reducible exact ref_Check.mono _ _ _ _ _ _ _ _ _ _)
   | (with_reducible exact ref_Force.mono _ _ _ _ _ _ _ _ _ _)
   | (with_reducible exact ref_Left.mono _ _ _ _ _ _ _ _ _ _)
   | (with_reducible exact ref_Step.mono _ _ _ _ _ _ _ _ _ _ _)
   | (with_reducible exact LeO.refl _)
   | (with_reducible exact LeO.none _)
   | (with_reducible refine LeO.ite ?_ ?_)
   | (with_reducible refine LeO.bind ?_ (fun _ => ?_))
   | exact ih0 _ _ _ _ _ _ _ _ _ _ _
   | exact ih1 _ _ _ _ _ _ _ _ _ _
   | exact cycle_Begin.mono _ _ _ _ _
   | exact cycle_Check.mono _ _ _ _ _ _ _ _ _ _
   | exact cycle_Force.mono _ _ _ _ _ _ _ _ _ _
   | exact cycle_Left.mono _ _ _ _ _ _ _ _ _ _
   | exact cycle_Step.mono _ _ _ _ _ _ _ _ _ _ _
   | exact q_awake.mono _
   | exact ref_Begin.mono _ _ _ _ _
   | exact ref_Check.mono _ _ _ _ _ _ _ _ _ _
   | exact ref_Force.mono _ _ _ _ _ _ _ _ _ _
   | exact ref_Left.mono _ _ _ _ _ _ _ _ _ _
   | exact ref_Step.mono _ _ _ _ _ _ _ _ _ _ _
   | exact LeO.none _
   | refine LeO.ite ?_ ?_
   | refine LeO.bind ?_ (fun _ => ?_)
def q_CycleSteps.T3 : Bool × List (List Nat × List Nat) := (true, [([], []), ([], []), ([0, 1], [0, 1]), ([2], [2]), ([3], [3]), ([3], [3]), ([4, 5, 3], [3, 4, 5]), ([3, 6], [3, 6]), ([7, 3], [7]), ([8], [8]), ([8], [8]), ([9, 10, 8, 8], [8, 9, 10]), ([8], [8]), ([8], [8]), ([12, 13, 11, 8], [8, 12, 13]), ([11, 14, 8], [8, 11, 14]), ([8, 15], [8, 15])])
def q_CycleSteps.B3 : List Nat := [0, 0, 3, 7, 15, 15, 63, 127, 255, 511, 511, 2047, 511, 511, 16383, 32767, 65535]
theorem q_CycleSteps.tab3 : rtab .any (opsOf Try.f8 3) = q_CycleSteps.T3 := by kernel_rfl
theorem q_CycleSteps.bits3 : waitsOk q_CycleSteps.T3.2 q_CycleSteps.B3 = true := by kernel_rfl
set_option maxHeartbeats 8000000 in
set_option maxRecDepth 100000 in
theorem q_CycleSteps.calls (k : Nat) (a0_0 : Int) (a0_1 : Int) (a0_2 : Int) (a0_3 : Int) (a0_4 : Int) (a0_5 : Bool) (a1_0 : Int) (a1_1 : Int) (a1_2 : Int) (a2 : Bool) (r : Bool) (w : World) (h : q_CycleSteps.f k a0_0 a0_1 a0_2 a0_3 a0_4 a0_5 a1_0 a1_1 a1_2 a2 = some r) :
  Calls Try.prog 8 #[.agg #[.int .i64 a0_0, .int .i64 a0_1, .int .i64 a0_2, .int .i64 a0_3, .int .i64 a0_4, .bool a0_5], .agg #[.int .i64 a1_0, .int .i64 a1_1, .int .i64 a1_2], .bool a2] w fun e w' => e = .returned (.bool r) ∧ Below w.heap.size w w' := by
 have hu39 := Try.underlying39
 have hu23 := Try.underlying23
 have HB := Aside0.mk (Below.refl w.heap.size w)
 have H : ((cycle_Begin.f k a1_0 a1_1 a1_2 a2).bind fun bt722 => ((ref_Begin.f k a1_0 a1_1 a1_2 a2).bind fun bt730 => (if ((!(bt722.1 == bt730.1) || (!(bt722.2.1 == bt730.2.1) || (!(bt722.2.2.1 == bt730.2.2.1) || (!(bt722.2.2.2.1 == bt730.2.2.2.1))))) || (!(bt722.2.2.2.2.1 == bt730.2.2.2.2.1) || (!(bt722.2.2.2.2.2.1 == bt730.2.2.2.2.2.1)))) = true then (q_CycleSteps.j0 k a2 true a0_0 a0_1 a0_2 a0_3 a0_4 a0_5 a1_0 a1_1 a1_2) else (if bt722.2.2.2.2.2.2 = bt730.2.2.2.2.2.2 then ((cycle_Check.f k a0_0 a0_1 a0_2 a0_3 a0_4 a0_5 a1_0 a1_1 a1_2).bind fun t738 => ((ref_Check.f k a0_0 a0_1 a0_2 a0_3 a0_4 a0_5 a1_0 a1_1 a1_2).bind fun t739 => (q_CycleSteps.j0 k a2 (t738 != t739) a0_0 a0_1 a0_2 a0_3 a0_4 a0_5 a1_0 a1_1 a1_2))) else (q_CycleSteps.j0 k a2 true a0_0 a0_1 a0_2 a0_3 a0_4 a0_5 a1_0 a1_1 a1_2))))) = some r := h
 clear h
 replace H := Option.bind_eq_some_iff.mp H
 obtain ⟨⟨t722, t723, t724, t725, t726, t727, t728⟩, A40, H⟩ := H
 replace H : ((ref_Begin.f k a1_0 a1_1 a1_2 a2).bind fun bt730 => (if ((!(t722 == bt730.1) || (!(t723 == bt730.2.1) || (!(t724 == bt730.2.2.1) || (!(t725 == bt730.2.2.2.1))))) || (!(t726 == bt730.2.2.2.2.1) || (!(t727 == bt730.2.2.2.2.2.1)))) = true then (q_CycleSteps.j0 k a2 true a0_0 a0_1 a0_2 a0_3 a0_4 a0_5 a1_0 a1_1 a1_2) else (if t728 = bt730.2.2.2.2.2.2 then ((cycle_Check.f k a0_0 a0_1 a0_2 a0_3 a0_4 a0_5 a1_0 a1_1 a1_2).bind fun t738 => ((ref_Check.f k a0_0 a0_1 a0_2 a0_3 a0_4 a0_5 a1_0 a1_1 a1_2).bind fun t739 => (q_CycleSteps.j0 k a2 (t738 != t739) a0_0 a0_1 a0_2 a0_3 a0_4 a0_5 a1_0 a1_1 a1_2))) else (q_CycleSteps.j0 k a2 true a0_0 a0_1 a0_2 a0_3 a0_4 a0_5 a1_0 a1_1 a1_2)))) = some r := H
 have A4 := Aside0.mk A40
 clear A40
 replace H := Option.bind_eq_some_iff.mp H
 obtain ⟨⟨t730, t731, t732, t733, t734, t735, t736⟩, A50, H⟩ := H
 replace H : (if ((!(t722 == t730) || (!(t723 == t731) || (!(t724 == t732) || (!(t725 == t733))))) || (!(t726 == t734) || (!(t727 == t735)))) = true then (q_CycleSteps.j0 k a2 true a0_0 a0_1 a0_2 a0_3 a0_4 a0_5 a1_0 a1_1 a1_2) else (if t728 = t736 then ((cycle_Check.f k a0_0 a0_1 a0_2 a0_3 a0_4 a0_5 a1_0 a1_1 a1_2).bind fun t738 => ((ref_Check.f k a0_0 a0_1 a0_2 a0_3 a0_4 a0_5 a1_0 a1_1 a1_2).bind fun t739 => (q_CycleSteps.j0 k a2 (t738 != t739) a0_0 a0_1 a0_2 a0_3 a0_4 a0_5 a1_0 a1_1 a1_2))) else (q_CycleSteps.j0 k a2 true a0_0 a0_1 a0_2 a0_3 a0_4 a0_5 a1_0 a1_1 a1_2))) = some r := H
 have A5 := Aside0.mk A50
 clear A50
 have HC6 := Aside0.mk H
 clear H
 go_enter Try.func8, Try.ntmps8
 go_upto_region 3 with (first | ((with_reducible refine gate_dst (N := 3) rfl ?_); refine bxe (cs := #[.int .i64 a0_0, .int .i64 a0_1, .int .i64 a0_2, .int .i64 a0_3, .int .i64 a0_4, .bool a0_5]) (t := 39) ?_; intro gb720 hg w7 hbox hb; have BK720 := Aside0.mk (hbox); have GW720 := Aside0.mk (bge hg HB.out); have GE720 := Aside0.mk (bge hg HB.out); replace HB := Aside0.mk (bst HB.out hb); clear hb hbox hg) | ((with_reducible refine gate_dst (N := 4) rfl ?_); refine bxe (cs := #[.int .i64 a1_0, .int .i64 a1_1, .int .i64 a1_2]) (t := 23) ?_; intro gb721 hg w8 hbox hb; have BK721 := Aside0.mk (hbox); have GW721 := Aside0.mk (bge hg HB.out); have GE721 := Aside0.mk (bge hg HB.out); have NB720_721 := Aside0.mk ((bkl hg BK720.out)); have NB721_720 := Aside0.mk ((bkg hg BK720.out)); replace BK720 := Aside0.mk (bkb BK720.out hb); replace HB := Aside0.mk (bst HB.out hb); clear hb hbox hg; have hnb9 := NB721_720.out; have hnc9 := NB720_721.out; have hcz10_0 := cz3 BK721.out; have hfz10_0 := blk_frozen BK721.out) | ((with_reducible refine gate_callee (f := 20) rfl ?_); refine gsl (some 20) Try.func20 #[.agg #[.int .i64 a1_0, .int .i64 a1_1, .int .i64 a1_2], .bool a2] ?_; (with_reducible refine (cycle_Begin.calls k a1_0 a1_1 a1_2 a2 t722 t723 t724 t725 t726 t727 t728 _ A4.out).mono ?_); rintro e w11 ⟨rfl, hb⟩; refine ⟨_, rfl, ?_⟩; replace BK720 := Aside0.mk (bkb BK720.out hb); replace BK721 := Aside0.mk (bkb BK721.out hb); replace HB := Aside0.mk (bst HB.out hb); (try clear hb); (try clear hb2); (try clear hk); (try clear hi)) | ((with_reducible refine gate_dst (N := 7) rfl ?_); refine bxe (cs := #[.int .i64 0, .int .i64 0, .int .i64 0, .int .i64 0, .int .i64 0, .bool false]) (t := 39) ?_; intro gb729 hg w12 hbox hb; have BK729 := Aside0.mk (hbox); have GW729 := Aside0.mk (bge hg HB.out); have GE729 := Aside0.mk (bge hg HB.out); have NB720_729 := Aside0.mk ((bkl hg BK720.out)); have NB729_720 := Aside0.mk ((bkg hg BK720.out)); have NB721_729 := Aside0.mk ((bkl hg BK721.out)); have NB729_721 := Aside0.mk ((bkg hg BK721.out)); replace BK720 := Aside0.mk (bkb BK720.out hb); replace BK721 := Aside0.mk (bkb BK721.out hb); replace HB := Aside0.mk (bst HB.out hb); clear hb hbox hg; have hnb13 := NB729_720.out; have hnc13 := NB720_729.out; have hnb14 := NB729_721.out; have hnc14 := NB721_729.out; have hcz15_0 := cz6 BK729.out; have hfz15_0 := blk_frozen BK729.out; have hcz16_0 := cz3 BK721.out; have hfz16_0 := blk_frozen BK721.out) | ((with_reducible refine gate_callee (f := 26) rfl ?_); refine gsl (some 26) Try.func26 #[.agg #[.int .i64 a1_0, .int .i64 a1_1, .int .i64 a1_2], .bool a2] ?_; (with_reducible refine (ref_Begin.calls k a1_0 a1_1 a1_2 a2 t730 t731 t732 t733 t734 t735 t736 _ A5.out).mono ?_); rintro e w17 ⟨rfl, hb⟩; refine ⟨_, rfl, ?_⟩; replace BK720 := Aside0.mk (bkb BK720.out hb); replace BK721 := Aside0.mk (bkb BK721.out hb); replace BK729 := Aside0.mk (blk_below (g := gb729) (o := .cells #[.int .i64 t722, .int .i64 t723, .int .i64 t724, .int .i64 t725, .int .i64 t726, .bool t727] 39 (0, 0)) (bkt BK729.out) hb); replace HB := Aside0.mk (bst HB.out hb); (try clear hb); (try clear hb2); (try clear hk); (try clear hi)) | ((with_reducible refine gate_dst (N := 9) rfl ?_); refine bxe (cs := #[.int .i64 0, .int .i64 0, .int .i64 0, .int .i64 0, .int .i64 0, .bool false]) (t := 39) ?_; intro gb737 hg w18 hbox hb; have BK737 := Aside0.mk (hbox); have GW737 := Aside0.mk (bge hg HB.out); have GE737 := Aside0.mk (bge hg HB.out); have NB720_737 := Aside0.mk ((bkl hg BK720.out)); have NB737_720 := Aside0.mk ((bkg hg BK720.out)); have NB721_737 := Aside0.mk ((bkl hg BK721.out)); have NB737_721 := Aside0.mk ((bkg hg BK721.out)); have NB729_737 := Aside0.mk ((bkl hg BK729.out)); have NB737_729 := Aside0.mk ((bkg hg BK729.out)); replace BK720 := Aside0.mk (bkb BK720.out hb); replace BK721 := Aside0.mk (bkb BK721.out hb); replace BK729 := Aside0.mk (bkb BK729.out hb); replace HB := Aside0.mk (bst HB.out hb); clear hb hbox hg; have hnb19 := NB737_720.out; have hnc19 := NB720_737.out; have hnb20 := NB737_721.out; have hnc20 := NB721_737.out; have hnb21 := NB737_729.out; have hnc21 := NB729_737.out; have hcz22_0 := cz6 BK737.out; have hfz22_0 := blk_frozen BK737.out))
 (try simp only [Act.put, List.setIfInBounds_toArray, List.set_cons_zero, List.set_cons_succ])
 go_cut [45] (fun v45 wc => ∃ (kq : Nat) (x45_5 : Bool), v45 = .bool x45_5 ∧ Aside0 (q_CycleSteps.j0 kq a2 x45_5 a0_0 a0_1 a0_2 a0_3 a0_4 a0_5 a1_0 a1_1 a1_2 = some r) ∧ Aside0 (kq ≤ k) ∧ Aside0 (wc.heap[gb720]? = some (.cells #[.int .i64 a0_0, .int .i64 a0_1, .int .i64 a0_2, .int .i64 a0_3, .int .i64 a0_4, .bool a0_5] 39 (0, 0))) ∧ Aside0 (wc.heap[gb721]? = some (.cells #[.int .i64 a1_0, .int .i64 a1_1, .int .i64 a1_2] 23 (0, 0))) ∧ Aside0 (wc.heap[gb729]? = some (.cells #[.int .i64 t722, .int .i64 t723, .int .i64 t724, .int .i64 t725, .int .i64 t726, .bool t727] 39 (0, 0))) ∧ Aside0 (wc.heap[gb737]? = some (.cells #[.int .i64 t730, .int .i64 t731, .int .i64 t732, .int .i64 t733, .int .i64 t734, .bool t735] 39 (0, 0))) ∧ Aside0 (Below w.heap.size w wc))
 case first =>
  have H := HC6.out
  clear HC6
  by_cases c23 : ((!(t722 == t730) || (!(t723 == t731) || (!(t724 == t732) || (!(t725 == t733))))) || (!(t726 == t734) || (!(t727 == t735)))) = true
  ·rw [if_pos c23] at H
   have c23b0 : ((!(t722 == t730) || (!(t723 == t731) || (!(t724 == t732) || (!(t725 == t733))))) || (!(t726 == t734) || (!(t727 == t735)))) = true := c23
   clear c23
   (first | rw [c23b0] | (simp only [i64_w, i32_w]; rw [c23b0]) | skip)
   have H' := Aside0.mk H
   clear H
   try go_wp2
   have n0_ : Aside0 (((((((w18.setCell ⟨gb737, 0, none⟩ (.int .i64 t730)).setCell ⟨gb737, 1, none⟩ (.int .i64 t731)).setCell ⟨gb737, 2, none⟩ (.int .i64 t732)).setCell ⟨gb737, 3, none⟩ (.int .i64 t733)).setCell ⟨gb737, 4, none⟩ (.int .i64 t734)).setCell ⟨gb737, 5, none⟩ (.bool t735)).heap[gb720]? = some (.cells #[.int .i64 a0_0, .int .i64 a0_1, .int .i64 a0_2, .int .i64 a0_3, .int .i64 a0_4, .bool a0_5] 39 (0, 0))) := ⟨bkt BK720.out⟩
   have n1_ : Aside0 (((((((w18.setCell ⟨gb737, 0, none⟩ (.int .i64 t730)).setCell ⟨gb737, 1, none⟩ (.int .i64 t731)).setCell ⟨gb737, 2, none⟩ (.int .i64 t732)).setCell ⟨gb737, 3, none⟩ (.int .i64 t733)).setCell ⟨gb737, 4, none⟩ (.int .i64 t734)).setCell ⟨gb737, 5, none⟩ (.bool t735)).heap[gb721]? = some (.cells #[.int .i64 a1_0, .int .i64 a1_1, .int .i64 a1_2] 23 (0, 0))) := ⟨bkt BK721.out⟩
   have n2_ : Aside0 (((((((w18.setCell ⟨gb737, 0, none⟩ (.int .i64 t730)).setCell ⟨gb737, 1, none⟩ (.int .i64 t731)).setCell ⟨gb737, 2, none⟩ (.int .i64 t732)).setCell ⟨gb737, 3, none⟩ (.int .i64 t733)).setCell ⟨gb737, 4, none⟩ (.int .i64 t734)).setCell ⟨gb737, 5, none⟩ (.bool t735)).heap[gb729]? = some (.cells #[.int .i64 t722, .int .i64 t723, .int .i64 t724, .int .i64 t725, .int .i64 t726, .bool t727] 39 (0, 0))) := ⟨bkt BK729.out⟩
   have n3_ : Aside0 (((((((w18.setCell ⟨gb737, 0, none⟩ (.int .i64 t730)).setCell ⟨gb737, 1, none⟩ (.int .i64 t731)).setCell ⟨gb737, 2, none⟩ (.int .i64 t732)).setCell ⟨gb737, 3, none⟩ (.int .i64 t733)).setCell ⟨gb737, 4, none⟩ (.int .i64 t734)).setCell ⟨gb737, 5, none⟩ (.bool t735)).heap[gb737]? = some (.cells #[.int .i64 t730, .int .i64 t731, .int .i64 t732, .int .i64 t733, .int .i64 t734, .bool t735] 39 (0, 0))) := ⟨bkt BK737.out⟩
   have n4_ : Aside0 (Below w.heap.size w ((((((w18.setCell ⟨gb737, 0, none⟩ (.int .i64 t730)).setCell ⟨gb737, 1, none⟩ (.int .i64 t731)).setCell ⟨gb737, 2, none⟩ (.int .i64 t732)).setCell ⟨gb737, 3, none⟩ (.int .i64 t733)).setCell ⟨gb737, 4, none⟩ (.int .i64 t734)).setCell ⟨gb737, 5, none⟩ (.bool t735))) := ⟨bel HB.out⟩
   (try clear BK720)
   (try clear BK721)
   (try clear BK729)
   (try clear BK737)
   (try clear HB)
   generalize ((((((w18.setCell ⟨gb737, 0, none⟩ (.int .i64 t730)).setCell ⟨gb737, 1, none⟩ (.int .i64 t731)).setCell ⟨gb737, 2, none⟩ (.int .i64 t732)).setCell ⟨gb737, 3, none⟩ (.int .i64 t733)).setCell ⟨gb737, 4, none⟩ (.int .i64 t734)).setCell ⟨gb737, 5, none⟩ (.bool t735)) = w24 at n0_ n1_ n2_ n3_ n4_ ⊢
   have BK720 := n0_
   have BK721 := n1_
   have BK729 := n2_
   have BK737 := n3_
   have HB := n4_
   clear n0_ n1_ n2_ n3_ n4_
   have n0_ := Aside0.mk (blk_drew BK720.out)
   have n1_ := Aside0.mk (blk_drew BK721.out)
   have n2_ := Aside0.mk (blk_drew BK729.out)
   have n3_ := Aside0.mk (blk_drew BK737.out)
   have n4_ := Aside0.mk (below_drew1 HB.out)
   clear BK720
   clear BK721
   clear BK729
   clear BK737
   clear HB
   have BK720 := n0_
   have BK721 := n1_
   have BK729 := n2_
   have BK737 := n3_
   have HB := n4_
   clear n0_ n1_ n2_ n3_ n4_
   refine start_ (n := 17) (S := fun w' => w'.cell? ⟨gb729, 0, none⟩ = some (.int .i64 t722) ∧ w'.cell? ⟨gb729, 1, none⟩ = some (.int .i64 t723) ∧ w'.cell? ⟨gb729, 2, none⟩ = some (.int .i64 t724) ∧ w'.cell? ⟨gb729, 3, none⟩ = some (.int .i64 t725) ∧ w'.cell? ⟨gb729, 4, none⟩ = some (.int .i64 t726) ∧ w'.cell? ⟨gb729, 5, none⟩ = some (.bool t727) ∧ w'.cell? ⟨gb737, 0, none⟩ = some (.int .i64 t730) ∧ w'.cell? ⟨gb737, 1, none⟩ = some (.int .i64 t731) ∧ w'.cell? ⟨gb737, 2, none⟩ = some (.int .i64 t732) ∧ w'.cell? ⟨gb737, 3, none⟩ = some (.int .i64 t733) ∧ w'.cell? ⟨gb737, 4, none⟩ = some (.int .i64 t734) ∧ w'.cell? ⟨gb737, 5, none⟩ = some (.bool t735)) (ds := []) #[false, false, false, false, false, false, false, false, false, false, false, false, false, false, false, false, false] (by kernel_rfl) rfl rfl ⟨(blk_cell BK729.out 0).trans rfl, (blk_cell BK729.out 1).trans rfl, (blk_cell BK729.out 2).trans rfl, (blk_cell BK729.out 3).trans rfl, (blk_cell BK729.out 4).trans rfl, (blk_cell BK729.out 5).trans rfl, (blk_cell BK737.out 0).trans rfl, (blk_cell BK737.out 1).trans rfl, (blk_cell BK737.out 2).trans rfl, (blk_cell BK737.out 3).trans rfl, (blk_cell BK737.out 4).trans rfl, (blk_cell BK737.out 5).trans rfl⟩ (fun hHeld => ?_); refine with_tabW q_CycleSteps.tab3 q_CycleSteps.bits3 (fun HT_ HW_ => ?_)
   generalize w24.drew = w25 at BK720 BK721 BK729 BK737 HB hHeld ⊢
   refine tkp 0 (some 29) (bm 17 1) HT_.out HW_.out hHeld ?_
   refine tkp 1 (some 30) (bm 17 3) HT_.out HW_.out hHeld ?_
   refine pur 2 (some 31) (bm 17 7) HT_.out ?_
   refine pur 3 (some 32) (bm 17 15) HT_.out ?_
   refine purn 4 (some 33) (bm 17 31) HT_.out ?_
   refine purn 5 (some 34) (bm 17 63) HT_.out ?_
   refine purn 6 (some 35) (bm 17 127) HT_.out ?_
   refine pur 7 (some 36) (bm 17 255) HT_.out ?_
   refine pur 8 (some 37) (bm 17 511) HT_.out ?_
   refine purn 9 (some 38) (bm 17 1023) HT_.out ?_
   refine purn 10 (some 39) (bm 17 2047) HT_.out ?_
   refine purn 11 (some 40) (bm 17 4095) HT_.out ?_
   refine purn 12 (some 41) (bm 17 8191) HT_.out ?_
   refine purn 13 (some 42) (bm 17 16383) HT_.out ?_
   refine purn 14 (some 43) (bm 17 32767) HT_.out ?_
   refine purn 15 (some 44) (bm 17 65535) HT_.out ?_
   refine pur 16 (some 45) (bm 17 131071) HT_.out ?_
   refine done_ (done_of HT_.out (by kernel_rfl)) ?_
   try go_wp2
   go_meet
   case rel => exact ⟨_, (true), (by first | rfl | (simp; done) | (simp [*]; done)), H', ⟨by first | omega | exact Nat.le_refl _⟩, ⟨bkt BK720.out⟩, ⟨bkt BK721.out⟩, ⟨bkt BK729.out⟩, ⟨bkt BK737.out⟩, ⟨bel HB.out⟩⟩
  ·rw [if_neg c23] at H
   have c23b0 : ((!(t722 == t730) || (!(t723 == t731) || (!(t724 == t732) || (!(t725 == t733))))) || (!(t726 == t734) || (!(t727 == t735)))) = false := by simpa using c23
   clear c23
   (first | rw [c23b0] | (simp only [i64_w, i32_w]; rw [c23b0]) | skip)
   by_cases c26 : t728 = t736
   ·rw [if_pos c26] at H
    have c26b0 : (t728 == t736) = true := beq_iff_eq.mpr c26
    have c26b1 : (t728 != t736) = false := bne_eq_false_iff_eq.mpr c26
    clear c26
    replace H := Option.bind_eq_some_iff.mp H
    obtain ⟨t738, A270, H⟩ := H
    replace H : ((ref_Check.f k a0_0 a0_1 a0_2 a0_3 a0_4 a0_5 a1_0 a1_1 a1_2).bind fun t739 => (q_CycleSteps.j0 k a2 (t738 != t739) a0_0 a0_1 a0_2 a0_3 a0_4 a0_5 a1_0 a1_1 a1_2)) = some r := H
    have A27 := Aside0.mk A270
    clear A270
    replace H := Option.bind_eq_some_iff.mp H
    obtain ⟨t739, A280, H⟩ := H
    replace H : (q_CycleSteps.j0 k a2 (t738 != t739) a0_0 a0_1 a0_2 a0_3 a0_4 a0_5 a1_0 a1_1 a1_2) = some r := H
    have A28 := Aside0.mk A280
    clear A280
    have H' := Aside0.mk H
    clear H
    try go_wp2
    have n0_ : Aside0 (((((((w18.setCell ⟨gb737, 0, none⟩ (.int .i64 t730)).setCell ⟨gb737, 1, none⟩ (.int .i64 t731)).setCell ⟨gb737, 2, none⟩ (.int .i64 t732)).setCell ⟨gb737, 3, none⟩ (.int .i64 t733)).setCell ⟨gb737, 4, none⟩ (.int .i64 t734)).setCell ⟨gb737, 5, none⟩ (.bool t735)).heap[gb720]? = some (.cells #[.int .i64 a0_0, .int .i64 a0_1, .int .i64 a0_2, .int .i64 a0_3, .int .i64 a0_4, .bool a0_5] 39 (0, 0))) := ⟨bkt BK720.out⟩
    have n1_ : Aside0 (((((((w18.setCell ⟨gb737, 0, none⟩ (.int .i64 t730)).setCell ⟨gb737, 1, none⟩ (.int .i64 t731)).setCell ⟨gb737, 2, none⟩ (.int .i64 t732)).setCell ⟨gb737, 3, none⟩ (.int .i64 t733)).setCell ⟨gb737, 4, none⟩ (.int .i64 t734)).setCell ⟨gb737, 5, none⟩ (.bool t735)).heap[gb721]? = some (.cells #[.int .i64 a1_0, .int .i64 a1_1, .int .i64 a1_2] 23 (0, 0))) := ⟨bkt BK721.out⟩
    have n2_ : Aside0 (((((((w18.setCell ⟨gb737, 0, none⟩ (.int .i64 t730)).setCell ⟨gb737, 1, none⟩ (.int .i64 t731)).setCell ⟨gb737, 2, none⟩ (.int .i64 t732)).setCell ⟨gb737, 3, none⟩ (.int .i64 t733)).setCell ⟨gb737, 4, none⟩ (.int .i64 t734)).setCell ⟨gb737, 5, none⟩ (.bool t735)).heap[gb729]? = some (.cells #[.int .i64 t722, .int .i64 t723, .int .i64 t724, .int .i64 t725, .int .i64 t726, .bool t727] 39 (0, 0))) := ⟨bkt BK729.out⟩
    have n3_ : Aside0 (((((((w18.setCell ⟨gb737, 0, none⟩ (.int .i64 t730)).setCell ⟨gb737, 1, none⟩ (.int .i64 t731)).setCell ⟨gb737, 2, none⟩ (.int .i64 t732)).setCell ⟨gb737, 3, none⟩ (.int .i64 t733)).setCell ⟨gb737, 4, none⟩ (.int .i64 t734)).setCell ⟨gb737, 5, none⟩ (.bool t735)).heap[gb737]? = some (.cells #[.int .i64 t730, .int .i64 t731, .int .i64 t732, .int .i64 t733, .int .i64 t734, .bool t735] 39 (0, 0))) := ⟨bkt BK737.out⟩
    have n4_ : Aside0 (Below w.heap.size w ((((((w18.setCell ⟨gb737, 0, none⟩ (.int .i64 t730)).setCell ⟨gb737, 1, none⟩ (.int .i64 t731)).setCell ⟨gb737, 2, none⟩ (.int .i64 t732)).setCell ⟨gb737, 3, none⟩ (.int .i64 t733)).setCell ⟨gb737, 4, none⟩ (.int .i64 t734)).setCell ⟨gb737, 5, none⟩ (.bool t735))) := ⟨bel HB.out⟩
    (try clear BK720)
    (try clear BK721)
    (try clear BK729)
    (try clear BK737)
    (try clear HB)
    generalize ((((((w18.setCell ⟨gb737, 0, none⟩ (.int .i64 t730)).setCell ⟨gb737, 1, none⟩ (.int .i64 t731)).setCell ⟨gb737, 2, none⟩ (.int .i64 t732)).setCell ⟨gb737, 3, none⟩ (.int .i64 t733)).setCell ⟨gb737, 4, none⟩ (.int .i64 t734)).setCell ⟨gb737, 5, none⟩ (.bool t735)) = w29 at n0_ n1_ n2_ n3_ n4_ ⊢
    have BK720 := n0_
    have BK721 := n1_
    have BK729 := n2_
    have BK737 := n3_
    have HB := n4_
    clear n0_ n1_ n2_ n3_ n4_
    have n0_ := Aside0.mk (blk_drew BK720.out)
    have n1_ := Aside0.mk (blk_drew BK721.out)
    have n2_ := Aside0.mk (blk_drew BK729.out)
    have n3_ := Aside0.mk (blk_drew BK737.out)
    have n4_ := Aside0.mk (below_drew1 HB.out)
    clear BK720
    clear BK721
    clear BK729
    clear BK737
    clear HB
    have BK720 := n0_
    have BK721 := n1_
    have BK729 := n2_
    have BK737 := n3_
    have HB := n4_
    clear n0_ n1_ n2_ n3_ n4_
    refine start_ (n := 17) (S := fun w' => w'.cell? ⟨gb729, 0, none⟩ = some (.int .i64 t722) ∧ w'.cell? ⟨gb729, 1, none⟩ = some (.int .i64 t723) ∧ w'.cell? ⟨gb729, 2, none⟩ = some (.int .i64 t724) ∧ w'.cell? ⟨gb729, 3, none⟩ = some (.int .i64 t725) ∧ w'.cell? ⟨gb729, 4, none⟩ = some (.int .i64 t726) ∧ w'.cell? ⟨gb729, 5, none⟩ = some (.bool t727) ∧ w'.cell? ⟨gb737, 0, none⟩ = some (.int .i64 t730) ∧ w'.cell? ⟨gb737, 1, none⟩ = some (.int .i64 t731) ∧ w'.cell? ⟨gb737, 2, none⟩ = some (.int .i64 t732) ∧ w'.cell? ⟨gb737, 3, none⟩ = some (.int .i64 t733) ∧ w'.cell? ⟨gb737, 4, none⟩ = some (.int .i64 t734) ∧ w'.cell? ⟨gb737, 5, none⟩ = some (.bool t735) ∧ w'.cell? ⟨gb720, 0, none⟩ = some (.int .i64 a0_0) ∧ w'.cell? ⟨gb720, 1, none⟩ = some (.int .i64 a0_1) ∧ w'.cell? ⟨gb720, 2, none⟩ = some (.int .i64 a0_2) ∧ w'.cell? ⟨gb720, 3, none⟩ = some (.int .i64 a0_3) ∧ w'.cell? ⟨gb720, 4, none⟩ = some (.int .i64 a0_4) ∧ w'.cell? ⟨gb720, 5, none⟩ = some (.bool a0_5) ∧ w'.cell? ⟨gb721, 0, none⟩ = some (.int .i64 a1_0) ∧ w'.cell? ⟨gb721, 1, none⟩ = some (.int .i64 a1_1) ∧ w'.cell? ⟨gb721, 2, none⟩ = some (.int .i64 a1_2)) (ds := []) #[false, false, false, false, false, false, false, false, false, false, false, false, false, false, false, false, false] (by kernel_rfl) rfl rfl ⟨(blk_cell BK729.out 0).trans rfl, (blk_cell BK729.out 1).trans rfl, (blk_cell BK729.out 2).trans rfl, (blk_cell BK729.out 3).trans rfl, (blk_cell BK729.out 4).trans rfl, (blk_cell BK729.out 5).trans rfl, (blk_cell BK737.out 0).trans rfl, (blk_cell BK737.out 1).trans rfl, (blk_cell BK737.out 2).trans rfl, (blk_cell BK737.out 3).trans rfl, (blk_cell BK737.out 4).trans rfl, (blk_cell BK737.out 5).trans rfl, (blk_cell BK720.out 0).trans rfl, (blk_cell BK720.out 1).trans rfl, (blk_cell BK720.out 2).trans rfl, (blk_cell BK720.out 3).trans rfl, (blk_cell BK720.out 4).trans rfl, (blk_cell BK720.out 5).trans rfl, (blk_cell BK721.out 0).trans rfl, (blk_cell BK721.out 1).trans rfl, (blk_cell BK721.out 2).trans rfl⟩ (fun hHeld => ?_); refine with_tabW q_CycleSteps.tab3 q_CycleSteps.bits3 (fun HT_ HW_ => ?_)
    generalize w29.drew = w30 at BK720 BK721 BK729 BK737 HB hHeld ⊢
    refine tkp 0 (some 29) (bm 17 1) HT_.out HW_.out hHeld ?_
    refine tkp 1 (some 30) (bm 17 3) HT_.out HW_.out hHeld ?_
    refine pur 2 (some 31) (bm 17 7) HT_.out ?_
    refine pur 3 (some 32) (bm 17 15) HT_.out ?_
    refine pur 4 (some 33) (bm 17 31) HT_.out ?_
    refine pur 5 (some 34) (bm 17 63) HT_.out ?_
    refine pur 6 (some 35) (bm 17 127) HT_.out ?_
    refine pur 7 (some 36) (bm 17 255) HT_.out ?_
    refine pur 8 (some 37) (bm 17 511) HT_.out ?_
    refine tkp 9 (some 38) (bm 17 1023) HT_.out HW_.out hHeld ?_
    refine tkp 10 (some 39) (bm 17 2047) HT_.out HW_.out hHeld ?_
    refine tkp 12 (some 41) (bm 17 6143) HT_.out HW_.out hHeld ?_
    refine tkp 13 (some 42) (bm 17 14335) HT_.out HW_.out hHeld ?_
    refine one_ (i := 11) (N := some 40) (bm 17 16383) rfl rfl (one_of HT_.out (by kernel_rfl)) (by decide) (fun K hK => ?_)
    refine goes_ Try.func19 (by kernel_rfl) rfl #[.agg #[.int .i64 a0_0, .int .i64 a0_1, .int .i64 a0_2, .int .i64 a0_3, .int .i64 a0_4, .bool a0_5], .agg #[.int .i64 a1_0, .int .i64 a1_1, .int .i64 a1_2]] (by rfl) rfl rfl (by (try simp only [List.map_toArray, List.map_cons, List.map_nil]); first | done | rfl | (simp only [List.length_drop, List.length_take]; rfl)) ?_
    with_reducible refine (cycle_Check.calls k a0_0 a0_1 a0_2 a0_3 a0_4 a0_5 a1_0 a1_1 a1_2 t738 _ A27.out).mono ?_
    rintro e w31 ⟨rfl, hb⟩
    refine ⟨_, rfl, ?_⟩
    have n0_ := Aside0.mk (bkb BK720.out hb)
    have n1_ := Aside0.mk (bkb BK721.out hb)
    have n2_ := Aside0.mk (bkb BK729.out hb)
    have n3_ := Aside0.mk (bkb BK737.out hb)
    have n4_ := Aside0.mk (bst HB.out hb)
    clear BK720
    clear BK721
    clear BK729
    clear BK737
    clear HB
    have BK720 := n0_
    have BK721 := n1_
    have BK729 := n2_
    have BK737 := n3_
    have HB := n4_
    clear n0_ n1_ n2_ n3_ n4_
    (try clear hb)
    (try clear hb2)
    (try clear hk)
    (try clear hi)
    refine hK.out _ _ ⟨(blk_cell BK729.out 0).trans rfl, (blk_cell BK729.out 1).trans rfl, (blk_cell BK729.out 2).trans rfl, (blk_cell BK729.out 3).trans rfl, (blk_cell BK729.out 4).trans rfl, (blk_cell BK729.out 5).trans rfl, (blk_cell BK737.out 0).trans rfl, (blk_cell BK737.out 1).trans rfl, (blk_cell BK737.out 2).trans rfl, (blk_cell BK737.out 3).trans rfl, (blk_cell BK737.out 4).trans rfl, (blk_cell BK737.out 5).trans rfl, (blk_cell BK720.out 0).trans rfl, (blk_cell BK720.out 1).trans rfl, (blk_cell BK720.out 2).trans rfl, (blk_cell BK720.out 3).trans rfl, (blk_cell BK720.out 4).trans rfl, (blk_cell BK720.out 5).trans rfl, (blk_cell BK721.out 0).trans rfl, (blk_cell BK721.out 1).trans rfl, (blk_cell BK721.out 2).trans rfl⟩ (fun hHeld => ?_)
    clear hK K
    refine norm_ (a' := ?_) ?_ ?_
    rotate_left
    ·show Act.put _ (some 40) _ = _
     simp only [Act.put, List.setIfInBounds_toArray, List.set_cons_zero, List.set_cons_succ, i64_w, i32_w]
     rfl
    refine one_ (i := 14) (N := some 43) (bm 17 32767) rfl rfl (one_of HT_.out (by kernel_rfl)) (by decide) (fun K hK => ?_)
    refine goes_ Try.func27 (by kernel_rfl) rfl #[.agg #[.int .i64 a0_0, .int .i64 a0_1, .int .i64 a0_2, .int .i64 a0_3, .int .i64 a0_4, .bool a0_5], .agg #[.int .i64 a1_0, .int .i64 a1_1, .int .i64 a1_2]] (by rfl) rfl rfl (by (try simp only [List.map_toArray, List.map_cons, List.map_nil]); first | done | rfl | (simp only [List.length_drop, List.length_take]; rfl)) ?_
    with_reducible refine (ref_Check.calls k a0_0 a0_1 a0_2 a0_3 a0_4 a0_5 a1_0 a1_1 a1_2 t739 _ A28.out).mono ?_
    rintro e w32 ⟨rfl, hb⟩
    refine ⟨_, rfl, ?_⟩
    have n0_ := Aside0.mk (bkb BK720.out hb)
    have n1_ := Aside0.mk (bkb BK721.out hb)
    have n2_ := Aside0.mk (bkb BK729.out hb)
    have n3_ := Aside0.mk (bkb BK737.out hb)
    have n4_ := Aside0.mk (bst HB.out hb)
    clear BK720
    clear BK721
    clear BK729
    clear BK737
    clear HB
    have BK720 := n0_
    have BK721 := n1_
    have BK729 := n2_
    have BK737 := n3_
    have HB := n4_
    clear n0_ n1_ n2_ n3_ n4_
    (try clear hb)
    (try clear hb2)
    (try clear hk)
    (try clear hi)
    refine hK.out _ _ ⟨(blk_cell BK729.out 0).trans rfl, (blk_cell BK729.out 1).trans rfl, (blk_cell BK729.out 2).trans rfl, (blk_cell BK729.out 3).trans rfl, (blk_cell BK729.out 4).trans rfl, (blk_cell BK729.out 5).trans rfl, (blk_cell BK737.out 0).trans rfl, (blk_cell BK737.out 1).trans rfl, (blk_cell BK737.out 2).trans rfl, (blk_cell BK737.out 3).trans rfl, (blk_cell BK737.out 4).trans rfl, (blk_cell BK737.out 5).trans rfl, (blk_cell BK720.out 0).trans rfl, (blk_cell BK720.out 1).trans rfl, (blk_cell BK720.out 2).trans rfl, (blk_cell BK720.out 3).trans rfl, (blk_cell BK720.out 4).trans rfl, (blk_cell BK720.out 5).trans rfl, (blk_cell BK721.out 0).trans rfl, (blk_cell BK721.out 1).trans rfl, (blk_cell BK721.out 2).trans rfl⟩ (fun hHeld => ?_)
    clear hK K
    refine norm_ (a' := ?_) ?_ ?_
    rotate_left
    ·show Act.put _ (some 43) _ = _
     simp only [Act.put, List.setIfInBounds_toArray, List.set_cons_zero, List.set_cons_succ, i64_w, i32_w]
     rfl
    refine pur 15 (some 44) (bm 17 65535) HT_.out ?_
    refine pur 16 (some 45) (bm 17 131071) HT_.out ?_
    refine done_ (done_of HT_.out (by kernel_rfl)) ?_
    try go_wp2
    go_meet
    case rel => exact ⟨_, ((t738 != t739)), (by first | rfl | (simp; done) | (simp [*]; done)), H', ⟨by first | omega | exact Nat.le_refl _⟩, ⟨bkt BK720.out⟩, ⟨bkt BK721.out⟩, ⟨bkt BK729.out⟩, ⟨bkt BK737.out⟩, ⟨bel HB.out⟩⟩
   ·rw [if_neg c26] at H
    have c26b0 : (t728 == t736) = false := beq_eq_false_iff_ne.mpr c26
    have c26b1 : (t728 != t736) = true := bne_iff_ne.mpr c26
    have H' := Aside0.mk H
    clear H
    try go_wp2
    have n0_ : Aside0 (((((((w18.setCell ⟨gb737, 0, none⟩ (.int .i64 t730)).setCell ⟨gb737, 1, none⟩ (.int .i64 t731)).setCell ⟨gb737, 2, none⟩ (.int .i64 t732)).setCell ⟨gb737, 3, none⟩ (.int .i64 t733)).setCell ⟨gb737, 4, none⟩ (.int .i64 t734)).setCell ⟨gb737, 5, none⟩ (.bool t735)).heap[gb720]? = some (.cells #[.int .i64 a0_0, .int .i64 a0_1, .int .i64 a0_2, .int .i64 a0_3, .int .i64 a0_4, .bool a0_5] 39 (0, 0))) := ⟨bkt BK720.out⟩
    have n1_ : Aside0 (((((((w18.setCell ⟨gb737, 0, none⟩ (.int .i64 t730)).setCell ⟨gb737, 1, none⟩ (.int .i64 t731)).setCell ⟨gb737, 2, none⟩ (.int .i64 t732)).setCell ⟨gb737, 3, none⟩ (.int .i64 t733)).setCell ⟨gb737, 4, none⟩ (.int .i64 t734)).setCell ⟨gb737, 5, none⟩ (.bool t735)).heap[gb721]? = some (.cells #[.int .i64 a1_0, .int .i64 a1_1, .int .i64 a1_2] 23 (0, 0))) := ⟨bkt BK721.out⟩
    have n2_ : Aside0 (((((((w18.setCell ⟨gb737, 0, none⟩ (.int .i64 t730)).setCell ⟨gb737, 1, none⟩ (.int .i64 t731)).setCell ⟨gb737, 2, none⟩ (.int .i64 t732)).setCell ⟨gb737, 3, none⟩ (.int .i64 t733)).setCell ⟨gb737, 4, none⟩ (.int .i64 t734)).setCell ⟨gb737, 5, none⟩ (.bool t735)).heap[gb729]? = some (.cells #[.int .i64 t722, .int .i64 t723, .int .i64 t724, .int .i64 t725, .int .i64 t726, .bool t727] 39 (0, 0))) := ⟨bkt BK729.out⟩
    have n3_ : Aside0 (((((((w18.setCell ⟨gb737, 0, none⟩ (.int .i64 t730)).setCell ⟨gb737, 1, none⟩ (.int .i64 t731)).setCell ⟨gb737, 2, none⟩ (.int .i64 t732)).setCell ⟨gb737, 3, none⟩ (.int .i64 t733)).setCell ⟨gb737, 4, none⟩ (.int .i64 t734)).setCell ⟨gb737, 5, none⟩ (.bool t735)).heap[gb737]? = some (.cells #[.int .i64 t730, .int .i64 t731, .int .i64 t732, .int .i64 t733, .int .i64 t734, .bool t735] 39 (0, 0))) := ⟨bkt BK737.out⟩
    have n4_ : Aside0 (Below w.heap.size w ((((((w18.setCell ⟨gb737, 0, none⟩ (.int .i64 t730)).setCell ⟨gb737, 1, none⟩ (.int .i64 t731)).setCell ⟨gb737, 2, none⟩ (.int .i64 t732)).setCell ⟨gb737, 3, none⟩ (.int .i64 t733)).setCell ⟨gb737, 4, none⟩ (.int .i64 t734)).setCell ⟨gb737, 5, none⟩ (.bool t735))) := ⟨bel HB.out⟩
    (try clear BK720)
    (try clear BK721)
    (try clear BK729)
    (try clear BK737)
    (try clear HB)
    generalize ((((((w18.setCell ⟨gb737, 0, none⟩ (.int .i64 t730)).setCell ⟨gb737, 1, none⟩ (.int .i64 t731)).setCell ⟨gb737, 2, none⟩ (.int .i64 t732)).setCell ⟨gb737, 3, none⟩ (.int .i64 t733)).setCell ⟨gb737, 4, none⟩ (.int .i64 t734)).setCell ⟨gb737, 5, none⟩ (.bool t735)) = w33 at n0_ n1_ n2_ n3_ n4_ ⊢
    have BK720 := n0_
    have BK721 := n1_
    have BK729 := n2_
    have BK737 := n3_
    have HB := n4_
    clear n0_ n1_ n2_ n3_ n4_
    have n0_ := Aside0.mk (blk_drew BK720.out)
    have n1_ := Aside0.mk (blk_drew BK721.out)
    have n2_ := Aside0.mk (blk_drew BK729.out)
    have n3_ := Aside0.mk (blk_drew BK737.out)
    have n4_ := Aside0.mk (below_drew1 HB.out)
    clear BK720
    clear BK721
    clear BK729
    clear BK737
    clear HB
    have BK720 := n0_
    have BK721 := n1_
    have BK729 := n2_
    have BK737 := n3_
    have HB := n4_
    clear n0_ n1_ n2_ n3_ n4_
    refine start_ (n := 17) (S := fun w' => w'.cell? ⟨gb729, 0, none⟩ = some (.int .i64 t722) ∧ w'.cell? ⟨gb729, 1, none⟩ = some (.int .i64 t723) ∧ w'.cell? ⟨gb729, 2, none⟩ = some (.int .i64 t724) ∧ w'.cell? ⟨gb729, 3, none⟩ = some (.int .i64 t725) ∧ w'.cell? ⟨gb729, 4, none⟩ = some (.int .i64 t726) ∧ w'.cell? ⟨gb729, 5, none⟩ = some (.bool t727) ∧ w'.cell? ⟨gb737, 0, none⟩ = some (.int .i64 t730) ∧ w'.cell? ⟨gb737, 1, none⟩ = some (.int .i64 t731) ∧ w'.cell? ⟨gb737, 2, none⟩ = some (.int .i64 t732) ∧ w'.cell? ⟨gb737, 3, none⟩ = some (.int .i64 t733) ∧ w'.cell? ⟨gb737, 4, none⟩ = some (.int .i64 t734) ∧ w'.cell? ⟨gb737, 5, none⟩ = some (.bool t735)) (ds := []) #[false, false, false, false, false, false, false, false, false, false, false, false, false, false, false, false, false] (by kernel_rfl) rfl rfl ⟨(blk_cell BK729.out 0).trans rfl, (blk_cell BK729.out 1).trans rfl, (blk_cell BK729.out 2).trans rfl, (blk_cell BK729.out 3).trans rfl, (blk_cell BK729.out 4).trans rfl, (blk_cell BK729.out 5).trans rfl, (blk_cell BK737.out 0).trans rfl, (blk_cell BK737.out 1).trans rfl, (blk_cell BK737.out 2).trans rfl, (blk_cell BK737.out 3).trans rfl, (blk_cell BK737.out 4).trans rfl, (blk_cell BK737.out 5).trans rfl⟩ (fun hHeld => ?_); refine with_tabW q_CycleSteps.tab3 q_CycleSteps.bits3 (fun HT_ HW_ => ?_)
    generalize w33.drew = w34 at BK720 BK721 BK729 BK737 HB hHeld ⊢
    refine tkp 0 (some 29) (bm 17 1) HT_.out HW_.out hHeld ?_
    refine tkp 1 (some 30) (bm 17 3) HT_.out HW_.out hHeld ?_
    refine pur 2 (some 31) (bm 17 7) HT_.out ?_
    refine pur 3 (some 32) (bm 17 15) HT_.out ?_
    refine pur 4 (some 33) (bm 17 31) HT_.out ?_
    refine pur 5 (some 34) (bm 17 63) HT_.out ?_
    refine pur 6 (some 35) (bm 17 127) HT_.out ?_
    refine pur 7 (some 36) (bm 17 255) HT_.out ?_
    refine pur 8 (some 37) (bm 17 511) HT_.out ?_
    refine purn 9 (some 38) (bm 17 1023) HT_.out ?_
    refine purn 10 (some 39) (bm 17 2047) HT_.out ?_
    refine purn 11 (some 40) (bm 17 4095) HT_.out ?_
    refine purn 12 (some 41) (bm 17 8191) HT_.out ?_
    refine purn 13 (some 42) (bm 17 16383) HT_.out ?_
    refine purn 14 (some 43) (bm 17 32767) HT_.out ?_
    refine purn 15 (some 44) (bm 17 65535) HT_.out ?_
    refine pur 16 (some 45) (bm 17 131071) HT_.out ?_
    refine done_ (done_of HT_.out (by kernel_rfl)) ?_
    try go_wp2
    go_meet
    case rel => exact ⟨_, (true), (by first | rfl | (simp; done) | (simp [*]; done)), H', ⟨by first | omega | exact Nat.le_refl _⟩, ⟨bkt BK720.out⟩, ⟨bkt BK721.out⟩, ⟨bkt BK729.out⟩, ⟨bkt BK737.out⟩, ⟨bel HB.out⟩⟩
 case rest =>
  clear HC6
  try clear c1
  try clear c2
  try clear p2
  try clear c8
  try clear c9
  try clear c13
  try clear c14
  try clear c19
  try clear c20
  try clear c21
  try clear c23
  try clear c23b0
  try clear c26
  try clear c26b0
  try clear c26b1
  try clear c27
  try clear hcz10_0
  try clear hcz15_0
  try clear hcz16_0
  try clear hcz22_0
  try clear hfz10_0
  try clear hfz15_0
  try clear hfz16_0
  try clear hfz22_0
  obtain ⟨kq, x45_5, rfl, HA, HJ5, BK720, BK721, BK729, BK737, HB⟩ := hcut
  cases kq with
  | zero => exact absurd HA.out (by simp [q_CycleSteps.j0])
  | succ kj5 =>
   have H := HA.out
   clear HA
   simp only [q_CycleSteps.j0] at H
   by_cases c35 : x45_5 = true
   ·subst c35
    have H1 : (none) = some r := by rw [if_pos rfl] at H; exact H
    clear H
    have H := H1
    clear H1
    exact absurd H (by simp)
   ·replace c35 := Bool.eq_false_iff.mpr c35
    subst c35
    have H1 : ((cycle_Step.f kj5 a0_0 a0_1 a0_2 a0_3 a0_4 a0_5 a1_0 a1_1 a1_2 a2).bind fun bt740 => ((ref_Step.f kj5 a0_0 a0_1 a0_2 a0_3 a0_4 a0_5 a1_0 a1_1 a1_2 a2).bind fun bt748 => (if ((!(bt740.1 == bt748.1) || (!(bt740.2.1 == bt748.2.1) || (!(bt740.2.2.1 == bt748.2.2.1) || (!(bt740.2.2.2.1 == bt748.2.2.2.1))))) || (!(bt740.2.2.2.2.1 == bt748.2.2.2.2.1) || (!(bt740.2.2.2.2.2.1 == bt748.2.2.2.2.2.1)))) = true then (q_CycleSteps.j1 kj5 true a0_0 a0_1 a0_2 a0_3 a0_4 a0_5 a1_0 a1_1 a1_2) else (if (bt740.2.2.2.2.2.2.1 != bt748.2.2.2.2.2.2.1) = true then (q_CycleSteps.j1 kj5 true a0_0 a0_1 a0_2 a0_3 a0_4 a0_5 a1_0 a1_1 a1_2) else (q_CycleSteps.j1 kj5 (bt740.2.2.2.2.2.2.2 != bt748.2.2.2.2.2.2.2) a0_0 a0_1 a0_2 a0_3 a0_4 a0_5 a1_0 a1_1 a1_2))))) = some r := by rw [if_neg (show ¬ (false = true) by decide)] at H; exact H
    clear H
    have H := H1
    clear H1
    replace H := Option.bind_eq_some_iff.mp H
    obtain ⟨⟨t740, t741, t742, t743, t744, t745, t746, t747⟩, A360, H⟩ := H
    replace H : ((ref_Step.f kj5 a0_0 a0_1 a0_2 a0_3 a0_4 a0_5 a1_0 a1_1 a1_2 a2).bind fun bt748 => (if ((!(t740 == bt748.1) || (!(t741 == bt748.2.1) || (!(t742 == bt748.2.2.1) || (!(t743 == bt748.2.2.2.1))))) || (!(t744 == bt748.2.2.2.2.1) || (!(t745 == bt748.2.2.2.2.2.1)))) = true then (q_CycleSteps.j1 kj5 true a0_0 a0_1 a0_2 a0_3 a0_4 a0_5 a1_0 a1_1 a1_2) else (if (t746 != bt748.2.2.2.2.2.2.1) = true then (q_CycleSteps.j1 kj5 true a0_0 a0_1 a0_2 a0_3 a0_4 a0_5 a1_0 a1_1 a1_2) else (q_CycleSteps.j1 kj5 (t747 != bt748.2.2.2.2.2.2.2) a0_0 a0_1 a0_2 a0_3 a0_4 a0_5 a1_0 a1_1 a1_2)))) = some r := H
    have A36 := Aside0.mk A360
    clear A360
    replace H := Option.bind_eq_some_iff.mp H
    obtain ⟨⟨t748, t749, t750, t751, t752, t753, t754, t755⟩, A370, H⟩ := H
    replace H : (if ((!(t740 == t748) || (!(t741 == t749) || (!(t742 == t750) || (!(t743 == t751))))) || (!(t744 == t752) || (!(t745 == t753)))) = true then (q_CycleSteps.j1 kj5 true a0_0 a0_1 a0_2 a0_3 a0_4 a0_5 a1_0 a1_1 a1_2) else (if (t746 != t754) = true then (q_CycleSteps.j1 kj5 true a0_0 a0_1 a0_2 a0_3 a0_4 a0_5 a1_0 a1_1 a1_2) else (q_CycleSteps.j1 kj5 (t747 != t755) a0_0 a0_1 a0_2 a0_3 a0_4 a0_5 a1_0 a1_1 a1_2))) = some r := H
    have A37 := Aside0.mk A370
    clear A370
    have HC38 := Aside0.mk H
    clear H
    have hnb39 := NB720_721.out
    have hnc39 := NB721_720.out
    have hnb40 := NB720_729.out
    have hnc40 := NB729_720.out
    have hnb41 := NB720_737.out
    have hnc41 := NB737_720.out
    have hcz42_0 := cz6 BK720.out
    have hfz42_0 := blk_frozen BK720.out
    have hnb43 := NB721_729.out
    have hnc43 := NB729_721.out
    have hnb44 := NB721_737.out
    have hnc44 := NB737_721.out
    have hcz45_0 := cz3 BK721.out
    have hfz45_0 := blk_frozen BK721.out
    go_upto_region 7 with (first | ((with_reducible refine gate_callee (f := 18) rfl ?_); refine gsl (some 50) Try.func18 #[.agg #[.int .i64 a0_0, .int .i64 a0_1, .int .i64 a0_2, .int .i64 a0_3, .int .i64 a0_4, .bool a0_5], .agg #[.int .i64 a1_0, .int .i64 a1_1, .int .i64 a1_2], .bool a2] ?_; (with_reducible refine (cycle_Step.calls kj5 a0_0 a0_1 a0_2 a0_3 a0_4 a0_5 a1_0 a1_1 a1_2 a2 t740 t741 t742 t743 t744 t745 t746 t747 _ A36.out).mono ?_); rintro e w46 ⟨rfl, hb⟩; refine ⟨_, rfl, ?_⟩; replace BK720 := Aside0.mk (bkb BK720.out hb); replace BK721 := Aside0.mk (bkb BK721.out hb); replace BK729 := Aside0.mk (bkb BK729.out hb); replace BK737 := Aside0.mk (bkb BK737.out hb); replace HB := Aside0.mk (bst HB.out hb); (try clear hb); (try clear hb2); (try clear hk); (try clear hi); have hnb47 := NB729_737.out; have hnc47 := NB737_729.out; have hcz48_0 := cz6 BK729.out; have hfz48_0 := blk_frozen BK729.out; have hcz49_0 := cz6 BK720.out; have hfz49_0 := blk_frozen BK720.out; have hcz50_0 := cz3 BK721.out; have hfz50_0 := blk_frozen BK721.out) | ((with_reducible refine gate_callee (f := 28) rfl ?_); refine gsl (some 58) Try.func28 #[.agg #[.int .i64 a0_0, .int .i64 a0_1, .int .i64 a0_2, .int .i64 a0_3, .int .i64 a0_4, .bool a0_5], .agg #[.int .i64 a1_0, .int .i64 a1_1, .int .i64 a1_2], .bool a2] ?_; (with_reducible refine (ref_Step.calls kj5 a0_0 a0_1 a0_2 a0_3 a0_4 a0_5 a1_0 a1_1 a1_2 a2 t748 t749 t750 t751 t752 t753 t754 t755 _ A37.out).mono ?_); rintro e w51 ⟨rfl, hb⟩; refine ⟨_, rfl, ?_⟩; replace BK720 := Aside0.mk (bkb BK720.out hb); replace BK721 := Aside0.mk (bkb BK721.out hb); replace BK729 := Aside0.mk (blk_below (g := gb729) (o := .cells #[.int .i64 t740, .int .i64 t741, .int .i64 t742, .int .i64 t743, .int .i64 t744, .bool t745] 39 (0, 0)) (bkt BK729.out) hb); replace BK737 := Aside0.mk (bkb BK737.out hb); replace HB := Aside0.mk (bst HB.out hb); (try clear hb); (try clear hb2); (try clear hk); (try clear hi); have hcz52_0 := cz6 BK737.out; have hfz52_0 := blk_frozen BK737.out))
    (try simp only [Act.put, List.setIfInBounds_toArray, List.set_cons_zero, List.set_cons_succ])
    go_cut [74] (fun v74 wc => ∃ (kq : Nat) (x74_37 : Bool), v74 = .bool x74_37 ∧ Aside0 (q_CycleSteps.j1 kq x74_37 a0_0 a0_1 a0_2 a0_3 a0_4 a0_5 a1_0 a1_1 a1_2 = some r) ∧ Aside0 (kq ≤ kj5) ∧ Aside0 (wc.heap[gb720]? = some (.cells #[.int .i64 a0_0, .int .i64 a0_1, .int .i64 a0_2, .int .i64 a0_3, .int .i64 a0_4, .bool a0_5] 39 (0, 0))) ∧ Aside0 (wc.heap[gb721]? = some (.cells #[.int .i64 a1_0, .int .i64 a1_1, .int .i64 a1_2] 23 (0, 0))) ∧ Aside0 (wc.heap[gb729]? = some (.cells #[.int .i64 t740, .int .i64 t741, .int .i64 t742, .int .i64 t743, .int .i64 t744, .bool t745] 39 (0, 0))) ∧ Aside0 (wc.heap[gb737]? = some (.cells #[.int .i64 t748, .int .i64 t749, .int .i64 t750, .int .i64 t751, .int .i64 t752, .bool t753] 39 (0, 0))) ∧ Aside0 (Below w.heap.size w wc))
    case first =>
     have H := HC38.out
     clear HC38
     by_cases c53 : ((!(t740 == t748) || (!(t741 == t749) || (!(t742 == t750) || (!(t743 == t751))))) || (!(t744 == t752) || (!(t745 == t753)))) = true
     ·rw [if_pos c53] at H
      have c53b0 : ((!(t740 == t748) || (!(t741 == t749) || (!(t742 == t750) || (!(t743 == t751))))) || (!(t744 == t752) || (!(t745 == t753)))) = true := c53
      clear c53
      (first | rw [c53b0] | (simp only [i64_w, i32_w]; rw [c53b0]) | skip)
      have H' := Aside0.mk H
      clear H
      have hnb54 := NB729_720.out
      have hnc54 := NB720_729.out
      have hnb55 := NB729_721.out
      have hnc55 := NB721_729.out
      have hnb56 := NB729_737.out
      have hnc56 := NB737_729.out
      have hcz57_0 := cz6 BK729.out
      have hfz57_0 := blk_frozen BK729.out
      have hnb58 := NB737_720.out
      have hnc58 := NB720_737.out
      have hnb59 := NB737_721.out
      have hnc59 := NB721_737.out
      have hcz60_0 := cz6 BK737.out
      have hfz60_0 := blk_frozen BK737.out
      go_wp2
      go_meet
      case rel => exact ⟨_, (true), (by first | rfl | (simp; done) | (simp [*]; done)), H', ⟨by have := HJ5.out; first | omega | exact Nat.le_refl _⟩, ⟨bkt BK720.out⟩, ⟨bkt BK721.out⟩, ⟨bkt BK729.out⟩, ⟨bkt BK737.out⟩, ⟨bel HB.out⟩⟩
     ·rw [if_neg c53] at H
      have c53b0 : ((!(t740 == t748) || (!(t741 == t749) || (!(t742 == t750) || (!(t743 == t751))))) || (!(t744 == t752) || (!(t745 == t753)))) = false := by simpa using c53
      clear c53
      (first | rw [c53b0] | (simp only [i64_w, i32_w]; rw [c53b0]) | skip)
      by_cases c61 : (t746 != t754) = true
      ·rw [if_pos c61] at H
       have c61b0 : (t746 != t754) = true := c61
       (try (have c61b1 : decide (t746 = t754) = false := by simpa using c61))
       (try (have c61b2 : (t746 == t754) = false := by simpa using c61))
       (try (have c61b3 : ¬ (t746 = t754) := by simpa using c61))
       clear c61
       have H' := Aside0.mk H
       clear H
       have hnb62 := NB729_720.out
       have hnc62 := NB720_729.out
       have hnb63 := NB729_721.out
       have hnc63 := NB721_729.out
       have hnb64 := NB729_737.out
       have hnc64 := NB737_729.out
       have hcz65_0 := cz6 BK729.out
       have hfz65_0 := blk_frozen BK729.out
       have hnb66 := NB737_720.out
       have hnc66 := NB720_737.out
       have hnb67 := NB737_721.out
       have hnc67 := NB721_737.out
       have hcz68_0 := cz6 BK737.out
       have hfz68_0 := blk_frozen BK737.out
       go_wp2
       go_meet
       case rel => exact ⟨_, (true), (by first | rfl | (simp; done) | (simp [*]; done)), H', ⟨by have := HJ5.out; first | omega | exact Nat.le_refl _⟩, ⟨bkt BK720.out⟩, ⟨bkt BK721.out⟩, ⟨bkt BK729.out⟩, ⟨bkt BK737.out⟩, ⟨bel HB.out⟩⟩
      ·rw [if_neg c61] at H
       have c61b0 : (t746 != t754) = false := by simpa using c61
       (try (have c61b1 : decide (t746 = t754) = true := by simpa using c61))
       (try (have c61b2 : (t746 == t754) = true := by simpa using c61))
       clear c61
       have H' := Aside0.mk H
       clear H
       have hnb69 := NB729_720.out
       have hnc69 := NB720_729.out
       have hnb70 := NB729_721.out
       have hnc70 := NB721_729.out
       have hnb71 := NB729_737.out
       have hnc71 := NB737_729.out
       have hcz72_0 := cz6 BK729.out
       have hfz72_0 := blk_frozen BK729.out
       have hnb73 := NB737_720.out
       have hnc73 := NB720_737.out
       have hnb74 := NB737_721.out
       have hnc74 := NB721_737.out
       have hcz75_0 := cz6 BK737.out
       have hfz75_0 := blk_frozen BK737.out
       go_wp2
       go_meet
       case rel => exact ⟨_, ((t747 != t755)), (by first | rfl | (simp; done) | (simp [*]; done)), H', ⟨by have := HJ5.out; first | omega | exact Nat.le_refl _⟩, ⟨bkt BK720.out⟩, ⟨bkt BK721.out⟩, ⟨bkt BK729.out⟩, ⟨bkt BK737.out⟩, ⟨bel HB.out⟩⟩
    case rest =>
     clear HC38
     try clear c1
     try clear c2
     try clear p2
     try clear c3
     try clear c4
     try clear c5
     try clear c6
     try clear c7
     try clear c8
     try clear c9
     try clear c13
     try clear c14
     try clear c18
     try clear c19
     try clear c20
     try clear c21
     try clear c23
     try clear c23b0
     try clear c26
     try clear c26b0
     try clear c26b1
     try clear c27
     try clear c28
     try clear c35
     try clear c39
     try clear c40
     try clear c41
     try clear c43
     try clear c44
     try clear c47
     try clear c53
     try clear c53b0
     try clear c54
     try clear c55
     try clear c56
     try clear c58
     try clear c59
     try clear c61
     try clear c61b0
     try clear c61b1
     try clear c61b2
     try clear c62
     try clear c63
     try clear c64
     try clear c66
     try clear c67
     try clear c69
     try clear c70
     try clear c71
     try clear c73
     try clear c74
     try clear hcz10_0
     try clear hcz15_0
     try clear hcz16_0
     try clear hcz22_0
     try clear hcz42_0
     try clear hcz45_0
     try clear hcz48_0
     try clear hcz49_0
     try clear hcz50_0
     try clear hcz52_0
     try clear hcz57_0
     try clear hcz60_0
     try clear hcz65_0
     try clear hcz68_0
     try clear hcz72_0
     try clear hcz75_0
     try clear hfz10_0
     try clear hfz15_0
     try clear hfz16_0
     try clear hfz22_0
     try clear hfz42_0
     try clear hfz45_0
     try clear hfz48_0
     try clear hfz49_0
     try clear hfz50_0
     try clear hfz52_0
     try clear hfz57_0
     try clear hfz60_0
     try clear hfz65_0
     try clear hfz68_0
     try clear hfz72_0
     try clear hfz75_0
     try clear p2
     obtain ⟨kq, x74_37, rfl, HA, HJ37, BK720, BK721, BK729, BK737, HB⟩ := hcut
     cases kq with
     | zero => exact absurd HA.out (by simp [q_CycleSteps.j1])
     | succ kj37 =>
      have H := HA.out
      clear HA
      simp only [q_CycleSteps.j1] at H
      by_cases c76 : x74_37 = true
      ·subst c76
       have H1 : (none) = some r := by rw [if_pos rfl] at H; exact H
       clear H
       have H := H1
       clear H1
       exact absurd H (by simp)
      ·replace c76 := Bool.eq_false_iff.mpr c76
       subst c76
       have H1 : ((cycle_Force.f kj37 a0_0 a0_1 a0_2 a0_3 a0_4 a0_5 a1_0 a1_1 a1_2).bind fun bt756 => ((ref_Force.f kj37 a0_0 a0_1 a0_2 a0_3 a0_4 a0_5 a1_0 a1_1 a1_2).bind fun bt763 => ((cycle_Left.f kj37 a0_0 a0_1 a0_2 a0_3 a0_4 a0_5 a1_0 a1_1 a1_2).bind fun bt770 => ((ref_Left.f kj37 a0_0 a0_1 a0_2 a0_3 a0_4 a0_5 a1_0 a1_1 a1_2).bind fun bt772 => (if ((bt756.1 == bt763.1 && (bt756.2.1 == bt763.2.1 && (bt756.2.2.1 == bt763.2.2.1 && (bt756.2.2.2.1 == bt763.2.2.2.1)))) && (bt756.2.2.2.2.1 == bt763.2.2.2.2.1 && (bt756.2.2.2.2.2.1 == bt763.2.2.2.2.2.1))) = true then (if bt756.2.2.2.2.2.2 = bt763.2.2.2.2.2.2 then (if bt770.1 = bt772.1 then (if bt770.2 = bt772.2 then ((q_awake.f kj37).bind fun t774 => (if t774 = true then (some true) else (none))) else (none)) else (none)) else (none)) else (none)))))) = some r := by rw [if_neg (show ¬ (false = true) by decide)] at H; exact H
       clear H
       have H := H1
       clear H1
       replace H := Option.bind_eq_some_iff.mp H
       obtain ⟨⟨t756, t757, t758, t759, t760, t761, t762⟩, A770, H⟩ := H
       replace H : ((ref_Force.f kj37 a0_0 a0_1 a0_2 a0_3 a0_4 a0_5 a1_0 a1_1 a1_2).bind fun bt763 => ((cycle_Left.f kj37 a0_0 a0_1 a0_2 a0_3 a0_4 a0_5 a1_0 a1_1 a1_2).bind fun bt770 => ((ref_Left.f kj37 a0_0 a0_1 a0_2 a0_3 a0_4 a0_5 a1_0 a1_1 a1_2).bind fun bt772 => (if ((t756 == bt763.1 && (t757 == bt763.2.1 && (t758 == bt763.2.2.1 && (t759 == bt763.2.2.2.1)))) && (t760 == bt763.2.2.2.2.1 && (t761 == bt763.2.2.2.2.2.1))) = true then (if t762 = bt763.2.2.2.2.2.2 then (if bt770.1 = bt772.1 then (if bt770.2 = bt772.2 then ((q_awake.f kj37).bind fun t774 => (if t774 = true then (some true) else (none))) else (none)) else (none)) else (none)) else (none))))) = some r := H
       have A77 := Aside0.mk A770
       clear A770
       replace H := Option.bind_eq_some_iff.mp H
       obtain ⟨⟨t763, t764, t765, t766, t767, t768, t769⟩, A780, H⟩ := H
       replace H : ((cycle_Left.f kj37 a0_0 a0_1 a0_2 a0_3 a0_4 a0_5 a1_0 a1_1 a1_2).bind fun bt770 => ((ref_Left.f kj37 a0_0 a0_1 a0_2 a0_3 a0_4 a0_5 a1_0 a1_1 a1_2).bind fun bt772 => (if ((t756 == t763 && (t757 == t764 && (t758 == t765 && (t759 == t766)))) && (t760 == t767 && (t761 == t768))) = true then (if t762 = t769 then (if bt770.1 = bt772.1 then (if bt770.2 = bt772.2 then ((q_awake.f kj37).bind fun t774 => (if t774 = true then (some true) else (none))) else (none)) else (none)) else (none)) else (none)))) = some r := H
       have A78 := Aside0.mk A780
       clear A780
       replace H := Option.bind_eq_some_iff.mp H
       obtain ⟨⟨t770, t771⟩, A790, H⟩ := H
       replace H : ((ref_Left.f kj37 a0_0 a0_1 a0_2 a0_3 a0_4 a0_5 a1_0 a1_1 a1_2).bind fun bt772 => (if ((t756 == t763 && (t757 == t764 && (t758 == t765 && (t759 == t766)))) && (t760 == t767 && (t761 == t768))) = true then (if t762 = t769 then (if t770 = bt772.1 then (if t771 = bt772.2 then ((q_awake.f kj37).bind fun t774 => (if t774 = true then (some true) else (none))) else (none)) else (none)) else (none)) else (none))) = some r := H
       have A79 := Aside0.mk A790
       clear A790
       replace H := Option.bind_eq_some_iff.mp H
       obtain ⟨⟨t772, t773⟩, A800, H⟩ := H
       replace H : (if ((t756 == t763 && (t757 == t764 && (t758 == t765 && (t759 == t766)))) && (t760 == t767 && (t761 == t768))) = true then (if t762 = t769 then (if t770 = t772 then (if t771 = t773 then ((q_awake.f kj37).bind fun t774 => (if t774 = true then (some true) else (none))) else (none)) else (none)) else (none)) else (none)) = some r := H
       have A80 := Aside0.mk A800
       clear A800
       by_cases c81 : ((t756 == t763 && (t757 == t764 && (t758 == t765 && (t759 == t766)))) && (t760 == t767 && (t761 == t768))) = true
       ·rw [if_pos c81] at H
        have c81b0 : ((t756 == t763 && (t757 == t764 && (t758 == t765 && (t759 == t766)))) && (t760 == t767 && (t761 == t768))) = true := c81
        clear c81
        by_cases c82 : t762 = t769
        ·rw [if_pos c82] at H
         have c82b0 : (t762 == t769) = true := beq_iff_eq.mpr c82
         have c82b1 : (t762 != t769) = false := bne_eq_false_iff_eq.mpr c82
         clear c82
         by_cases c83 : t770 = t772
         ·rw [if_pos c83] at H
          have c83b0 : (t770 == t772) = true := beq_iff_eq.mpr c83
          have c83b1 : (t770 != t772) = false := bne_eq_false_iff_eq.mpr c83
          clear c83
          by_cases c84 : t771 = t773
          ·rw [if_pos c84] at H
           have c84b0 : (t771 == t773) = true := beq_iff_eq.mpr c84
           have c84b1 : (t771 != t773) = false := bne_eq_false_iff_eq.mpr c84
           clear c84
           replace H := Option.bind_eq_some_iff.mp H
           obtain ⟨t774, A850, H⟩ := H
           replace H : (if t774 = true then (some true) else (none)) = some r := H
           have A85 := Aside0.mk A850
           clear A850
           by_cases c86 : t774 = true
           ·subst c86
            have H1 : (some true) = some r := by rw [if_pos rfl] at H; exact H
            clear H
            have H := H1
            clear H1
            obtain rfl := Option.some.inj H
            have hnb87 := NB720_721.out
            have hnc87 := NB721_720.out
            have hnb88 := NB720_729.out
            have hnc88 := NB729_720.out
            have hnb89 := NB720_737.out
            have hnc89 := NB737_720.out
            have hcz90_0 := cz6 BK720.out
            have hfz90_0 := blk_frozen BK720.out
            have hnb91 := NB721_729.out
            have hnc91 := NB729_721.out
            have hnb92 := NB721_737.out
            have hnc92 := NB737_721.out
            have hcz93_0 := cz3 BK721.out
            have hfz93_0 := blk_frozen BK721.out
            go_wp2_with (first | ((with_reducible refine gate_callee (f := 29) rfl ?_); refine gsl (some 78) Try.func29 #[.agg #[.int .i64 a0_0, .int .i64 a0_1, .int .i64 a0_2, .int .i64 a0_3, .int .i64 a0_4, .bool a0_5], .agg #[.int .i64 a1_0, .int .i64 a1_1, .int .i64 a1_2]] ?_; (with_reducible refine (cycle_Force.calls kj37 a0_0 a0_1 a0_2 a0_3 a0_4 a0_5 a1_0 a1_1 a1_2 t756 t757 t758 t759 t760 t761 t762 _ A77.out).mono ?_); rintro e w94 ⟨rfl, hb⟩; refine ⟨_, rfl, ?_⟩; replace BK720 := Aside0.mk (bkb BK720.out hb); replace BK721 := Aside0.mk (bkb BK721.out hb); replace BK729 := Aside0.mk (bkb BK729.out hb); replace BK737 := Aside0.mk (bkb BK737.out hb); replace HB := Aside0.mk (bst HB.out hb); (try clear hb); (try clear hb2); (try clear hk); (try clear hi); have hnb95 := NB729_737.out; have hnc95 := NB737_729.out; have hcz96_0 := cz6 BK729.out; have hfz96_0 := blk_frozen BK729.out; have hcz97_0 := cz6 BK720.out; have hfz97_0 := blk_frozen BK720.out; have hcz98_0 := cz3 BK721.out; have hfz98_0 := blk_frozen BK721.out) | ((with_reducible refine gate_callee (f := 30) rfl ?_); refine gsl (some 84) Try.func30 #[.agg #[.int .i64 a0_0, .int .i64 a0_1, .int .i64 a0_2, .int .i64 a0_3, .int .i64 a0_4, .bool a0_5], .agg #[.int .i64 a1_0, .int .i64 a1_1, .int .i64 a1_2]] ?_; (with_reducible refine (ref_Force.calls kj37 a0_0 a0_1 a0_2 a0_3 a0_4 a0_5 a1_0 a1_1 a1_2 t763 t764 t765 t766 t767 t768 t769 _ A78.out).mono ?_); rintro e w99 ⟨rfl, hb⟩; refine ⟨_, rfl, ?_⟩; replace BK720 := Aside0.mk (bkb BK720.out hb); replace BK721 := Aside0.mk (bkb BK721.out hb); replace BK729 := Aside0.mk (blk_below (g := gb729) (o := .cells #[.int .i64 t756, .int .i64 t757, .int .i64 t758, .int .i64 t759, .int .i64 t760, .bool t761] 39 (0, 0)) (bkt BK729.out) hb); replace BK737 := Aside0.mk (bkb BK737.out hb); replace HB := Aside0.mk (bst HB.out hb); (try clear hb); (try clear hb2); (try clear hk); (try clear hi); have hcz100_0 := cz6 BK737.out; have hfz100_0 := blk_frozen BK737.out; have hcz101_0 := cz6 BK720.out; have hfz101_0 := blk_frozen BK720.out; have hcz102_0 := cz3 BK721.out; have hfz102_0 := blk_frozen BK721.out) | ((with_reducible refine gate_callee (f := 24) rfl ?_); refine gsl (some 90) Try.func24 #[.agg #[.int .i64 a0_0, .int .i64 a0_1, .int .i64 a0_2, .int .i64 a0_3, .int .i64 a0_4, .bool a0_5], .agg #[.int .i64 a1_0, .int .i64 a1_1, .int .i64 a1_2]] ?_; (with_reducible refine (cycle_Left.calls kj37 a0_0 a0_1 a0_2 a0_3 a0_4 a0_5 a1_0 a1_1 a1_2 t770 t771 _ A79.out).mono ?_); rintro e w103 ⟨rfl, hb⟩; refine ⟨_, rfl, ?_⟩; replace BK720 := Aside0.mk (bkb BK720.out hb); replace BK721 := Aside0.mk (bkb BK721.out hb); replace BK729 := Aside0.mk (bkb BK729.out hb); replace BK737 := Aside0.mk (blk_below (g := gb737) (o := .cells #[.int .i64 t763, .int .i64 t764, .int .i64 t765, .int .i64 t766, .int .i64 t767, .bool t768] 39 (0, 0)) (bkt BK737.out) hb); replace HB := Aside0.mk (bst HB.out hb); (try clear hb); (try clear hb2); (try clear hk); (try clear hi); have hcz104_0 := cz6 BK720.out; have hfz104_0 := blk_frozen BK720.out; have hcz105_0 := cz3 BK721.out; have hfz105_0 := blk_frozen BK721.out) | ((with_reducible refine gate_callee (f := 31) rfl ?_); refine gsl (some 96) Try.func31 #[.agg #[.int .i64 a0_0, .int .i64 a0_1, .int .i64 a0_2, .int .i64 a0_3, .int .i64 a0_4, .bool a0_5], .agg #[.int .i64 a1_0, .int .i64 a1_1, .int .i64 a1_2]] ?_; (with_reducible refine (ref_Left.calls kj37 a0_0 a0_1 a0_2 a0_3 a0_4 a0_5 a1_0 a1_1 a1_2 t772 t773 _ A80.out).mono ?_); rintro e w106 ⟨rfl, hb⟩; refine ⟨_, rfl, ?_⟩; replace BK720 := Aside0.mk (bkb BK720.out hb); replace BK721 := Aside0.mk (bkb BK721.out hb); replace BK729 := Aside0.mk (bkb BK729.out hb); replace BK737 := Aside0.mk (bkb BK737.out hb); replace HB := Aside0.mk (bst HB.out hb); (try clear hb); (try clear hb2); (try clear hk); (try clear hi); have hcz107_0 := cz6 BK729.out; have hfz107_0 := blk_frozen BK729.out; have hcz108_0 := cz6 BK737.out; have hfz108_0 := blk_frozen BK737.out) | (go_at_call 9; (with_reducible refine (q_awake.calls kj37  true _ A85.out).mono ?_); rintro e w109 ⟨rfl, hb⟩; replace BK720 := Aside0.mk (bkb BK720.out hb); replace BK721 := Aside0.mk (bkb BK721.out hb); replace BK729 := Aside0.mk (bkb BK729.out hb); replace BK737 := Aside0.mk (bkb BK737.out hb); replace HB := Aside0.mk (bst HB.out hb); (try clear hb); (try clear hb2); (try clear hk); (try clear hi)))
            go_ret
            exact bfin (bel HB.out)
           ·replace c86 := Bool.eq_false_iff.mpr c86
            subst c86
            have H1 : (none) = some r := by rw [if_neg (show ¬ (false = true) by decide)] at H; exact H
            clear H
            have H := H1
            clear H1
            exact absurd H (by simp)
          ·rw [if_neg c84] at H
           exact absurd H (by simp)
         ·rw [if_neg c83] at H
          exact absurd H (by simp)
        ·rw [if_neg c82] at H
         exact absurd H (by simp)
       ·rw [if_neg c81] at H
        exact absurd H (by simp)

/-- THE ONE PURE STATEMENT of q_CycleSteps: yours. -/
def q_CycleSteps.Pure : Prop := ∀ (a0_0 : Int) (a0_1 : Int) (a0_2 : Int) (a0_3 : Int) (a0_4 : Int) (a0_5 : Bool) (a1_0 : Int) (a1_1 : Int) (a1_2 : Int) (a2 : Bool), (Lit.int .i64 a0_0).wf = true → (Lit.int .i64 a0_1).wf = true → (Lit.int .i64 a0_2).wf = true → (Lit.int .i64 a0_3).wf = true → (Lit.int .i64 a0_4).wf = true → (Lit.int .i64 a1_0).wf = true → (Lit.int .i64 a1_1).wf = true → (Lit.int .i64 a1_2).wf = true → ∃ k, q_CycleSteps.f k a0_0 a0_1 a0_2 a0_3 a0_4 a0_5 a1_0 a1_1 a1_2 a2 = some true
theorem q_CycleSteps.walk (P : q_CycleSteps.Pure) (a0_0 : Int) (a0_1 : Int) (a0_2 : Int) (a0_3 : Int) (a0_4 : Int) (a0_5 : Bool) (a1_0 : Int) (a1_1 : Int) (a1_2 : Int) (a2 : Bool) (w : World) (w0_0 : (Lit.int .i64 a0_0).wf = true) (w0_1 : (Lit.int .i64 a0_1).wf = true) (w0_2 : (Lit.int .i64 a0_2).wf = true) (w0_3 : (Lit.int .i64 a0_3).wf = true) (w0_4 : (Lit.int .i64 a0_4).wf = true) (w1_0 : (Lit.int .i64 a1_0).wf = true) (w1_1 : (Lit.int .i64 a1_1).wf = true) (w1_2 : (Lit.int .i64 a1_2).wf = true) :
  Calls Try.prog 8 #[.agg #[.int .i64 a0_0, .int .i64 a0_1, .int .i64 a0_2, .int .i64 a0_3, .int .i64 a0_4, .bool a0_5], .agg #[.int .i64 a1_0, .int .i64 a1_1, .int .i64 a1_2], .bool a2] w fun e w' => e = .returned (.bool true) ∧ Below w.heap.size w w' := by
 obtain ⟨k, h⟩ := P a0_0 a0_1 a0_2 a0_3 a0_4 a0_5 a1_0 a1_1 a1_2 a2 w0_0 w0_1 w0_2 w0_3 w0_4 w1_0 w1_1 w1_2
 refine (q_CycleSteps.calls k a0_0 a0_1 a0_2 a0_3 a0_4 a0_5 a1_0 a1_1 a1_2 a2 true w h).mono ?_
 rintro e w' ⟨rfl, hd⟩
 exact ⟨rfl, hd⟩

end Go.Proofs.Ytmjmdnpenpdmhaa.P
