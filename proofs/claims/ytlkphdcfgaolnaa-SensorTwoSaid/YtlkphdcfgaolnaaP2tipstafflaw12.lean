-- Printed by wip/myprint.py of this repo (over the kit's printer). Not trusted: Lean checks it.
import Derived.Test.YtlkphdcfgaolnaaP0
import Derived.Test.YtlkphdcfgaolnaaE23
import Derived.Test.YtlkphdcfgaolnaaP0sensor
import Derived.Test.YtlkphdcfgaolnaaP0tipstaffkit
import Derived.Test.YtlkphdcfgaolnaaP0tipstafflaw12
import Derived.Test.YtlkphdcfgaolnaaP1tipstafflaw12
import Derived.Test.YtlkphdcfgaolnaaP2sensor
namespace Go.Proofs.Ytlkphdcfgaolnaa.P
open Go.RowKit Go.Proofs.YtlkphdcfgaolnaaW.PrintWords Go.Proofs.YtlkphdcfgaolnaaW.PrintLast Go.Proofs.YtlkphdcfgaolnaaW.PrintMore
attribute [local go_sem] cell_same1 cell_some1
attribute [local go_sem] max2_int min2_int max_two min_two max_three min_three max_four min_four   -- for this text's walks alone
set_option linter.unusedVariables false
set_option linter.unusedSimpArgs false

attribute [local go_sem high] eqA23
/-! ### q_reads: function 28 -/
def q_reads.f (k : Nat) (a0 : Int) (a1_0 : Bool) (a1_1 : Int) (a1_2 : Int) : Option (Bool) := (q_gaps.f).bind fun t165 => ((sensor_Read.f k t165 a0 1 true).bind fun bt168 => (if bt168.2.2.2 = 0 then (some (bt168.1 == a1_0 && (bt168.2.1 == a1_1 && (bt168.2.2.1 == a1_2)))) else (none)))
theorem q_reads.mono : ∀ a0 a1 a2 a3 k, LeO (q_reads.f k a0 a1 a2 a3) (q_reads.f (k + 1) a0 a1 a2 a3) := by
 intro a0 a1 a2 a3 k
 unfold q_reads.f
 repeat' first
   | (with_reducible exact sensor_Read.mono _ _ _ _ _)
   | (with_reducible exact LeO.refl _)
   | (with_reducible exact LeO.none _)
   | (with_reducible refine LeO.ite ?_ ?_)
   | (with_reducible refine LeO.bind ?_ (fun _ => ?_))
   | exact sensor_Read.mono _ _ _ _ _
   | exact LeO.none _
   | refine LeO.ite ?_ ?_
   | refine LeO.bind ?_ (fun _ => ?_)
set_option maxHeartbeats 8000000 in
set_option maxRecDepth 100000 in
theorem q_reads.calls (k : Nat) (a0 : Int) (a1_0 : Bool) (a1_1 : Int) (a1_2 : Int) (r : Bool) (w : World) (h : q_reads.f k a0 a1_0 a1_1 a1_2 = some r) :
  Calls Try.prog 28 #[.int .i64 a0, .agg #[.bool a1_0, .int .i64 a1_1, .int .i64 a1_2]] w fun e w' => e = .returned (.bool r) ∧ Below w.heap.size w w' := by
 have hu23 := Try.underlying23
 have HB := Aside0.mk (Below.refl w.heap.size w)
 have H : ((q_gaps.f).bind fun t165 => ((sensor_Read.f k t165 a0 1 true).bind fun bt168 => (if bt168.2.2.2 = 0 then (some (bt168.1 == a1_0 && (bt168.2.1 == a1_1 && (bt168.2.2.1 == a1_2)))) else (none)))) = some r := h
 clear h
 replace H := Option.bind_eq_some_iff.mp H
 obtain ⟨t165, A30, H⟩ := H
 replace H : ((sensor_Read.f k t165 a0 1 true).bind fun bt168 => (if bt168.2.2.2 = 0 then (some (bt168.1 == a1_0 && (bt168.2.1 == a1_1 && (bt168.2.2.1 == a1_2)))) else (none))) = some r := H
 have A3 := Aside0.mk A30
 clear A30
 replace H := Option.bind_eq_some_iff.mp H
 obtain ⟨⟨t168, t169, t170, t171⟩, A40, H⟩ := H
 replace H : (if t171 = 0 then (some (t168 == a1_0 && (t169 == a1_1 && (t170 == a1_2)))) else (none)) = some r := H
 have A4 := Aside0.mk A40
 clear A40
 by_cases c5 : t171 = 0
 ·rw [if_pos c5] at H
  have c5b0 : (t171 == 0) = true := beq_iff_eq.mpr c5
  have c5b1 : (t171 != 0) = false := bne_eq_false_iff_eq.mpr c5
  clear c5
  obtain rfl := Option.some.inj H
  go_enter Try.func28, Try.ntmps28
  go_wp2_with (first | ((with_reducible refine gate_dst (N := 3) rfl ?_); refine bxe (cs := #[.bool a1_0, .int .i64 a1_1, .int .i64 a1_2]) (t := 23) ?_; intro gb164 hg w6 hbox hb; have BK164 := Aside0.mk (hbox); have GW164 := Aside0.mk (bge hg HB.out); have GE164 := Aside0.mk (bge hg HB.out); replace HB := Aside0.mk (bst HB.out hb); clear hb hbox hg) | ((with_reducible refine gate_callee (f := 26) rfl ?_); refine gsl (some 8) Try.func26 #[] ?_; (with_reducible refine (q_gaps.calls  t165 _ A3.out).mono ?_); rintro e w7 ⟨v166, rfl, ho0, hb⟩; refine ⟨_, rfl, ?_⟩; have HO167 := Aside0.mk (Kd.R_lower ho0 (bsz HB.out)); replace BK164 := Aside0.mk (bkb BK164.out hb); replace HB := Aside0.mk (bst HB.out hb); (try clear hb); (try clear hb2); (try clear hk); (try clear hi); (try clear ho0); obtain ⟨Ao8, co8, eo8⟩ := Kd.R_slice HO167.out; subst eo8) | ((with_reducible refine gate_callee (f := 12) rfl ?_); refine gsl (some 10) Try.func12 #[.slice Ao8 t165.length co8, .int .i64 a0, .int .i64 1, .bool true] ?_; (with_reducible refine (sensor_Read.calls k _ _ t165 a0 1 true t168 t169 t170 t171 _ ?side1 ?side2 A4.out).mono ?_); (case side1 => repeat (first | exact (Kd.R_reads' HO167.out).2.2 | (with_reducible refine Kd.C_alloc ?_ _) | (with_reducible refine Kd.C_drewN ?_ _) | (with_reducible refine Kd.C_drew ?_))); (case side2 => exact (Kd.R_reads' HO167.out).2.1); rintro e w9 ⟨rfl, hb⟩; refine ⟨_, rfl, ?_⟩; replace HO167 := Aside0.mk (Kd.R_below (kdt HO167.out) hb); replace BK164 := Aside0.mk (bkb BK164.out hb); replace HB := Aside0.mk (bst HB.out hb); (try clear hb); (try clear hb2); (try clear hk); (try clear hi)) | ((with_reducible refine gate_dst (N := 5) rfl ?_); refine bxe (cs := #[.bool false, .int .i64 0, .int .i64 0]) (t := 23) ?_; intro gb172 hg w10 hbox hb; have BK172 := Aside0.mk (hbox); have GW172 := Aside0.mk (bge hg HB.out); have GE172 := Aside0.mk (bge hg HB.out); have NB164_172 := Aside0.mk ((bkl hg BK164.out)); have NB172_164 := Aside0.mk ((bkg hg BK164.out)); replace HO167 := Aside0.mk (Kd.R_below (kdt HO167.out) hb); replace BK164 := Aside0.mk (bkb BK164.out hb); replace HB := Aside0.mk (bst HB.out hb); clear hb hbox hg; have hnb11 := NB172_164.out; have hnc11 := NB164_172.out; have hcz12_0 := cz3 BK172.out; have hfz12_0 := blk_frozen BK172.out; have hcz13_0 := cz3 BK164.out; have hfz13_0 := blk_frozen BK164.out))
  go_ret
  exact bfin (bel HB.out)
 ·rw [if_neg c5] at H
  exact absurd H (by simp)

/-! ### q_awake: function 10 -/
def q_awake.f (k : Nat)  : Option (Bool) := (q_list.f).bind fun t189 => ((sensor_Faults.f k t189 1).bind fun bt192 => ((q_list.f).bind fun t196 => ((sensor_Works.f k t196 3).bind fun bt199 => ((q_at.f 1 1).bind fun bt201 => ((q_reads.f k 11 bt201.1 bt201.2.1 bt201.2.2).bind fun t204 => (if t204 = true then ((q_at.f 1 0).bind fun bt205 => ((q_at.f 1 0).bind fun bt208 => ((q_failed.f).bind fun bt211 => ((q_at.f 1 0).bind fun bt214 => ((q_votes.f bt205.1 bt205.2.1 bt205.2.2 bt208.1 bt208.2.1 bt208.2.2 bt211.1 bt211.2.1 bt211.2.2 bt214.1 bt214.2.1 bt214.2.2 3).bind fun t217 => (if t217 = true then (if bt192.2 = 0 then ((kit_SameInts.f k bt192.1 (([3, 5] : List Int))).bind fun t221 => (if t221 = true then (if bt199.2 = 0 then (if bt199.1 = true then ((q_failed.f).bind fun bt222 => ((sensor_Check.f k bt222.1 bt222.2.1 bt222.2.2).bind fun t225 => (some (t225 == 0)))) else (none)) else (none)) else (none))) else (none)) else (none))))))) else (none)))))))
theorem q_awake.mono : ∀ k, LeO (q_awake.f k ) (q_awake.f (k + 1) ) := by
 intro  k
 unfold q_awake.f
 repeat' first
   | (with_reducible exact sensor_Check.mono _ _ _ _)
   | (with_reducible exact sensor_Faults.mono _ _ _)
   | (with_reducible exact sensor_Works.mono _ _ _)
   | (with_reducible exact kit_SameInts.mono _ _ _)
   | (with_reducible exact q_reads.mono _ _ _ _ _)
   | (with_reducible exact LeO.refl _)
   | (with_reducible exact LeO.none _)
   | (with_reducible refine LeO.ite ?_ ?_)
   | (with_reducible refine LeO.bind ?_ (fun _ => ?_))
   | exact sensor_Check.mono _ _ _ _
   | exact sensor_Faults.mono _ _ _
   | exact sensor_Works.mono _ _ _
   | exact kit_SameInts.mono _ _ _
   | exact q_reads.mono _ _ _ _ _
   | exact LeO.none _
   | refine LeO.ite ?_ ?_
   | refine LeO.bind ?_ (fun _ => ?_)
set_option maxHeartbeats 8000000 in
set_option maxRecDepth 100000 in
theorem q_awake.calls (k : Nat)  (r : Bool) (w : World) (h : q_awake.f k  = some r) :
  Calls Try.prog 10 #[] w fun e w' => e = .returned (.bool r) ∧ Below w.heap.size w w' := by
 have HB := Aside0.mk (Below.refl w.heap.size w)
 have H : ((q_list.f).bind fun t189 => ((sensor_Faults.f k t189 1).bind fun bt192 => ((q_list.f).bind fun t196 => ((sensor_Works.f k t196 3).bind fun bt199 => ((q_at.f 1 1).bind fun bt201 => ((q_reads.f k 11 bt201.1 bt201.2.1 bt201.2.2).bind fun t204 => (if t204 = true then ((q_at.f 1 0).bind fun bt205 => ((q_at.f 1 0).bind fun bt208 => ((q_failed.f).bind fun bt211 => ((q_at.f 1 0).bind fun bt214 => ((q_votes.f bt205.1 bt205.2.1 bt205.2.2 bt208.1 bt208.2.1 bt208.2.2 bt211.1 bt211.2.1 bt211.2.2 bt214.1 bt214.2.1 bt214.2.2 3).bind fun t217 => (if t217 = true then (if bt192.2 = 0 then ((kit_SameInts.f k bt192.1 (([3, 5] : List Int))).bind fun t221 => (if t221 = true then (if bt199.2 = 0 then (if bt199.1 = true then ((q_failed.f).bind fun bt222 => ((sensor_Check.f k bt222.1 bt222.2.1 bt222.2.2).bind fun t225 => (some (t225 == 0)))) else (none)) else (none)) else (none))) else (none)) else (none))))))) else (none)))))))) = some r := h
 clear h
 replace H := Option.bind_eq_some_iff.mp H
 obtain ⟨t189, A10, H⟩ := H
 replace H : ((sensor_Faults.f k t189 1).bind fun bt192 => ((q_list.f).bind fun t196 => ((sensor_Works.f k t196 3).bind fun bt199 => ((q_at.f 1 1).bind fun bt201 => ((q_reads.f k 11 bt201.1 bt201.2.1 bt201.2.2).bind fun t204 => (if t204 = true then ((q_at.f 1 0).bind fun bt205 => ((q_at.f 1 0).bind fun bt208 => ((q_failed.f).bind fun bt211 => ((q_at.f 1 0).bind fun bt214 => ((q_votes.f bt205.1 bt205.2.1 bt205.2.2 bt208.1 bt208.2.1 bt208.2.2 bt211.1 bt211.2.1 bt211.2.2 bt214.1 bt214.2.1 bt214.2.2 3).bind fun t217 => (if t217 = true then (if bt192.2 = 0 then ((kit_SameInts.f k bt192.1 (([3, 5] : List Int))).bind fun t221 => (if t221 = true then (if bt199.2 = 0 then (if bt199.1 = true then ((q_failed.f).bind fun bt222 => ((sensor_Check.f k bt222.1 bt222.2.1 bt222.2.2).bind fun t225 => (some (t225 == 0)))) else (none)) else (none)) else (none))) else (none)) else (none))))))) else (none))))))) = some r := H
 have A1 := Aside0.mk A10
 clear A10
 replace H := Option.bind_eq_some_iff.mp H
 obtain ⟨⟨t192, t193⟩, A20, H⟩ := H
 replace H : ((q_list.f).bind fun t196 => ((sensor_Works.f k t196 3).bind fun bt199 => ((q_at.f 1 1).bind fun bt201 => ((q_reads.f k 11 bt201.1 bt201.2.1 bt201.2.2).bind fun t204 => (if t204 = true then ((q_at.f 1 0).bind fun bt205 => ((q_at.f 1 0).bind fun bt208 => ((q_failed.f).bind fun bt211 => ((q_at.f 1 0).bind fun bt214 => ((q_votes.f bt205.1 bt205.2.1 bt205.2.2 bt208.1 bt208.2.1 bt208.2.2 bt211.1 bt211.2.1 bt211.2.2 bt214.1 bt214.2.1 bt214.2.2 3).bind fun t217 => (if t217 = true then (if t193 = 0 then ((kit_SameInts.f k t192 (([3, 5] : List Int))).bind fun t221 => (if t221 = true then (if bt199.2 = 0 then (if bt199.1 = true then ((q_failed.f).bind fun bt222 => ((sensor_Check.f k bt222.1 bt222.2.1 bt222.2.2).bind fun t225 => (some (t225 == 0)))) else (none)) else (none)) else (none))) else (none)) else (none))))))) else (none)))))) = some r := H
 have A2 := Aside0.mk A20
 clear A20
 replace H := Option.bind_eq_some_iff.mp H
 obtain ⟨t196, A30, H⟩ := H
 replace H : ((sensor_Works.f k t196 3).bind fun bt199 => ((q_at.f 1 1).bind fun bt201 => ((q_reads.f k 11 bt201.1 bt201.2.1 bt201.2.2).bind fun t204 => (if t204 = true then ((q_at.f 1 0).bind fun bt205 => ((q_at.f 1 0).bind fun bt208 => ((q_failed.f).bind fun bt211 => ((q_at.f 1 0).bind fun bt214 => ((q_votes.f bt205.1 bt205.2.1 bt205.2.2 bt208.1 bt208.2.1 bt208.2.2 bt211.1 bt211.2.1 bt211.2.2 bt214.1 bt214.2.1 bt214.2.2 3).bind fun t217 => (if t217 = true then (if t193 = 0 then ((kit_SameInts.f k t192 (([3, 5] : List Int))).bind fun t221 => (if t221 = true then (if bt199.2 = 0 then (if bt199.1 = true then ((q_failed.f).bind fun bt222 => ((sensor_Check.f k bt222.1 bt222.2.1 bt222.2.2).bind fun t225 => (some (t225 == 0)))) else (none)) else (none)) else (none))) else (none)) else (none))))))) else (none))))) = some r := H
 have A3 := Aside0.mk A30
 clear A30
 replace H := Option.bind_eq_some_iff.mp H
 obtain ⟨⟨t199, t200⟩, A40, H⟩ := H
 replace H : ((q_at.f 1 1).bind fun bt201 => ((q_reads.f k 11 bt201.1 bt201.2.1 bt201.2.2).bind fun t204 => (if t204 = true then ((q_at.f 1 0).bind fun bt205 => ((q_at.f 1 0).bind fun bt208 => ((q_failed.f).bind fun bt211 => ((q_at.f 1 0).bind fun bt214 => ((q_votes.f bt205.1 bt205.2.1 bt205.2.2 bt208.1 bt208.2.1 bt208.2.2 bt211.1 bt211.2.1 bt211.2.2 bt214.1 bt214.2.1 bt214.2.2 3).bind fun t217 => (if t217 = true then (if t193 = 0 then ((kit_SameInts.f k t192 (([3, 5] : List Int))).bind fun t221 => (if t221 = true then (if t200 = 0 then (if t199 = true then ((q_failed.f).bind fun bt222 => ((sensor_Check.f k bt222.1 bt222.2.1 bt222.2.2).bind fun t225 => (some (t225 == 0)))) else (none)) else (none)) else (none))) else (none)) else (none))))))) else (none)))) = some r := H
 have A4 := Aside0.mk A40
 clear A40
 replace H := Option.bind_eq_some_iff.mp H
 obtain ⟨⟨t201, t202, t203⟩, A50, H⟩ := H
 replace H : ((q_reads.f k 11 t201 t202 t203).bind fun t204 => (if t204 = true then ((q_at.f 1 0).bind fun bt205 => ((q_at.f 1 0).bind fun bt208 => ((q_failed.f).bind fun bt211 => ((q_at.f 1 0).bind fun bt214 => ((q_votes.f bt205.1 bt205.2.1 bt205.2.2 bt208.1 bt208.2.1 bt208.2.2 bt211.1 bt211.2.1 bt211.2.2 bt214.1 bt214.2.1 bt214.2.2 3).bind fun t217 => (if t217 = true then (if t193 = 0 then ((kit_SameInts.f k t192 (([3, 5] : List Int))).bind fun t221 => (if t221 = true then (if t200 = 0 then (if t199 = true then ((q_failed.f).bind fun bt222 => ((sensor_Check.f k bt222.1 bt222.2.1 bt222.2.2).bind fun t225 => (some (t225 == 0)))) else (none)) else (none)) else (none))) else (none)) else (none))))))) else (none))) = some r := H
 have A5 := Aside0.mk A50
 clear A50
 replace H := Option.bind_eq_some_iff.mp H
 obtain ⟨t204, A60, H⟩ := H
 replace H : (if t204 = true then ((q_at.f 1 0).bind fun bt205 => ((q_at.f 1 0).bind fun bt208 => ((q_failed.f).bind fun bt211 => ((q_at.f 1 0).bind fun bt214 => ((q_votes.f bt205.1 bt205.2.1 bt205.2.2 bt208.1 bt208.2.1 bt208.2.2 bt211.1 bt211.2.1 bt211.2.2 bt214.1 bt214.2.1 bt214.2.2 3).bind fun t217 => (if t217 = true then (if t193 = 0 then ((kit_SameInts.f k t192 (([3, 5] : List Int))).bind fun t221 => (if t221 = true then (if t200 = 0 then (if t199 = true then ((q_failed.f).bind fun bt222 => ((sensor_Check.f k bt222.1 bt222.2.1 bt222.2.2).bind fun t225 => (some (t225 == 0)))) else (none)) else (none)) else (none))) else (none)) else (none))))))) else (none)) = some r := H
 have A6 := Aside0.mk A60
 clear A60
 by_cases c7 : t204 = true
 ·subst c7
  have H1 : ((q_at.f 1 0).bind fun bt205 => ((q_at.f 1 0).bind fun bt208 => ((q_failed.f).bind fun bt211 => ((q_at.f 1 0).bind fun bt214 => ((q_votes.f bt205.1 bt205.2.1 bt205.2.2 bt208.1 bt208.2.1 bt208.2.2 bt211.1 bt211.2.1 bt211.2.2 bt214.1 bt214.2.1 bt214.2.2 3).bind fun t217 => (if t217 = true then (if t193 = 0 then ((kit_SameInts.f k t192 (([3, 5] : List Int))).bind fun t221 => (if t221 = true then (if t200 = 0 then (if t199 = true then ((q_failed.f).bind fun bt222 => ((sensor_Check.f k bt222.1 bt222.2.1 bt222.2.2).bind fun t225 => (some (t225 == 0)))) else (none)) else (none)) else (none))) else (none)) else (none))))))) = some r := by rw [if_pos rfl] at H; exact H
  clear H
  have H := H1
  clear H1
  replace H := Option.bind_eq_some_iff.mp H
  obtain ⟨⟨t205, t206, t207⟩, A80, H⟩ := H
  replace H : ((q_at.f 1 0).bind fun bt208 => ((q_failed.f).bind fun bt211 => ((q_at.f 1 0).bind fun bt214 => ((q_votes.f t205 t206 t207 bt208.1 bt208.2.1 bt208.2.2 bt211.1 bt211.2.1 bt211.2.2 bt214.1 bt214.2.1 bt214.2.2 3).bind fun t217 => (if t217 = true then (if t193 = 0 then ((kit_SameInts.f k t192 (([3, 5] : List Int))).bind fun t221 => (if t221 = true then (if t200 = 0 then (if t199 = true then ((q_failed.f).bind fun bt222 => ((sensor_Check.f k bt222.1 bt222.2.1 bt222.2.2).bind fun t225 => (some (t225 == 0)))) else (none)) else (none)) else (none))) else (none)) else (none)))))) = some r := H
  have A8 := Aside0.mk A80
  clear A80
  replace H := Option.bind_eq_some_iff.mp H
  obtain ⟨⟨t208, t209, t210⟩, A90, H⟩ := H
  replace H : ((q_failed.f).bind fun bt211 => ((q_at.f 1 0).bind fun bt214 => ((q_votes.f t205 t206 t207 t208 t209 t210 bt211.1 bt211.2.1 bt211.2.2 bt214.1 bt214.2.1 bt214.2.2 3).bind fun t217 => (if t217 = true then (if t193 = 0 then ((kit_SameInts.f k t192 (([3, 5] : List Int))).bind fun t221 => (if t221 = true then (if t200 = 0 then (if t199 = true then ((q_failed.f).bind fun bt222 => ((sensor_Check.f k bt222.1 bt222.2.1 bt222.2.2).bind fun t225 => (some (t225 == 0)))) else (none)) else (none)) else (none))) else (none)) else (none))))) = some r := H
  have A9 := Aside0.mk A90
  clear A90
  replace H := Option.bind_eq_some_iff.mp H
  obtain ⟨⟨t211, t212, t213⟩, A100, H⟩ := H
  replace H : ((q_at.f 1 0).bind fun bt214 => ((q_votes.f t205 t206 t207 t208 t209 t210 t211 t212 t213 bt214.1 bt214.2.1 bt214.2.2 3).bind fun t217 => (if t217 = true then (if t193 = 0 then ((kit_SameInts.f k t192 (([3, 5] : List Int))).bind fun t221 => (if t221 = true then (if t200 = 0 then (if t199 = true then ((q_failed.f).bind fun bt222 => ((sensor_Check.f k bt222.1 bt222.2.1 bt222.2.2).bind fun t225 => (some (t225 == 0)))) else (none)) else (none)) else (none))) else (none)) else (none)))) = some r := H
  have A10 := Aside0.mk A100
  clear A100
  replace H := Option.bind_eq_some_iff.mp H
  obtain ⟨⟨t214, t215, t216⟩, A110, H⟩ := H
  replace H : ((q_votes.f t205 t206 t207 t208 t209 t210 t211 t212 t213 t214 t215 t216 3).bind fun t217 => (if t217 = true then (if t193 = 0 then ((kit_SameInts.f k t192 (([3, 5] : List Int))).bind fun t221 => (if t221 = true then (if t200 = 0 then (if t199 = true then ((q_failed.f).bind fun bt222 => ((sensor_Check.f k bt222.1 bt222.2.1 bt222.2.2).bind fun t225 => (some (t225 == 0)))) else (none)) else (none)) else (none))) else (none)) else (none))) = some r := H
  have A11 := Aside0.mk A110
  clear A110
  replace H := Option.bind_eq_some_iff.mp H
  obtain ⟨t217, A120, H⟩ := H
  replace H : (if t217 = true then (if t193 = 0 then ((kit_SameInts.f k t192 (([3, 5] : List Int))).bind fun t221 => (if t221 = true then (if t200 = 0 then (if t199 = true then ((q_failed.f).bind fun bt222 => ((sensor_Check.f k bt222.1 bt222.2.1 bt222.2.2).bind fun t225 => (some (t225 == 0)))) else (none)) else (none)) else (none))) else (none)) else (none)) = some r := H
  have A12 := Aside0.mk A120
  clear A120
  by_cases c13 : t217 = true
  ·subst c13
   have H1 : (if t193 = 0 then ((kit_SameInts.f k t192 (([3, 5] : List Int))).bind fun t221 => (if t221 = true then (if t200 = 0 then (if t199 = true then ((q_failed.f).bind fun bt222 => ((sensor_Check.f k bt222.1 bt222.2.1 bt222.2.2).bind fun t225 => (some (t225 == 0)))) else (none)) else (none)) else (none))) else (none)) = some r := by rw [if_pos rfl] at H; exact H
   clear H
   have H := H1
   clear H1
   by_cases c14 : t193 = 0
   ·rw [if_pos c14] at H
    have c14b0 : (t193 == 0) = true := beq_iff_eq.mpr c14
    have c14b1 : (t193 != 0) = false := bne_eq_false_iff_eq.mpr c14
    clear c14
    obtain ⟨y218, hy218⟩ : ∃ y_ : List Int, y_ = (([3, 5] : List Int)) := ⟨_, rfl⟩
    replace H : ((kit_SameInts.f k t192 y218).bind fun t221 => (if t221 = true then (if t200 = 0 then (if t199 = true then ((q_failed.f).bind fun bt222 => ((sensor_Check.f k bt222.1 bt222.2.1 bt222.2.2).bind fun t225 => (some (t225 == 0)))) else (none)) else (none)) else (none))) = some r := by first | (rw [hy218]; with_reducible exact H) | (have H2_ := (Option.bind_some _ _).symm.trans H; rw [hy218]; with_reducible exact H2_) | (have H2_ := (Option.bind_some _ _).symm.trans H; with_reducible exact H2_) | with_reducible exact H | (rw [hy218]; exact H) | exact H
    have Ny218 := Aside0.mk hy218
    clear hy218
    replace H := Option.bind_eq_some_iff.mp H
    obtain ⟨t221, A150, H⟩ := H
    replace H : (if t221 = true then (if t200 = 0 then (if t199 = true then ((q_failed.f).bind fun bt222 => ((sensor_Check.f k bt222.1 bt222.2.1 bt222.2.2).bind fun t225 => (some (t225 == 0)))) else (none)) else (none)) else (none)) = some r := H
    have A15 := Aside0.mk A150
    clear A150
    by_cases c16 : t221 = true
    ·subst c16
     have H1 : (if t200 = 0 then (if t199 = true then ((q_failed.f).bind fun bt222 => ((sensor_Check.f k bt222.1 bt222.2.1 bt222.2.2).bind fun t225 => (some (t225 == 0)))) else (none)) else (none)) = some r := by rw [if_pos rfl] at H; exact H
     clear H
     have H := H1
     clear H1
     by_cases c17 : t200 = 0
     ·rw [if_pos c17] at H
      have c17b0 : (t200 == 0) = true := beq_iff_eq.mpr c17
      have c17b1 : (t200 != 0) = false := bne_eq_false_iff_eq.mpr c17
      clear c17
      by_cases c18 : t199 = true
      ·subst c18
       have H1 : ((q_failed.f).bind fun bt222 => ((sensor_Check.f k bt222.1 bt222.2.1 bt222.2.2).bind fun t225 => (some (t225 == 0)))) = some r := by rw [if_pos rfl] at H; exact H
       clear H
       have H := H1
       clear H1
       replace H := Option.bind_eq_some_iff.mp H
       obtain ⟨⟨t222, t223, t224⟩, A190, H⟩ := H
       replace H : ((sensor_Check.f k t222 t223 t224).bind fun t225 => (some (t225 == 0))) = some r := H
       have A19 := Aside0.mk A190
       clear A190
       replace H := Option.bind_eq_some_iff.mp H
       obtain ⟨t225, A200, H⟩ := H
       replace H : (some (t225 == 0)) = some r := H
       have A20 := Aside0.mk A200
       clear A200
       obtain rfl := Option.some.inj H
       go_enter Try.func10, Try.ntmps10
       go_wp2_with (first | ((with_reducible refine gate_callee (f := 27) rfl ?_); refine gsl (some 6) Try.func27 #[] ?_; (with_reducible refine (q_list.calls  t189 _ A1.out).mono ?_); rintro e w21 ⟨v190, rfl, ho0, hb⟩; refine ⟨_, rfl, ?_⟩; have HO191 := Aside0.mk (Kd.R_lower ho0 (bsz HB.out)); replace HB := Aside0.mk (bst HB.out hb); (try clear hb); (try clear hb2); (try clear hk); (try clear hi); (try clear ho0); obtain ⟨Ao22, co22, eo22⟩ := Kd.R_slice HO191.out; subst eo22) | ((with_reducible refine gate_callee (f := 21) rfl ?_); refine gsl (some 7) Try.func21 #[.slice Ao22 t189.length co22, .int .i64 1] ?_; (with_reducible refine (sensor_Faults.calls k _ _ t189 1 t192 t193 _ ?side1 ?side2 A2.out).mono ?_); (case side1 => repeat (first | exact (Kd.R_reads' HO191.out).2.2 | (with_reducible refine Kd.C_alloc ?_ _) | (with_reducible refine Kd.C_drewN ?_ _) | (with_reducible refine Kd.C_drew ?_))); (case side2 => exact (Kd.R_reads' HO191.out).2.1); rintro e w23 ⟨v194, rfl, ho0, hb⟩; refine ⟨_, rfl, ?_⟩; have HO195 := Aside0.mk (Kd.R_lower ho0 (bsz HB.out)); replace HO191 := Aside0.mk (Kd.R_below (kdt HO191.out) hb); replace HB := Aside0.mk (bst HB.out hb); (try clear hb); (try clear hb2); (try clear hk); (try clear hi); (try clear ho0)) | ((with_reducible refine gate_callee (f := 27) rfl ?_); refine gsl (some 11) Try.func27 #[] ?_; (with_reducible refine (q_list.calls  t196 _ A3.out).mono ?_); rintro e w24 ⟨v197, rfl, ho0, hb⟩; refine ⟨_, rfl, ?_⟩; have HO198 := Aside0.mk (Kd.R_lower (Kd.R_new' ho0 (Kd.R_lt (kdt HO191.out))) (bsz HB.out)); replace HO191 := Aside0.mk (Kd.R_elder' (kdt HO191.out) (Kd.R_base ho0) hb); replace HO195 := Aside0.mk (Kd.R_below (kdt HO195.out) hb); replace HB := Aside0.mk (bst HB.out hb); (try clear hb); (try clear hb2); (try clear hk); (try clear hi); (try clear ho0); obtain ⟨Ao25, co25, eo25⟩ := Kd.R_slice HO198.out; subst eo25) | ((with_reducible refine gate_callee (f := 23) rfl ?_); refine gsl (some 12) Try.func23 #[.slice Ao25 t196.length co25, .int .i64 3] ?_; (with_reducible refine (sensor_Works.calls k _ _ t196 3 true t200 _ ?side1 ?side2 A4.out).mono ?_); (case side1 => repeat (first | exact (Kd.R_reads' HO198.out).2.2 | (with_reducible refine Kd.C_alloc ?_ _) | (with_reducible refine Kd.C_drewN ?_ _) | (with_reducible refine Kd.C_drew ?_))); (case side2 => exact (Kd.R_reads' HO198.out).2.1); rintro e w26 ⟨rfl, hb⟩; refine ⟨_, rfl, ?_⟩; replace HO191 := Aside0.mk (Kd.R_below (kdt HO191.out) hb); replace HO195 := Aside0.mk (Kd.R_below (kdt HO195.out) hb); replace HO198 := Aside0.mk (Kd.R_below (kdt HO198.out) hb); replace HB := Aside0.mk (bst HB.out hb); (try clear hb); (try clear hb2); (try clear hk); (try clear hi)) | ((with_reducible refine gate_callee (f := 29) rfl ?_); refine gsl (some 15) Try.func29 #[.int .i64 1, .int .i64 1] ?_; (with_reducible refine (q_at.calls 1 1 t201 t202 t203 _ A5.out).mono ?_); rintro e w27 ⟨rfl, hb⟩; refine ⟨_, rfl, ?_⟩; replace HO191 := Aside0.mk (Kd.R_below (kdt HO191.out) hb); replace HO195 := Aside0.mk (Kd.R_below (kdt HO195.out) hb); replace HO198 := Aside0.mk (Kd.R_below (kdt HO198.out) hb); replace HB := Aside0.mk (bst HB.out hb); (try clear hb); (try clear hb2); (try clear hk); (try clear hi)) | ((with_reducible refine gate_callee (f := 28) rfl ?_); refine gsl (some 16) Try.func28 #[.int .i64 11, .agg #[.bool t201, .int .i64 t202, .int .i64 t203]] ?_; (with_reducible refine (q_reads.calls k 11 t201 t202 t203 true _ A6.out).mono ?_); rintro e w28 ⟨rfl, hb⟩; refine ⟨_, rfl, ?_⟩; replace HO191 := Aside0.mk (Kd.R_below (kdt HO191.out) hb); replace HO195 := Aside0.mk (Kd.R_below (kdt HO195.out) hb); replace HO198 := Aside0.mk (Kd.R_below (kdt HO198.out) hb); replace HB := Aside0.mk (bst HB.out hb); (try clear hb); (try clear hb2); (try clear hk); (try clear hi)) | (go_at_call 29; (with_reducible refine (q_at.calls 1 0 t205 t206 t207 _ A8.out).mono ?_); rintro e w29 ⟨rfl, hb⟩; (try clear A8); replace HO191 := Aside0.mk (Kd.R_below (kdt HO191.out) hb); replace HO195 := Aside0.mk (Kd.R_below (kdt HO195.out) hb); replace HO198 := Aside0.mk (Kd.R_below (kdt HO198.out) hb); replace HB := Aside0.mk (bst HB.out hb); (try clear hb); (try clear hb2); (try clear hk); (try clear hi)) | (go_at_call 29; (with_reducible refine (q_at.calls 1 0 t208 t209 t210 _ A9.out).mono ?_); rintro e w30 ⟨rfl, hb⟩; (try clear A9); replace HO191 := Aside0.mk (Kd.R_below (kdt HO191.out) hb); replace HO195 := Aside0.mk (Kd.R_below (kdt HO195.out) hb); replace HO198 := Aside0.mk (Kd.R_below (kdt HO198.out) hb); replace HB := Aside0.mk (bst HB.out hb); (try clear hb); (try clear hb2); (try clear hk); (try clear hi)) | (go_at_call 30; (with_reducible refine (q_failed.calls  t211 t212 t213 _ A10.out).mono ?_); rintro e w31 ⟨rfl, hb⟩; (try clear A10); replace HO191 := Aside0.mk (Kd.R_below (kdt HO191.out) hb); replace HO195 := Aside0.mk (Kd.R_below (kdt HO195.out) hb); replace HO198 := Aside0.mk (Kd.R_below (kdt HO198.out) hb); replace HB := Aside0.mk (bst HB.out hb); (try clear hb); (try clear hb2); (try clear hk); (try clear hi)) | (go_at_call 29; (with_reducible refine (q_at.calls 1 0 t214 t215 t216 _ A11.out).mono ?_); rintro e w32 ⟨rfl, hb⟩; (try clear A11); replace HO191 := Aside0.mk (Kd.R_below (kdt HO191.out) hb); replace HO195 := Aside0.mk (Kd.R_below (kdt HO195.out) hb); replace HO198 := Aside0.mk (Kd.R_below (kdt HO198.out) hb); replace HB := Aside0.mk (bst HB.out hb); (try clear hb); (try clear hb2); (try clear hk); (try clear hi)) | (go_at_call 31; (with_reducible refine (q_votes.calls t205 t206 t207 t208 t209 t210 t211 t212 t213 t214 t215 t216 3 true _ A12.out).mono ?_); rintro e w33 ⟨rfl, hb⟩; (try clear A12); replace HO191 := Aside0.mk (Kd.R_below (kdt HO191.out) hb); replace HO195 := Aside0.mk (Kd.R_below (kdt HO195.out) hb); replace HO198 := Aside0.mk (Kd.R_below (kdt HO198.out) hb); replace HB := Aside0.mk (bst HB.out hb); (try clear hb); (try clear hb2); (try clear hk); (try clear hi)) | ((with_reducible refine gate_dst (N := 30) rfl ?_); (try (refine gate_guard (by rfl) ?_; dsimp only)); refine Kd.R_lit (Kd.int .i64) _ 3 ?hg (N := 30) ?hd (xs := ([3, 5] : List Int)) (inner := [.int .i64 3, .int .i64 5]) (ok := fun _ => True) (okp := fun _ => True) ?hr ?hp (fun _ hk => hk) trivial (Below.refl _ _) (Nat.le_refl _) (by simp) ?_; (case hd => rfl); (case hg => rfl); (case hr => first | (go_simp; done) | (go_simp; rfl)); (case hp => exact (Reps.one (show Kd.M (Kd.int .i64) _ _ _ 3 [.int .i64 3] from rfl) (Reps.one (show Kd.M (Kd.int .i64) _ _ _ 5 [.int .i64 5] from rfl) (Reps.none _ _)))); intro v219 w34 ho35 hb hg_ hnew_; clear hg_ hnew_; (first | rw [← Ny218.out] at ho35 | (simp only [Int.reduceToNat] at ho35; rw [← Ny218.out] at ho35)); have HO220 := Aside0.mk (Kd.R_lower (Kd.R_new' ho35 (Kd.R_lt (kdt HO195.out))) (bsz HB.out)); replace HO191 := Aside0.mk (Kd.R_below (kdt HO191.out) hb); replace HO195 := Aside0.mk (Kd.R_elder' (kdt HO195.out) (Kd.R_base ho35) hb); replace HO198 := Aside0.mk (Kd.R_below (kdt HO198.out) hb); replace HB := Aside0.mk (bst HB.out hb); clear hb ho35; obtain ⟨Ao36, co36, eo36⟩ := Kd.R_slice HO195.out; subst eo36; obtain ⟨Ao37, co37, eo37⟩ := Kd.R_slice HO220.out; subst eo37) | (go_at_call 16; (with_reducible refine (kit_SameInts.calls k _ _ t192 _ _ y218 true _ ?side1 ?side2 ?side3 ?side4 A15.out).mono ?_); (case side1 => repeat (first | exact (Kd.R_reads' HO195.out).2.2 | (with_reducible refine Kd.C_alloc ?_ _) | (with_reducible refine Kd.C_drewN ?_ _) | (with_reducible refine Kd.C_drew ?_))); (case side2 => exact (Kd.R_reads' HO195.out).2.1); (case side3 => repeat (first | exact (Kd.R_reads' HO220.out).2.2 | (with_reducible refine Kd.C_alloc ?_ _) | (with_reducible refine Kd.C_drewN ?_ _) | (with_reducible refine Kd.C_drew ?_))); (case side4 => exact (Kd.R_reads' HO220.out).2.1); rintro e w' ⟨rfl, ⟨nd, rfl⟩⟩) | (go_at_call 30; (with_reducible refine (q_failed.calls  t222 t223 t224 _ A19.out).mono ?_); rintro e w38 ⟨rfl, hb⟩; (try clear A19); replace HO191 := Aside0.mk (Kd.R_below (kdt HO191.out) hb); replace HO195 := Aside0.mk (Kd.R_below (kdt HO195.out) hb); replace HO198 := Aside0.mk (Kd.R_below (kdt HO198.out) hb); replace HO220 := Aside0.mk (Kd.R_below (kdt HO220.out) hb); replace HB := Aside0.mk (bst HB.out hb); (try clear hb); (try clear hb2); (try clear hk); (try clear hi)) | (go_at_call 14; (with_reducible refine (sensor_Check.calls k t222 t223 t224 t225 _ A20.out).mono ?_); rintro e w39 ⟨rfl, hb⟩; (try clear A20); replace HO191 := Aside0.mk (Kd.R_below (kdt HO191.out) hb); replace HO195 := Aside0.mk (Kd.R_below (kdt HO195.out) hb); replace HO198 := Aside0.mk (Kd.R_below (kdt HO198.out) hb); replace HO220 := Aside0.mk (Kd.R_below (kdt HO220.out) hb); replace HB := Aside0.mk (bst HB.out hb); (try clear hb); (try clear hb2); (try clear hk); (try clear hi)))
       go_ret
       exact bfin (bel HB.out)
      ·replace c18 := Bool.eq_false_iff.mpr c18
       subst c18
       have H1 : (none) = some r := by rw [if_neg (show ¬ (false = true) by decide)] at H; exact H
       clear H
       have H := H1
       clear H1
       exact absurd H (by simp)
     ·rw [if_neg c17] at H
      exact absurd H (by simp)
    ·replace c16 := Bool.eq_false_iff.mpr c16
     subst c16
     have H1 : (none) = some r := by rw [if_neg (show ¬ (false = true) by decide)] at H; exact H
     clear H
     have H := H1
     clear H1
     exact absurd H (by simp)
   ·rw [if_neg c14] at H
    exact absurd H (by simp)
  ·replace c13 := Bool.eq_false_iff.mpr c13
   subst c13
   have H1 : (none) = some r := by rw [if_neg (show ¬ (false = true) by decide)] at H; exact H
   clear H
   have H := H1
   clear H1
   exact absurd H (by simp)
 ·replace c7 := Bool.eq_false_iff.mpr c7
  subst c7
  have H1 : (none) = some r := by rw [if_neg (show ¬ (false = true) by decide)] at H; exact H
  clear H
  have H := H1
  clear H1
  exact absurd H (by simp)

end Go.Proofs.Ytlkphdcfgaolnaa.P
