-- Printed by wip/myprint.py of this repo (over the kit's printer). Not trusted: Lean checks it.
import Derived.Test.YtckaofgkepcibaaP0
import Derived.Test.YtckaofgkepcibaaP0drive
import Derived.Test.YtckaofgkepcibaaP0drivea
namespace Go.Proofs.Ytckaofgkepcibaa.P
open Go.RowKit Go.Proofs.YtckaofgkepcibaaW.PrintWords Go.Proofs.YtckaofgkepcibaaW.PrintLast Go.Proofs.YtckaofgkepcibaaW.PrintMore
attribute [local go_sem] cell_same1 cell_some1
attribute [local go_sem] max2_int min2_int max_two min_two max_three min_three max_four min_four   -- for this text's walks alone
set_option linter.unusedVariables false
set_option linter.unusedSimpArgs false

/-! ### drive_Halt: function 40 -/
def drive_Halt.f (k : Nat) (a0_0 : Int) (a0_1 : Int) (a0_2 : Int) (a0_3 : Int) (a0_4 : Int) : Option (Int × Int × Int × Int × Int × Int) := (drive_Check.f k a0_0 a0_1 a0_2 a0_3 a0_4).bind fun t333 => (if t333 = 0 then ((drive_At.f a0_0).bind fun bt334 => (some (bt334.1, bt334.2.1, bt334.2.2.1, bt334.2.2.2.1, bt334.2.2.2.2.1, bt334.2.2.2.2.2))) else (some (0, 0, 0, 0, 0, t333)))
theorem drive_Halt.mono : ∀ a0 a1 a2 a3 a4 k, LeO (drive_Halt.f k a0 a1 a2 a3 a4) (drive_Halt.f (k + 1) a0 a1 a2 a3 a4) := by
  intro a0 a1 a2 a3 a4 k
  unfold drive_Halt.f
  repeat' first
      | (with_reducible exact drive_Check.mono _ _ _ _ _ _)
      | (with_reducible exact LeO.refl _)
      | (with_reducible exact LeO.none _)
      | (with_reducible refine LeO.ite ?_ ?_)
      | (with_reducible refine LeO.bind ?_ (fun _ => ?_))
      | exact drive_Check.mono _ _ _ _ _ _
      | exact LeO.none _
      | refine LeO.ite ?_ ?_
      | refine LeO.bind ?_ (fun _ => ?_)
set_option maxHeartbeats 8000000 in
set_option maxRecDepth 100000 in
theorem drive_Halt.calls (k : Nat) (a0_0 : Int) (a0_1 : Int) (a0_2 : Int) (a0_3 : Int) (a0_4 : Int) (r1 : Int) (r2 : Int) (r3 : Int) (r4 : Int) (r5 : Int) (r6 : Int) (w : World) (h : drive_Halt.f k a0_0 a0_1 a0_2 a0_3 a0_4 = some (r1, r2, r3, r4, r5, r6)) :
    Calls Try.prog 40 #[.agg #[.int .i64 a0_0, .int .i64 a0_1, .int .i64 a0_2, .int .i64 a0_3, .int .i64 a0_4]] w fun e w' => e = .returned (.tuple #[.agg #[.int .i64 r1, .int .i64 r2, .int .i64 r3, .int .i64 r4, .int .i64 r5], .int .i64 r6]) ∧ Below w.heap.size w w' := by
  have hu33 := Try.underlying33
  have HB := Aside0.mk (Below.refl w.heap.size w)
  have H : ((drive_Check.f k a0_0 a0_1 a0_2 a0_3 a0_4).bind fun t333 => (if t333 = 0 then ((drive_At.f a0_0).bind fun bt334 => (some (bt334.1, bt334.2.1, bt334.2.2.1, bt334.2.2.2.1, bt334.2.2.2.2.1, bt334.2.2.2.2.2))) else (some (0, 0, 0, 0, 0, t333)))) = some (r1, r2, r3, r4, r5, r6) := h
  clear h
  replace H := Option.bind_eq_some_iff.mp H
  obtain ⟨t333, A20, H⟩ := H
  replace H : (if t333 = 0 then ((drive_At.f a0_0).bind fun bt334 => (some (bt334.1, bt334.2.1, bt334.2.2.1, bt334.2.2.2.1, bt334.2.2.2.2.1, bt334.2.2.2.2.2))) else (some (0, 0, 0, 0, 0, t333))) = some (r1, r2, r3, r4, r5, r6) := H
  have A2 := Aside0.mk A20
  clear A20
  by_cases c3 : t333 = 0
  · rw [if_pos c3] at H
    have c3b0 : (t333 == 0) = true := beq_iff_eq.mpr c3
    have c3b1 : (t333 != 0) = false := bne_eq_false_iff_eq.mpr c3
    clear c3
    replace H := Option.bind_eq_some_iff.mp H
    obtain ⟨⟨t334, t335, t336, t337, t338, t339⟩, A40, H⟩ := H
    replace H : (some (t334, t335, t336, t337, t338, t339)) = some (r1, r2, r3, r4, r5, r6) := H
    have A4 := Aside0.mk A40
    clear A40
    simp only [Option.some.injEq, Prod.mk.injEq] at H
    obtain ⟨rfl, rfl, rfl, rfl, rfl, rfl⟩ := H
    go_enter Try.func40, Try.ntmps40
    go_wp2_with (first | ((with_reducible refine gate_dst (N := 1) rfl ?_); refine bxe (cs := #[.int .i64 a0_0, .int .i64 a0_1, .int .i64 a0_2, .int .i64 a0_3, .int .i64 a0_4]) (t := 33) ?_; intro gb331 hg w5 hbox hb; have BK331 := Aside0.mk (hbox); have GW331 := Aside0.mk (bge hg HB.out); have GE331 := Aside0.mk (bge hg HB.out); replace HB := Aside0.mk (bst HB.out hb); clear hb hbox hg) | ((with_reducible refine gate_dst (N := 2) rfl ?_); refine bxe (cs := #[.int .i64 0, .int .i64 0, .int .i64 0, .int .i64 0, .int .i64 0]) (t := 33) ?_; intro gb332 hg w6 hbox hb; have BK332 := Aside0.mk (hbox); have GW332 := Aside0.mk (bge hg HB.out); have GE332 := Aside0.mk (bge hg HB.out); have NB331_332 := Aside0.mk ((bkl hg BK331.out)); have NB332_331 := Aside0.mk ((bkg hg BK331.out)); replace BK331 := Aside0.mk (bkb BK331.out hb); replace HB := Aside0.mk (bst HB.out hb); clear hb hbox hg; have hnb7 := NB331_332.out; have hnc7 := NB332_331.out; have hcz8_0 := cz5 BK331.out; have hfz8_0 := blk_frozen BK331.out) | ((with_reducible refine gate_callee (f := 45) rfl ?_); refine gsl (some 6) Try.func45 #[.agg #[.int .i64 a0_0, .int .i64 a0_1, .int .i64 a0_2, .int .i64 a0_3, .int .i64 a0_4]] ?_; (with_reducible refine (drive_Check.calls k a0_0 a0_1 a0_2 a0_3 a0_4 t333 _ A2.out).mono ?_); rintro e w9 ⟨rfl, hb⟩; refine ⟨_, rfl, ?_⟩; replace BK331 := Aside0.mk (bkb BK331.out hb); replace BK332 := Aside0.mk (bkb BK332.out hb); replace HB := Aside0.mk (bst HB.out hb); (try clear hb); (try clear hb2); (try clear hk); (try clear hi); have hcz10_0 := cz5 BK331.out; have hfz10_0 := blk_frozen BK331.out) | ((with_reducible refine gate_callee (f := 32) rfl ?_); refine gsl (some 13) Try.func32 #[.int .i64 a0_0] ?_; (with_reducible refine (drive_At.calls a0_0 t334 t335 t336 t337 t338 t339 _ A4.out).mono ?_); rintro e w11 ⟨rfl, hb⟩; refine ⟨_, rfl, ?_⟩; replace BK331 := Aside0.mk (bkb BK331.out hb); replace BK332 := Aside0.mk (bkb BK332.out hb); replace HB := Aside0.mk (bst HB.out hb); (try clear hb); (try clear hb2); (try clear hk); (try clear hi); have hcz12_0 := cz5 BK332.out; have hfz12_0 := blk_frozen BK332.out))
    refine bodyPost_ret (results_ct rfl _ _ gb332 33 #[.int .i64 t334, .int .i64 t335, .int .i64 t336, .int .i64 t337, .int .i64 t338] (0, 0) _ rfl (bkt BK332.out) Try.underlying33 rfl (by kernel_rfl)) rfl ?_
    exact bfin (bel HB.out)
  · rw [if_neg c3] at H
    have c3b0 : (t333 == 0) = false := beq_eq_false_iff_ne.mpr c3
    have c3b1 : (t333 != 0) = true := bne_iff_ne.mpr c3
    simp only [Option.some.injEq, Prod.mk.injEq] at H
    obtain ⟨rfl, rfl, rfl, rfl, rfl, rfl⟩ := H
    go_enter Try.func40, Try.ntmps40
    go_wp2_with (first | ((with_reducible refine gate_dst (N := 1) rfl ?_); refine bxe (cs := #[.int .i64 a0_0, .int .i64 a0_1, .int .i64 a0_2, .int .i64 a0_3, .int .i64 a0_4]) (t := 33) ?_; intro gb331 hg w13 hbox hb; have BK331 := Aside0.mk (hbox); have GW331 := Aside0.mk (bge hg HB.out); have GE331 := Aside0.mk (bge hg HB.out); replace HB := Aside0.mk (bst HB.out hb); clear hb hbox hg) | ((with_reducible refine gate_dst (N := 2) rfl ?_); refine bxe (cs := #[.int .i64 0, .int .i64 0, .int .i64 0, .int .i64 0, .int .i64 0]) (t := 33) ?_; intro gb332 hg w14 hbox hb; have BK332 := Aside0.mk (hbox); have GW332 := Aside0.mk (bge hg HB.out); have GE332 := Aside0.mk (bge hg HB.out); have NB331_332 := Aside0.mk ((bkl hg BK331.out)); have NB332_331 := Aside0.mk ((bkg hg BK331.out)); replace BK331 := Aside0.mk (bkb BK331.out hb); replace HB := Aside0.mk (bst HB.out hb); clear hb hbox hg; have hnb15 := NB331_332.out; have hnc15 := NB332_331.out; have hcz16_0 := cz5 BK331.out; have hfz16_0 := blk_frozen BK331.out) | ((with_reducible refine gate_callee (f := 45) rfl ?_); refine gsl (some 6) Try.func45 #[.agg #[.int .i64 a0_0, .int .i64 a0_1, .int .i64 a0_2, .int .i64 a0_3, .int .i64 a0_4]] ?_; (with_reducible refine (drive_Check.calls k a0_0 a0_1 a0_2 a0_3 a0_4 t333 _ A2.out).mono ?_); rintro e w17 ⟨rfl, hb⟩; refine ⟨_, rfl, ?_⟩; replace BK331 := Aside0.mk (bkb BK331.out hb); replace BK332 := Aside0.mk (bkb BK332.out hb); replace HB := Aside0.mk (bst HB.out hb); (try clear hb); (try clear hb2); (try clear hk); (try clear hi); have hcz18_0 := cz5 BK332.out; have hfz18_0 := blk_frozen BK332.out))
    refine bodyPost_ret (results_ct rfl _ _ gb332 33 #[.int .i64 0, .int .i64 0, .int .i64 0, .int .i64 0, .int .i64 0] (0, 0) _ rfl (bkt BK332.out) Try.underlying33 rfl (by kernel_rfl)) rfl ?_
    exact bfin (bel HB.out)

end Go.Proofs.Ytckaofgkepcibaa.P
