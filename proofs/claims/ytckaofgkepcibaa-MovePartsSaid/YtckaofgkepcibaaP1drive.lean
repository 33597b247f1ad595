-- Printed by wip/myprint.py of this repo (over the kit's printer). Not trusted: Lean checks it.
import Derived.Test.YtckaofgkepcibaaP0
import Derived.Test.YtckaofgkepcibaaNa
import Derived.Test.YtckaofgkepcibaaP0drivea
namespace Go.Proofs.Ytckaofgkepcibaa.P
open Go.RowKit Go.Proofs.YtckaofgkepcibaaW.PrintWords Go.Proofs.YtckaofgkepcibaaW.PrintLast Go.Proofs.YtckaofgkepcibaaW.PrintMore
attribute [local go_sem] cell_same1 cell_some1
attribute [local go_sem] max2_int min2_int max_two min_two max_three min_three max_four min_four   -- for this text's walks alone
set_option linter.unusedVariables false
set_option linter.unusedSimpArgs false

/-! ### drive_Needs: function 39 -/
def drive_Needs.f (k : Nat) (a0_0 : Int) (a0_1 : Int) (a0_2 : Int) (a0_3 : Int) (a0_4 : Int) (a1 : Int) (a2 : Int) : Option (Int × Int) := (drive_rule_checked.f k a1 a2 a0_0 a0_1 a0_2 a0_3 a0_4 0).bind fun t133 => (if t133 = 0 then ((drive_rule_needs.f a1 a2 a0_0 a0_1 a0_2 a0_3 a0_4).bind fun t134 => (some (t134, 0))) else (some (0, t133)))
theorem drive_Needs.mono : ∀ a0 a1 a2 a3 a4 a5 a6 k, LeO (drive_Needs.f k a0 a1 a2 a3 a4 a5 a6) (drive_Needs.f (k + 1) a0 a1 a2 a3 a4 a5 a6) := by
  intro a0 a1 a2 a3 a4 a5 a6 k
  unfold drive_Needs.f
  repeat' first
      | (with_reducible exact drive_rule_checked.mono _ _ _ _ _ _ _ _ _)
      | (with_reducible exact LeO.refl _)
      | (with_reducible exact LeO.none _)
      | (with_reducible refine LeO.ite ?_ ?_)
      | (with_reducible refine LeO.bind ?_ (fun _ => ?_))
      | exact drive_rule_checked.mono _ _ _ _ _ _ _ _ _
      | exact LeO.none _
      | refine LeO.ite ?_ ?_
      | refine LeO.bind ?_ (fun _ => ?_)
set_option maxHeartbeats 8000000 in
set_option maxRecDepth 100000 in
theorem drive_Needs.calls (k : Nat) (a0_0 : Int) (a0_1 : Int) (a0_2 : Int) (a0_3 : Int) (a0_4 : Int) (a1 : Int) (a2 : Int) (r1 : Int) (r2 : Int) (w : World) (h : drive_Needs.f k a0_0 a0_1 a0_2 a0_3 a0_4 a1 a2 = some (r1, r2)) :
    Calls Try.prog 39 #[.agg #[.int .i64 a0_0, .int .i64 a0_1, .int .i64 a0_2, .int .i64 a0_3, .int .i64 a0_4], .int .i64 a1, .int .i64 a2] w fun e w' => e = .returned (.tuple #[.int .i64 r1, .int .i64 r2]) ∧ Below w.heap.size w w' := by
  have hu33 := Try.underlying33
  have hu85 := Try.underlying85
  have HB := Aside0.mk (Below.refl w.heap.size w)
  have H : ((drive_rule_checked.f k a1 a2 a0_0 a0_1 a0_2 a0_3 a0_4 0).bind fun t133 => (if t133 = 0 then ((drive_rule_needs.f a1 a2 a0_0 a0_1 a0_2 a0_3 a0_4).bind fun t134 => (some (t134, 0))) else (some (0, t133)))) = some (r1, r2) := h
  clear h
  replace H := Option.bind_eq_some_iff.mp H
  obtain ⟨t133, A40, H⟩ := H
  replace H : (if t133 = 0 then ((drive_rule_needs.f a1 a2 a0_0 a0_1 a0_2 a0_3 a0_4).bind fun t134 => (some (t134, 0))) else (some (0, t133))) = some (r1, r2) := H
  have A4 := Aside0.mk A40
  clear A40
  by_cases c5 : t133 = 0
  · rw [if_pos c5] at H
    have c5b0 : (t133 == 0) = true := beq_iff_eq.mpr c5
    have c5b1 : (t133 != 0) = false := bne_eq_false_iff_eq.mpr c5
    clear c5
    replace H := Option.bind_eq_some_iff.mp H
    obtain ⟨t134, A60, H⟩ := H
    replace H : (some (t134, 0)) = some (r1, r2) := H
    have A6 := Aside0.mk A60
    clear A60
    simp only [Option.some.injEq, Prod.mk.injEq] at H
    obtain ⟨rfl, rfl⟩ := H
    go_enter Try.func39, Try.ntmps39
    go_wp2_with (first | ((with_reducible refine gate_dst (N := 3) rfl ?_); refine bxe (cs := #[.int .i64 a0_0, .int .i64 a0_1, .int .i64 a0_2, .int .i64 a0_3, .int .i64 a0_4]) (t := 33) ?_; intro gb131 hg w7 hbox hb; have BK131 := Aside0.mk (hbox); have GW131 := Aside0.mk (bge hg HB.out); have GE131 := Aside0.mk (bge hg HB.out); replace HB := Aside0.mk (bst HB.out hb); clear hb hbox hg) | ((with_reducible refine gate_dst (N := 8) rfl ?_); refine bxe (cs := #[.int .i64 0, .int .i64 0]) (t := 85) ?_; intro gb132 hg w8 hbox hb; have BK132 := Aside0.mk (hbox); have GW132 := Aside0.mk (bge hg HB.out); have GE132 := Aside0.mk (bge hg HB.out); have NB131_132 := Aside0.mk ((bkl hg BK131.out)); have NB132_131 := Aside0.mk ((bkg hg BK131.out)); replace BK131 := Aside0.mk (bkb BK131.out hb); replace HB := Aside0.mk (bst HB.out hb); clear hb hbox hg; have hnb9 := NB132_131.out; have hnc9 := NB131_132.out; have hcz10_0 := cz2 BK132.out; have hfz10_0 := blk_frozen BK132.out; have hcz11_0 := cz5 BK131.out; have hfz11_0 := blk_frozen BK131.out) | ((with_reducible refine gate_callee (f := 50) rfl ?_); refine gsl (some 15) Try.func50 #[.agg #[.int .i64 a1, .int .i64 a2], .agg #[.int .i64 a0_0, .int .i64 a0_1, .int .i64 a0_2, .int .i64 a0_3, .int .i64 a0_4], .int .i64 0] ?_; (with_reducible refine (drive_rule_checked.calls k a1 a2 a0_0 a0_1 a0_2 a0_3 a0_4 0 t133 _ A4.out).mono ?_); rintro e w12 ⟨rfl, hb⟩; refine ⟨_, rfl, ?_⟩; replace BK131 := Aside0.mk (bkb BK131.out hb); replace BK132 := Aside0.mk (blk_below (g := gb132) (o := .cells #[.int .i64 a1, .int .i64 a2] 85 (0, 0)) (bkt BK132.out) hb); replace HB := Aside0.mk (bst HB.out hb); (try clear hb); (try clear hb2); (try clear hk); (try clear hi); have hcz13_0 := cz2 BK132.out; have hfz13_0 := blk_frozen BK132.out; have hcz14_0 := cz5 BK131.out; have hfz14_0 := blk_frozen BK131.out) | ((with_reducible refine gate_callee (f := 51) rfl ?_); refine gsl (some 21) Try.func51 #[.agg #[.int .i64 a1, .int .i64 a2], .agg #[.int .i64 a0_0, .int .i64 a0_1, .int .i64 a0_2, .int .i64 a0_3, .int .i64 a0_4]] ?_; (with_reducible refine (drive_rule_needs.calls a1 a2 a0_0 a0_1 a0_2 a0_3 a0_4 t134 _ A6.out).mono ?_); rintro e w15 ⟨rfl, hb⟩; refine ⟨_, rfl, ?_⟩; replace BK131 := Aside0.mk (bkb BK131.out hb); replace BK132 := Aside0.mk (bkb BK132.out hb); replace HB := Aside0.mk (bst HB.out hb); (try clear hb); (try clear hb2); (try clear hk); (try clear hi)))
    go_ret2
    exact bfin (bel HB.out)
  · rw [if_neg c5] at H
    have c5b0 : (t133 == 0) = false := beq_eq_false_iff_ne.mpr c5
    have c5b1 : (t133 != 0) = true := bne_iff_ne.mpr c5
    simp only [Option.some.injEq, Prod.mk.injEq] at H
    obtain ⟨rfl, rfl⟩ := H
    go_enter Try.func39, Try.ntmps39
    go_wp2_with (first | ((with_reducible refine gate_dst (N := 3) rfl ?_); refine bxe (cs := #[.int .i64 a0_0, .int .i64 a0_1, .int .i64 a0_2, .int .i64 a0_3, .int .i64 a0_4]) (t := 33) ?_; intro gb131 hg w16 hbox hb; have BK131 := Aside0.mk (hbox); have GW131 := Aside0.mk (bge hg HB.out); have GE131 := Aside0.mk (bge hg HB.out); replace HB := Aside0.mk (bst HB.out hb); clear hb hbox hg) | ((with_reducible refine gate_dst (N := 8) rfl ?_); refine bxe (cs := #[.int .i64 0, .int .i64 0]) (t := 85) ?_; intro gb132 hg w17 hbox hb; have BK132 := Aside0.mk (hbox); have GW132 := Aside0.mk (bge hg HB.out); have GE132 := Aside0.mk (bge hg HB.out); have NB131_132 := Aside0.mk ((bkl hg BK131.out)); have NB132_131 := Aside0.mk ((bkg hg BK131.out)); replace BK131 := Aside0.mk (bkb BK131.out hb); replace HB := Aside0.mk (bst HB.out hb); clear hb hbox hg; have hnb18 := NB132_131.out; have hnc18 := NB131_132.out; have hcz19_0 := cz2 BK132.out; have hfz19_0 := blk_frozen BK132.out; have hcz20_0 := cz5 BK131.out; have hfz20_0 := blk_frozen BK131.out) | ((with_reducible refine gate_callee (f := 50) rfl ?_); refine gsl (some 15) Try.func50 #[.agg #[.int .i64 a1, .int .i64 a2], .agg #[.int .i64 a0_0, .int .i64 a0_1, .int .i64 a0_2, .int .i64 a0_3, .int .i64 a0_4], .int .i64 0] ?_; (with_reducible refine (drive_rule_checked.calls k a1 a2 a0_0 a0_1 a0_2 a0_3 a0_4 0 t133 _ A4.out).mono ?_); rintro e w21 ⟨rfl, hb⟩; refine ⟨_, rfl, ?_⟩; replace BK131 := Aside0.mk (bkb BK131.out hb); replace BK132 := Aside0.mk (blk_below (g := gb132) (o := .cells #[.int .i64 a1, .int .i64 a2] 85 (0, 0)) (bkt BK132.out) hb); replace HB := Aside0.mk (bst HB.out hb); (try clear hb); (try clear hb2); (try clear hk); (try clear hi)))
    go_ret2
    exact bfin (bel HB.out)

end Go.Proofs.Ytckaofgkepcibaa.P
