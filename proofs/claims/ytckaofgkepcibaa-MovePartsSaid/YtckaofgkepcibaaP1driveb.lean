-- Printed by wip/myprint.py of this repo (over the kit's printer). Not trusted: Lean checks it.
import Derived.Test.YtckaofgkepcibaaP0
import Derived.Test.YtckaofgkepcibaaP0drivea
import Derived.Test.YtckaofgkepcibaaP1drivea
namespace Go.Proofs.Ytckaofgkepcibaa.P
open Go.RowKit Go.Proofs.YtckaofgkepcibaaW.PrintWords Go.Proofs.YtckaofgkepcibaaW.PrintLast Go.Proofs.YtckaofgkepcibaaW.PrintMore
attribute [local go_sem] cell_same1 cell_some1
attribute [local go_sem] max2_int min2_int max_two min_two max_three min_three max_four min_four   -- for this text's walks alone
set_option linter.unusedVariables false
set_option linter.unusedSimpArgs false

/-! ### drive_Step: function 49 -/
def drive_Step.f (k : Nat) (a0_0 : Int) (a0_1 : Int) (a0_2 : Int) (a0_3 : Int) (a0_4 : Int) (a1 : Int) (a2 : Int) : Option (Int × Int × Int × Int × Int × Bool × Int) := (drive_rule_checked.f k a1 a2 a0_0 a0_1 a0_2 a0_3 a0_4 0).bind fun t183 => (if t183 = 0 then ((drive_rule_tick.f k a1 a2 a0_0 a0_1 a0_2 a0_3 a0_4).bind fun bt184 => (some (bt184.1, bt184.2.1, bt184.2.2.1, bt184.2.2.2.1, bt184.2.2.2.2.1, bt184.2.2.2.2.2, 0))) else (some (0, 0, 0, 0, 0, false, t183)))
theorem drive_Step.mono : ∀ a0 a1 a2 a3 a4 a5 a6 k, LeO (drive_Step.f k a0 a1 a2 a3 a4 a5 a6) (drive_Step.f (k + 1) a0 a1 a2 a3 a4 a5 a6) := by
  intro a0 a1 a2 a3 a4 a5 a6 k
  unfold drive_Step.f
  repeat' first
      | (with_reducible exact drive_rule_checked.mono _ _ _ _ _ _ _ _ _)
      | (with_reducible exact drive_rule_tick.mono _ _ _ _ _ _ _ _)
      | (with_reducible exact LeO.refl _)
      | (with_reducible exact LeO.none _)
      | (with_reducible refine LeO.ite ?_ ?_)
      | (with_reducible refine LeO.bind ?_ (fun _ => ?_))
      | exact drive_rule_checked.mono _ _ _ _ _ _ _ _ _
      | exact drive_rule_tick.mono _ _ _ _ _ _ _ _
      | exact LeO.none _
      | refine LeO.ite ?_ ?_
      | refine LeO.bind ?_ (fun _ => ?_)
set_option maxHeartbeats 8000000 in
set_option maxRecDepth 100000 in
theorem drive_Step.calls (k : Nat) (a0_0 : Int) (a0_1 : Int) (a0_2 : Int) (a0_3 : Int) (a0_4 : Int) (a1 : Int) (a2 : Int) (r1 : Int) (r2 : Int) (r3 : Int) (r4 : Int) (r5 : Int) (r6 : Bool) (r7 : Int) (w : World) (h : drive_Step.f k a0_0 a0_1 a0_2 a0_3 a0_4 a1 a2 = some (r1, r2, r3, r4, r5, r6, r7)) :
    Calls Try.prog 49 #[.agg #[.int .i64 a0_0, .int .i64 a0_1, .int .i64 a0_2, .int .i64 a0_3, .int .i64 a0_4], .int .i64 a1, .int .i64 a2] w fun e w' => e = .returned (.tuple #[.agg #[.int .i64 r1, .int .i64 r2, .int .i64 r3, .int .i64 r4, .int .i64 r5], .bool r6, .int .i64 r7]) ∧ Below w.heap.size w w' := by
  have hu33 := Try.underlying33
  have hu85 := Try.underlying85
  have HB := Aside0.mk (Below.refl w.heap.size w)
  have H : ((drive_rule_checked.f k a1 a2 a0_0 a0_1 a0_2 a0_3 a0_4 0).bind fun t183 => (if t183 = 0 then ((drive_rule_tick.f k a1 a2 a0_0 a0_1 a0_2 a0_3 a0_4).bind fun bt184 => (some (bt184.1, bt184.2.1, bt184.2.2.1, bt184.2.2.2.1, bt184.2.2.2.2.1, bt184.2.2.2.2.2, 0))) else (some (0, 0, 0, 0, 0, false, t183)))) = some (r1, r2, r3, r4, r5, r6, r7) := h
  clear h
  replace H := Option.bind_eq_some_iff.mp H
  obtain ⟨t183, A40, H⟩ := H
  replace H : (if t183 = 0 then ((drive_rule_tick.f k a1 a2 a0_0 a0_1 a0_2 a0_3 a0_4).bind fun bt184 => (some (bt184.1, bt184.2.1, bt184.2.2.1, bt184.2.2.2.1, bt184.2.2.2.2.1, bt184.2.2.2.2.2, 0))) else (some (0, 0, 0, 0, 0, false, t183))) = some (r1, r2, r3, r4, r5, r6, r7) := H
  have A4 := Aside0.mk A40
  clear A40
  by_cases c5 : t183 = 0
  · rw [if_pos c5] at H
    have c5b0 : (t183 == 0) = true := beq_iff_eq.mpr c5
    have c5b1 : (t183 != 0) = false := bne_eq_false_iff_eq.mpr c5
    clear c5
    replace H := Option.bind_eq_some_iff.mp H
    obtain ⟨⟨t184, t185, t186, t187, t188, t189⟩, A60, H⟩ := H
    replace H : (some (t184, t185, t186, t187, t188, t189, 0)) = some (r1, r2, r3, r4, r5, r6, r7) := H
    have A6 := Aside0.mk A60
    clear A60
    simp only [Option.some.injEq, Prod.mk.injEq] at H
    obtain ⟨rfl, rfl, rfl, rfl, rfl, rfl, rfl⟩ := H
    go_enter Try.func49, Try.ntmps49
    go_wp2_with (first | ((with_reducible refine gate_dst (N := 3) rfl ?_); refine bxe (cs := #[.int .i64 a0_0, .int .i64 a0_1, .int .i64 a0_2, .int .i64 a0_3, .int .i64 a0_4]) (t := 33) ?_; intro gb180 hg w7 hbox hb; have BK180 := Aside0.mk (hbox); have GW180 := Aside0.mk (bge hg HB.out); have GE180 := Aside0.mk (bge hg HB.out); replace HB := Aside0.mk (bst HB.out hb); clear hb hbox hg) | ((with_reducible refine gate_dst (N := 6) rfl ?_); refine bxe (cs := #[.int .i64 0, .int .i64 0, .int .i64 0, .int .i64 0, .int .i64 0]) (t := 33) ?_; intro gb181 hg w8 hbox hb; have BK181 := Aside0.mk (hbox); have GW181 := Aside0.mk (bge hg HB.out); have GE181 := Aside0.mk (bge hg HB.out); have NB180_181 := Aside0.mk ((bkl hg BK180.out)); have NB181_180 := Aside0.mk ((bkg hg BK180.out)); replace BK180 := Aside0.mk (bkb BK180.out hb); replace HB := Aside0.mk (bst HB.out hb); clear hb hbox hg) | ((with_reducible refine gate_dst (N := 9) rfl ?_); refine bxe (cs := #[.int .i64 0, .int .i64 0]) (t := 85) ?_; intro gb182 hg w9 hbox hb; have BK182 := Aside0.mk (hbox); have GW182 := Aside0.mk (bge hg HB.out); have GE182 := Aside0.mk (bge hg HB.out); have NB180_182 := Aside0.mk ((bkl hg BK180.out)); have NB182_180 := Aside0.mk ((bkg hg BK180.out)); have NB181_182 := Aside0.mk ((bkl hg BK181.out)); have NB182_181 := Aside0.mk ((bkg hg BK181.out)); replace BK180 := Aside0.mk (bkb BK180.out hb); replace BK181 := Aside0.mk (bkb BK181.out hb); replace HB := Aside0.mk (bst HB.out hb); clear hb hbox hg; have hnb10 := NB182_180.out; have hnc10 := NB180_182.out; have hnb11 := NB182_181.out; have hnc11 := NB181_182.out; have hcz12_0 := cz2 BK182.out; have hfz12_0 := blk_frozen BK182.out; have hnb13 := NB180_181.out; have hnc13 := NB181_180.out; have hcz14_0 := cz5 BK180.out; have hfz14_0 := blk_frozen BK180.out) | ((with_reducible refine gate_callee (f := 50) rfl ?_); refine gsl (some 16) Try.func50 #[.agg #[.int .i64 a1, .int .i64 a2], .agg #[.int .i64 a0_0, .int .i64 a0_1, .int .i64 a0_2, .int .i64 a0_3, .int .i64 a0_4], .int .i64 0] ?_; (with_reducible refine (drive_rule_checked.calls k a1 a2 a0_0 a0_1 a0_2 a0_3 a0_4 0 t183 _ A4.out).mono ?_); rintro e w15 ⟨rfl, hb⟩; refine ⟨_, rfl, ?_⟩; replace BK180 := Aside0.mk (bkb BK180.out hb); replace BK181 := Aside0.mk (bkb BK181.out hb); replace BK182 := Aside0.mk (blk_below (g := gb182) (o := .cells #[.int .i64 a1, .int .i64 a2] 85 (0, 0)) (bkt BK182.out) hb); replace HB := Aside0.mk (bst HB.out hb); (try clear hb); (try clear hb2); (try clear hk); (try clear hi); have hcz16_0 := cz2 BK182.out; have hfz16_0 := blk_frozen BK182.out; have hcz17_0 := cz5 BK180.out; have hfz17_0 := blk_frozen BK180.out) | ((with_reducible refine gate_callee (f := 58) rfl ?_); refine gsl (some 24) Try.func58 #[.agg #[.int .i64 a1, .int .i64 a2], .agg #[.int .i64 a0_0, .int .i64 a0_1, .int .i64 a0_2, .int .i64 a0_3, .int .i64 a0_4]] ?_; (with_reducible refine (drive_rule_tick.calls k a1 a2 a0_0 a0_1 a0_2 a0_3 a0_4 t184 t185 t186 t187 t188 t189 _ A6.out).mono ?_); rintro e w18 ⟨rfl, hb⟩; refine ⟨_, rfl, ?_⟩; replace BK180 := Aside0.mk (bkb BK180.out hb); replace BK181 := Aside0.mk (bkb BK181.out hb); replace BK182 := Aside0.mk (bkb BK182.out hb); replace HB := Aside0.mk (bst HB.out hb); (try clear hb); (try clear hb2); (try clear hk); (try clear hi); have hcz19_0 := cz5 BK181.out; have hfz19_0 := blk_frozen BK181.out))
    refine bodyPost_ret (results_ctt rfl _ _ gb181 33 #[.int .i64 t184, .int .i64 t185, .int .i64 t186, .int .i64 t187, .int .i64 t188] (0, 0) _ rfl (bkt BK181.out) Try.underlying33 rfl (by kernel_rfl)) rfl ?_
    exact bfin (bel HB.out)
  · rw [if_neg c5] at H
    have c5b0 : (t183 == 0) = false := beq_eq_false_iff_ne.mpr c5
    have c5b1 : (t183 != 0) = true := bne_iff_ne.mpr c5
    simp only [Option.some.injEq, Prod.mk.injEq] at H
    obtain ⟨rfl, rfl, rfl, rfl, rfl, rfl, rfl⟩ := H
    go_enter Try.func49, Try.ntmps49
    go_wp2_with (first | ((with_reducible refine gate_dst (N := 3) rfl ?_); refine bxe (cs := #[.int .i64 a0_0, .int .i64 a0_1, .int .i64 a0_2, .int .i64 a0_3, .int .i64 a0_4]) (t := 33) ?_; intro gb180 hg w20 hbox hb; have BK180 := Aside0.mk (hbox); have GW180 := Aside0.mk (bge hg HB.out); have GE180 := Aside0.mk (bge hg HB.out); replace HB := Aside0.mk (bst HB.out hb); clear hb hbox hg) | ((with_reducible refine gate_dst (N := 6) rfl ?_); refine bxe (cs := #[.int .i64 0, .int .i64 0, .int .i64 0, .int .i64 0, .int .i64 0]) (t := 33) ?_; intro gb181 hg w21 hbox hb; have BK181 := Aside0.mk (hbox); have GW181 := Aside0.mk (bge hg HB.out); have GE181 := Aside0.mk (bge hg HB.out); have NB180_181 := Aside0.mk ((bkl hg BK180.out)); have NB181_180 := Aside0.mk ((bkg hg BK180.out)); replace BK180 := Aside0.mk (bkb BK180.out hb); replace HB := Aside0.mk (bst HB.out hb); clear hb hbox hg) | ((with_reducible refine gate_dst (N := 9) rfl ?_); refine bxe (cs := #[.int .i64 0, .int .i64 0]) (t := 85) ?_; intro gb182 hg w22 hbox hb; have BK182 := Aside0.mk (hbox); have GW182 := Aside0.mk (bge hg HB.out); have GE182 := Aside0.mk (bge hg HB.out); have NB180_182 := Aside0.mk ((bkl hg BK180.out)); have NB182_180 := Aside0.mk ((bkg hg BK180.out)); have NB181_182 := Aside0.mk ((bkl hg BK181.out)); have NB182_181 := Aside0.mk ((bkg hg BK181.out)); replace BK180 := Aside0.mk (bkb BK180.out hb); replace BK181 := Aside0.mk (bkb BK181.out hb); replace HB := Aside0.mk (bst HB.out hb); clear hb hbox hg; have hnb23 := NB182_180.out; have hnc23 := NB180_182.out; have hnb24 := NB182_181.out; have hnc24 := NB181_182.out; have hcz25_0 := cz2 BK182.out; have hfz25_0 := blk_frozen BK182.out; have hnb26 := NB180_181.out; have hnc26 := NB181_180.out; have hcz27_0 := cz5 BK180.out; have hfz27_0 := blk_frozen BK180.out) | ((with_reducible refine gate_callee (f := 50) rfl ?_); refine gsl (some 16) Try.func50 #[.agg #[.int .i64 a1, .int .i64 a2], .agg #[.int .i64 a0_0, .int .i64 a0_1, .int .i64 a0_2, .int .i64 a0_3, .int .i64 a0_4], .int .i64 0] ?_; (with_reducible refine (drive_rule_checked.calls k a1 a2 a0_0 a0_1 a0_2 a0_3 a0_4 0 t183 _ A4.out).mono ?_); rintro e w28 ⟨rfl, hb⟩; refine ⟨_, rfl, ?_⟩; replace BK180 := Aside0.mk (bkb BK180.out hb); replace BK181 := Aside0.mk (bkb BK181.out hb); replace BK182 := Aside0.mk (blk_below (g := gb182) (o := .cells #[.int .i64 a1, .int .i64 a2] 85 (0, 0)) (bkt BK182.out) hb); replace HB := Aside0.mk (bst HB.out hb); (try clear hb); (try clear hb2); (try clear hk); (try clear hi); have hcz29_0 := cz5 BK181.out; have hfz29_0 := blk_frozen BK181.out))
    refine bodyPost_ret (results_ctt rfl _ _ gb181 33 #[.int .i64 0, .int .i64 0, .int .i64 0, .int .i64 0, .int .i64 0] (0, 0) _ rfl (bkt BK181.out) Try.underlying33 rfl (by kernel_rfl)) rfl ?_
    exact bfin (bel HB.out)

end Go.Proofs.Ytckaofgkepcibaa.P
