-- Printed by wip/myprint.py of this repo (over the kit's printer). Not trusted: Lean checks it.
import Derived.Test.YtlkphdcfgaolnaaP0
import Derived.Test.YtlkphdcfgaolnaaP0tipstaffref12
namespace Go.Proofs.Ytlkphdcfgaolnaa.P
open Go.RowKit Go.Proofs.YtlkphdcfgaolnaaW.PrintWords Go.Proofs.YtlkphdcfgaolnaaW.PrintLast Go.Proofs.YtlkphdcfgaolnaaW.PrintMore
attribute [local go_sem] cell_same1 cell_some1
attribute [local go_sem] max2_int min2_int max_two min_two max_three min_three max_four min_four   -- for this text's walks alone
set_option linter.unusedVariables false
set_option linter.unusedSimpArgs false

/-! ### ref_three: function 46 -/
def ref_three.f (k : Nat) (a0_0 : Bool) (a0_1 : Int) (a0_2 : Int) (a1_0 : Bool) (a1_1 : Int) (a1_2 : Int) (a2_0 : Bool) (a2_1 : Int) (a2_2 : Int) : Option (Int) := (ref_Check.f k a0_0 a0_1 a0_2).bind fun t304 => (if t304 = 0 then ((ref_Check.f k a1_0 a1_1 a1_2).bind fun t305 => (if t305 = 0 then ((ref_Check.f k a2_0 a2_1 a2_2).bind fun t306 => (some t306)) else (some t305))) else (some t304))
theorem ref_three.mono : ∀ a0 a1 a2 a3 a4 a5 a6 a7 a8 k, LeO (ref_three.f k a0 a1 a2 a3 a4 a5 a6 a7 a8) (ref_three.f (k + 1) a0 a1 a2 a3 a4 a5 a6 a7 a8) := by
  intro a0 a1 a2 a3 a4 a5 a6 a7 a8 k
  unfold ref_three.f
  repeat' first
      | (with_reducible exact ref_Check.mono _ _ _ _)
      | (with_reducible exact LeO.refl _)
      | (with_reducible exact LeO.none _)
      | (with_reducible refine LeO.ite ?_ ?_)
      | (with_reducible refine LeO.bind ?_ (fun _ => ?_))
      | exact ref_Check.mono _ _ _ _
      | exact LeO.none _
      | refine LeO.ite ?_ ?_
      | refine LeO.bind ?_ (fun _ => ?_)
set_option maxHeartbeats 8000000 in
set_option maxRecDepth 100000 in
theorem ref_three.calls (k : Nat) (a0_0 : Bool) (a0_1 : Int) (a0_2 : Int) (a1_0 : Bool) (a1_1 : Int) (a1_2 : Int) (a2_0 : Bool) (a2_1 : Int) (a2_2 : Int) (r : Int) (w : World) (h : ref_three.f k a0_0 a0_1 a0_2 a1_0 a1_1 a1_2 a2_0 a2_1 a2_2 = some r) :
    Calls Try.prog 46 #[.agg #[.bool a0_0, .int .i64 a0_1, .int .i64 a0_2], .agg #[.bool a1_0, .int .i64 a1_1, .int .i64 a1_2], .agg #[.bool a2_0, .int .i64 a2_1, .int .i64 a2_2]] w fun e w' => e = .returned (.int .i64 r) ∧ Below w.heap.size w w' := by
  have hu23 := Try.underlying23
  have HB := Aside0.mk (Below.refl w.heap.size w)
  have H : ((ref_Check.f k a0_0 a0_1 a0_2).bind fun t304 => (if t304 = 0 then ((ref_Check.f k a1_0 a1_1 a1_2).bind fun t305 => (if t305 = 0 then ((ref_Check.f k a2_0 a2_1 a2_2).bind fun t306 => (some t306)) else (some t305))) else (some t304))) = some r := h
  clear h
  replace H := Option.bind_eq_some_iff.mp H
  obtain ⟨t304, A40, H⟩ := H
  replace H : (if t304 = 0 then ((ref_Check.f k a1_0 a1_1 a1_2).bind fun t305 => (if t305 = 0 then ((ref_Check.f k a2_0 a2_1 a2_2).bind fun t306 => (some t306)) else (some t305))) else (some t304)) = some r := H
  have A4 := Aside0.mk A40
  clear A40
  by_cases c5 : t304 = 0
  · rw [if_pos c5] at H
    have c5b0 : (t304 == 0) = true := beq_iff_eq.mpr c5
    have c5b1 : (t304 != 0) = false := bne_eq_false_iff_eq.mpr c5
    clear c5
    replace H := Option.bind_eq_some_iff.mp H
    obtain ⟨t305, A60, H⟩ := H
    replace H : (if t305 = 0 then ((ref_Check.f k a2_0 a2_1 a2_2).bind fun t306 => (some t306)) else (some t305)) = some r := H
    have A6 := Aside0.mk A60
    clear A60
    by_cases c7 : t305 = 0
    · rw [if_pos c7] at H
      have c7b0 : (t305 == 0) = true := beq_iff_eq.mpr c7
      have c7b1 : (t305 != 0) = false := bne_eq_false_iff_eq.mpr c7
      clear c7
      replace H := Option.bind_eq_some_iff.mp H
      obtain ⟨t306, A80, H⟩ := H
      replace H : (some t306) = some r := H
      have A8 := Aside0.mk A80
      clear A80
      obtain rfl := Option.some.inj H
      go_enter Try.func46, Try.ntmps46
      go_wp2_with (first | ((with_reducible refine gate_dst (N := 3) rfl ?_); refine bxe (cs := #[.bool a0_0, .int .i64 a0_1, .int .i64 a0_2]) (t := 23) ?_; intro gb301 hg w9 hbox hb; have BK301 := Aside0.mk (hbox); have GW301 := Aside0.mk (bge hg HB.out); have GE301 := Aside0.mk (bge hg HB.out); replace HB := Aside0.mk (bst HB.out hb); clear hb hbox hg) | ((with_reducible refine gate_dst (N := 4) rfl ?_); refine bxe (cs := #[.bool a1_0, .int .i64 a1_1, .int .i64 a1_2]) (t := 23) ?_; intro gb302 hg w10 hbox hb; have BK302 := Aside0.mk (hbox); have GW302 := Aside0.mk (bge hg HB.out); have GE302 := Aside0.mk (bge hg HB.out); have NB301_302 := Aside0.mk ((bkl hg BK301.out)); have NB302_301 := Aside0.mk ((bkg hg BK301.out)); replace BK301 := Aside0.mk (bkb BK301.out hb); replace HB := Aside0.mk (bst HB.out hb); clear hb hbox hg) | ((with_reducible refine gate_dst (N := 5) rfl ?_); refine bxe (cs := #[.bool a2_0, .int .i64 a2_1, .int .i64 a2_2]) (t := 23) ?_; intro gb303 hg w11 hbox hb; have BK303 := Aside0.mk (hbox); have GW303 := Aside0.mk (bge hg HB.out); have GE303 := Aside0.mk (bge hg HB.out); have NB301_303 := Aside0.mk ((bkl hg BK301.out)); have NB303_301 := Aside0.mk ((bkg hg BK301.out)); have NB302_303 := Aside0.mk ((bkl hg BK302.out)); have NB303_302 := Aside0.mk ((bkg hg BK302.out)); replace BK301 := Aside0.mk (bkb BK301.out hb); replace BK302 := Aside0.mk (bkb BK302.out hb); replace HB := Aside0.mk (bst HB.out hb); clear hb hbox hg; have hnb12 := NB301_302.out; have hnc12 := NB302_301.out; have hnb13 := NB301_303.out; have hnc13 := NB303_301.out; have hcz14_0 := cz3 BK301.out; have hfz14_0 := blk_frozen BK301.out) | ((with_reducible refine gate_callee (f := 15) rfl ?_); refine gsl (some 9) Try.func15 #[.agg #[.bool a0_0, .int .i64 a0_1, .int .i64 a0_2]] ?_; (with_reducible refine (ref_Check.calls k a0_0 a0_1 a0_2 t304 _ A4.out).mono ?_); rintro e w15 ⟨rfl, hb⟩; refine ⟨_, rfl, ?_⟩; replace BK301 := Aside0.mk (bkb BK301.out hb); replace BK302 := Aside0.mk (bkb BK302.out hb); replace BK303 := Aside0.mk (bkb BK303.out hb); replace HB := Aside0.mk (bst HB.out hb); (try clear hb); (try clear hb2); (try clear hk); (try clear hi); have hnb16 := NB302_303.out; have hnc16 := NB303_302.out; have hcz17_0 := cz3 BK302.out; have hfz17_0 := blk_frozen BK302.out) | ((with_reducible refine gate_callee (f := 15) rfl ?_); refine gsl (some 13) Try.func15 #[.agg #[.bool a1_0, .int .i64 a1_1, .int .i64 a1_2]] ?_; (with_reducible refine (ref_Check.calls k a1_0 a1_1 a1_2 t305 _ A6.out).mono ?_); rintro e w18 ⟨rfl, hb⟩; refine ⟨_, rfl, ?_⟩; replace BK301 := Aside0.mk (bkb BK301.out hb); replace BK302 := Aside0.mk (bkb BK302.out hb); replace BK303 := Aside0.mk (bkb BK303.out hb); replace HB := Aside0.mk (bst HB.out hb); (try clear hb); (try clear hb2); (try clear hk); (try clear hi); have hcz19_0 := cz3 BK303.out; have hfz19_0 := blk_frozen BK303.out) | ((with_reducible refine gate_callee (f := 15) rfl ?_); refine gsl (some 17) Try.func15 #[.agg #[.bool a2_0, .int .i64 a2_1, .int .i64 a2_2]] ?_; (with_reducible refine (ref_Check.calls k a2_0 a2_1 a2_2 t306 _ A8.out).mono ?_); rintro e w20 ⟨rfl, hb⟩; refine ⟨_, rfl, ?_⟩; replace BK301 := Aside0.mk (bkb BK301.out hb); replace BK302 := Aside0.mk (bkb BK302.out hb); replace BK303 := Aside0.mk (bkb BK303.out hb); replace HB := Aside0.mk (bst HB.out hb); (try clear hb); (try clear hb2); (try clear hk); (try clear hi)))
      go_ret
      exact bfin (bel HB.out)
    · rw [if_neg c7] at H
      have c7b0 : (t305 == 0) = false := beq_eq_false_iff_ne.mpr c7
      have c7b1 : (t305 != 0) = true := bne_iff_ne.mpr c7
      obtain rfl := Option.some.inj H
      go_enter Try.func46, Try.ntmps46
      go_wp2_with (first | ((with_reducible refine gate_dst (N := 3) rfl ?_); refine bxe (cs := #[.bool a0_0, .int .i64 a0_1, .int .i64 a0_2]) (t := 23) ?_; intro gb301 hg w21 hbox hb; have BK301 := Aside0.mk (hbox); have GW301 := Aside0.mk (bge hg HB.out); have GE301 := Aside0.mk (bge hg HB.out); replace HB := Aside0.mk (bst HB.out hb); clear hb hbox hg) | ((with_reducible refine gate_dst (N := 4) rfl ?_); refine bxe (cs := #[.bool a1_0, .int .i64 a1_1, .int .i64 a1_2]) (t := 23) ?_; intro gb302 hg w22 hbox hb; have BK302 := Aside0.mk (hbox); have GW302 := Aside0.mk (bge hg HB.out); have GE302 := Aside0.mk (bge hg HB.out); have NB301_302 := Aside0.mk ((bkl hg BK301.out)); have NB302_301 := Aside0.mk ((bkg hg BK301.out)); replace BK301 := Aside0.mk (bkb BK301.out hb); replace HB := Aside0.mk (bst HB.out hb); clear hb hbox hg) | ((with_reducible refine gate_dst (N := 5) rfl ?_); refine bxe (cs := #[.bool a2_0, .int .i64 a2_1, .int .i64 a2_2]) (t := 23) ?_; intro gb303 hg w23 hbox hb; have BK303 := Aside0.mk (hbox); have GW303 := Aside0.mk (bge hg HB.out); have GE303 := Aside0.mk (bge hg HB.out); have NB301_303 := Aside0.mk ((bkl hg BK301.out)); have NB303_301 := Aside0.mk ((bkg hg BK301.out)); have NB302_303 := Aside0.mk ((bkl hg BK302.out)); have NB303_302 := Aside0.mk ((bkg hg BK302.out)); replace BK301 := Aside0.mk (bkb BK301.out hb); replace BK302 := Aside0.mk (bkb BK302.out hb); replace HB := Aside0.mk (bst HB.out hb); clear hb hbox hg; have hnb24 := NB301_302.out; have hnc24 := NB302_301.out; have hnb25 := NB301_303.out; have hnc25 := NB303_301.out; have hcz26_0 := cz3 BK301.out; have hfz26_0 := blk_frozen BK301.out) | ((with_reducible refine gate_callee (f := 15) rfl ?_); refine gsl (some 9) Try.func15 #[.agg #[.bool a0_0, .int .i64 a0_1, .int .i64 a0_2]] ?_; (with_reducible refine (ref_Check.calls k a0_0 a0_1 a0_2 t304 _ A4.out).mono ?_); rintro e w27 ⟨rfl, hb⟩; refine ⟨_, rfl, ?_⟩; replace BK301 := Aside0.mk (bkb BK301.out hb); replace BK302 := Aside0.mk (bkb BK302.out hb); replace BK303 := Aside0.mk (bkb BK303.out hb); replace HB := Aside0.mk (bst HB.out hb); (try clear hb); (try clear hb2); (try clear hk); (try clear hi); have hnb28 := NB302_303.out; have hnc28 := NB303_302.out; have hcz29_0 := cz3 BK302.out; have hfz29_0 := blk_frozen BK302.out) | ((with_reducible refine gate_callee (f := 15) rfl ?_); refine gsl (some 13) Try.func15 #[.agg #[.bool a1_0, .int .i64 a1_1, .int .i64 a1_2]] ?_; (with_reducible refine (ref_Check.calls k a1_0 a1_1 a1_2 t305 _ A6.out).mono ?_); rintro e w30 ⟨rfl, hb⟩; refine ⟨_, rfl, ?_⟩; replace BK301 := Aside0.mk (bkb BK301.out hb); replace BK302 := Aside0.mk (bkb BK302.out hb); replace BK303 := Aside0.mk (bkb BK303.out hb); replace HB := Aside0.mk (bst HB.out hb); (try clear hb); (try clear hb2); (try clear hk); (try clear hi)))
      go_ret
      exact bfin (bel HB.out)
  · rw [if_neg c5] at H
    have c5b0 : (t304 == 0) = false := beq_eq_false_iff_ne.mpr c5
    have c5b1 : (t304 != 0) = true := bne_iff_ne.mpr c5
    obtain rfl := Option.some.inj H
    go_enter Try.func46, Try.ntmps46
    go_wp2_with (first | ((with_reducible refine gate_dst (N := 3) rfl ?_); refine bxe (cs := #[.bool a0_0, .int .i64 a0_1, .int .i64 a0_2]) (t := 23) ?_; intro gb301 hg w31 hbox hb; have BK301 := Aside0.mk (hbox); have GW301 := Aside0.mk (bge hg HB.out); have GE301 := Aside0.mk (bge hg HB.out); replace HB := Aside0.mk (bst HB.out hb); clear hb hbox hg) | ((with_reducible refine gate_dst (N := 4) rfl ?_); refine bxe (cs := #[.bool a1_0, .int .i64 a1_1, .int .i64 a1_2]) (t := 23) ?_; intro gb302 hg w32 hbox hb; have BK302 := Aside0.mk (hbox); have GW302 := Aside0.mk (bge hg HB.out); have GE302 := Aside0.mk (bge hg HB.out); have NB301_302 := Aside0.mk ((bkl hg BK301.out)); have NB302_301 := Aside0.mk ((bkg hg BK301.out)); replace BK301 := Aside0.mk (bkb BK301.out hb); replace HB := Aside0.mk (bst HB.out hb); clear hb hbox hg) | ((with_reducible refine gate_dst (N := 5) rfl ?_); refine bxe (cs := #[.bool a2_0, .int .i64 a2_1, .int .i64 a2_2]) (t := 23) ?_; intro gb303 hg w33 hbox hb; have BK303 := Aside0.mk (hbox); have GW303 := Aside0.mk (bge hg HB.out); have GE303 := Aside0.mk (bge hg HB.out); have NB301_303 := Aside0.mk ((bkl hg BK301.out)); have NB303_301 := Aside0.mk ((bkg hg BK301.out)); have NB302_303 := Aside0.mk ((bkl hg BK302.out)); have NB303_302 := Aside0.mk ((bkg hg BK302.out)); replace BK301 := Aside0.mk (bkb BK301.out hb); replace BK302 := Aside0.mk (bkb BK302.out hb); replace HB := Aside0.mk (bst HB.out hb); clear hb hbox hg; have hnb34 := NB301_302.out; have hnc34 := NB302_301.out; have hnb35 := NB301_303.out; have hnc35 := NB303_301.out; have hcz36_0 := cz3 BK301.out; have hfz36_0 := blk_frozen BK301.out) | ((with_reducible refine gate_callee (f := 15) rfl ?_); refine gsl (some 9) Try.func15 #[.agg #[.bool a0_0, .int .i64 a0_1, .int .i64 a0_2]] ?_; (with_reducible refine (ref_Check.calls k a0_0 a0_1 a0_2 t304 _ A4.out).mono ?_); rintro e w37 ⟨rfl, hb⟩; refine ⟨_, rfl, ?_⟩; replace BK301 := Aside0.mk (bkb BK301.out hb); replace BK302 := Aside0.mk (bkb BK302.out hb); replace BK303 := Aside0.mk (bkb BK303.out hb); replace HB := Aside0.mk (bst HB.out hb); (try clear hb); (try clear hb2); (try clear hk); (try clear hi)))
    go_ret
    exact bfin (bel HB.out)

end Go.Proofs.Ytlkphdcfgaolnaa.P
