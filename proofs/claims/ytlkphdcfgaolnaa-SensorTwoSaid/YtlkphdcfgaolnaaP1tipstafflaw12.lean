-- Printed by wip/myprint.py of this repo (over the kit's printer). Not trusted: Lean checks it.
import Derived.Test.YtlkphdcfgaolnaaP0
import Derived.Test.YtlkphdcfgaolnaaE23
import Derived.Test.YtlkphdcfgaolnaaOa
import Derived.Test.YtlkphdcfgaolnaaVa
namespace Go.Proofs.Ytlkphdcfgaolnaa.P
open Go.RowKit Go.Proofs.YtlkphdcfgaolnaaW.PrintWords Go.Proofs.YtlkphdcfgaolnaaW.PrintLast Go.Proofs.YtlkphdcfgaolnaaW.PrintMore
attribute [local go_sem] cell_same1 cell_some1
attribute [local go_sem] max2_int min2_int max_two min_two max_three min_three max_four min_four   -- for this text's walks alone
set_option linter.unusedVariables false
set_option linter.unusedSimpArgs false

attribute [local go_sem high] eqA23
/-! ### q_votes: function 31 -/
def q_votes.f (a0_0 : Bool) (a0_1 : Int) (a0_2 : Int) (a1_0 : Bool) (a1_1 : Int) (a1_2 : Int) (a2_0 : Bool) (a2_1 : Int) (a2_2 : Int) (a3_0 : Bool) (a3_1 : Int) (a3_2 : Int) (a4 : Int) : Option (Bool) := (sensor_Vote.f a0_0 a0_1 a0_2 a1_0 a1_1 a1_2 a2_0 a2_1 a2_2).bind fun bt182 => ((sensor_Odd.f a0_0 a0_1 a0_2 a1_0 a1_1 a1_2 a2_0 a2_1 a2_2).bind fun bt187 => (if bt182.2.2.2 = 0 then (if (bt182.1 == a3_0 && (bt182.2.1 == a3_1 && (bt182.2.2.1 == a3_2))) = true then (if bt187.2 = 0 then (some (bt187.1 == a4)) else (none)) else (none)) else (none)))
set_option maxHeartbeats 8000000 in
set_option maxRecDepth 100000 in
theorem q_votes.calls (a0_0 : Bool) (a0_1 : Int) (a0_2 : Int) (a1_0 : Bool) (a1_1 : Int) (a1_2 : Int) (a2_0 : Bool) (a2_1 : Int) (a2_2 : Int) (a3_0 : Bool) (a3_1 : Int) (a3_2 : Int) (a4 : Int) (r : Bool) (w : World) (h : q_votes.f a0_0 a0_1 a0_2 a1_0 a1_1 a1_2 a2_0 a2_1 a2_2 a3_0 a3_1 a3_2 a4 = some r) :
    Calls Try.prog 31 #[.agg #[.bool a0_0, .int .i64 a0_1, .int .i64 a0_2], .agg #[.bool a1_0, .int .i64 a1_1, .int .i64 a1_2], .agg #[.bool a2_0, .int .i64 a2_1, .int .i64 a2_2], .agg #[.bool a3_0, .int .i64 a3_1, .int .i64 a3_2], .int .i64 a4] w fun e w' => e = .returned (.bool r) ∧ Below w.heap.size w w' := by
  have hu23 := Try.underlying23
  have HB := Aside0.mk (Below.refl w.heap.size w)
  have H : ((sensor_Vote.f a0_0 a0_1 a0_2 a1_0 a1_1 a1_2 a2_0 a2_1 a2_2).bind fun bt182 => ((sensor_Odd.f a0_0 a0_1 a0_2 a1_0 a1_1 a1_2 a2_0 a2_1 a2_2).bind fun bt187 => (if bt182.2.2.2 = 0 then (if (bt182.1 == a3_0 && (bt182.2.1 == a3_1 && (bt182.2.2.1 == a3_2))) = true then (if bt187.2 = 0 then (some (bt187.1 == a4)) else (none)) else (none)) else (none)))) = some r := h
  clear h
  replace H := Option.bind_eq_some_iff.mp H
  obtain ⟨⟨t182, t183, t184, t185⟩, A60, H⟩ := H
  replace H : ((sensor_Odd.f a0_0 a0_1 a0_2 a1_0 a1_1 a1_2 a2_0 a2_1 a2_2).bind fun bt187 => (if t185 = 0 then (if (t182 == a3_0 && (t183 == a3_1 && (t184 == a3_2))) = true then (if bt187.2 = 0 then (some (bt187.1 == a4)) else (none)) else (none)) else (none))) = some r := H
  have A6 := Aside0.mk A60
  clear A60
  replace H := Option.bind_eq_some_iff.mp H
  obtain ⟨⟨t187, t188⟩, A70, H⟩ := H
  replace H : (if t185 = 0 then (if (t182 == a3_0 && (t183 == a3_1 && (t184 == a3_2))) = true then (if t188 = 0 then (some (t187 == a4)) else (none)) else (none)) else (none)) = some r := H
  have A7 := Aside0.mk A70
  clear A70
  by_cases c8 : t185 = 0
  · rw [if_pos c8] at H
    have c8b0 : (t185 == 0) = true := beq_iff_eq.mpr c8
    have c8b1 : (t185 != 0) = false := bne_eq_false_iff_eq.mpr c8
    clear c8
    by_cases c9 : (t182 == a3_0 && (t183 == a3_1 && (t184 == a3_2))) = true
    · rw [if_pos c9] at H
      have c9b0 : (t182 == a3_0 && (t183 == a3_1 && (t184 == a3_2))) = true := c9
      (try (have c9b1 : decide (t182 = a3_0 && (t183 == a3_1 && (t184 == a3_2))) = true := by simpa using c9))
      (try (have c9b2 : (t182 == a3_0 && (t183 == a3_1 && (t184 == a3_2))) = true := by simpa using c9))
      clear c9
      by_cases c10 : t188 = 0
      · rw [if_pos c10] at H
        have c10b0 : (t188 == 0) = true := beq_iff_eq.mpr c10
        have c10b1 : (t188 != 0) = false := bne_eq_false_iff_eq.mpr c10
        clear c10
        obtain rfl := Option.some.inj H
        go_enter Try.func31, Try.ntmps31
        go_wp2_with (first | ((with_reducible refine gate_dst (N := 5) rfl ?_); refine bxe (cs := #[.bool a0_0, .int .i64 a0_1, .int .i64 a0_2]) (t := 23) ?_; intro gb178 hg w11 hbox hb; have BK178 := Aside0.mk (hbox); have GW178 := Aside0.mk (bge hg HB.out); have GE178 := Aside0.mk (bge hg HB.out); replace HB := Aside0.mk (bst HB.out hb); clear hb hbox hg) | ((with_reducible refine gate_dst (N := 6) rfl ?_); refine bxe (cs := #[.bool a1_0, .int .i64 a1_1, .int .i64 a1_2]) (t := 23) ?_; intro gb179 hg w12 hbox hb; have BK179 := Aside0.mk (hbox); have GW179 := Aside0.mk (bge hg HB.out); have GE179 := Aside0.mk (bge hg HB.out); have NB178_179 := Aside0.mk ((bkl hg BK178.out)); have NB179_178 := Aside0.mk ((bkg hg BK178.out)); replace BK178 := Aside0.mk (bkb BK178.out hb); replace HB := Aside0.mk (bst HB.out hb); clear hb hbox hg) | ((with_reducible refine gate_dst (N := 7) rfl ?_); refine bxe (cs := #[.bool a2_0, .int .i64 a2_1, .int .i64 a2_2]) (t := 23) ?_; intro gb180 hg w13 hbox hb; have BK180 := Aside0.mk (hbox); have GW180 := Aside0.mk (bge hg HB.out); have GE180 := Aside0.mk (bge hg HB.out); have NB178_180 := Aside0.mk ((bkl hg BK178.out)); have NB180_178 := Aside0.mk ((bkg hg BK178.out)); have NB179_180 := Aside0.mk ((bkl hg BK179.out)); have NB180_179 := Aside0.mk ((bkg hg BK179.out)); replace BK178 := Aside0.mk (bkb BK178.out hb); replace BK179 := Aside0.mk (bkb BK179.out hb); replace HB := Aside0.mk (bst HB.out hb); clear hb hbox hg) | ((with_reducible refine gate_dst (N := 8) rfl ?_); refine bxe (cs := #[.bool a3_0, .int .i64 a3_1, .int .i64 a3_2]) (t := 23) ?_; intro gb181 hg w14 hbox hb; have BK181 := Aside0.mk (hbox); have GW181 := Aside0.mk (bge hg HB.out); have GE181 := Aside0.mk (bge hg HB.out); have NB178_181 := Aside0.mk ((bkl hg BK178.out)); have NB181_178 := Aside0.mk ((bkg hg BK178.out)); have NB179_181 := Aside0.mk ((bkl hg BK179.out)); have NB181_179 := Aside0.mk ((bkg hg BK179.out)); have NB180_181 := Aside0.mk ((bkl hg BK180.out)); have NB181_180 := Aside0.mk ((bkg hg BK180.out)); replace BK178 := Aside0.mk (bkb BK178.out hb); replace BK179 := Aside0.mk (bkb BK179.out hb); replace BK180 := Aside0.mk (bkb BK180.out hb); replace HB := Aside0.mk (bst HB.out hb); clear hb hbox hg; have hnb15 := NB178_179.out; have hnc15 := NB179_178.out; have hnb16 := NB178_180.out; have hnc16 := NB180_178.out; have hnb17 := NB178_181.out; have hnc17 := NB181_178.out; have hcz18_0 := cz3 BK178.out; have hfz18_0 := blk_frozen BK178.out; have hnb19 := NB179_180.out; have hnc19 := NB180_179.out; have hnb20 := NB179_181.out; have hnc20 := NB181_179.out; have hcz21_0 := cz3 BK179.out; have hfz21_0 := blk_frozen BK179.out; have hnb22 := NB180_181.out; have hnc22 := NB181_180.out; have hcz23_0 := cz3 BK180.out; have hfz23_0 := blk_frozen BK180.out) | ((with_reducible refine gate_callee (f := 17) rfl ?_); refine gsl (some 19) Try.func17 #[.agg #[.bool a0_0, .int .i64 a0_1, .int .i64 a0_2], .agg #[.bool a1_0, .int .i64 a1_1, .int .i64 a1_2], .agg #[.bool a2_0, .int .i64 a2_1, .int .i64 a2_2]] ?_; (with_reducible refine (sensor_Vote.calls a0_0 a0_1 a0_2 a1_0 a1_1 a1_2 a2_0 a2_1 a2_2 t182 t183 t184 t185 _ A6.out).mono ?_); rintro e w24 ⟨rfl, hb⟩; refine ⟨_, rfl, ?_⟩; replace BK178 := Aside0.mk (bkb BK178.out hb); replace BK179 := Aside0.mk (bkb BK179.out hb); replace BK180 := Aside0.mk (bkb BK180.out hb); replace BK181 := Aside0.mk (bkb BK181.out hb); replace HB := Aside0.mk (bst HB.out hb); (try clear hb); (try clear hb2); (try clear hk); (try clear hi)) | ((with_reducible refine gate_dst (N := 11) rfl ?_); refine bxe (cs := #[.bool false, .int .i64 0, .int .i64 0]) (t := 23) ?_; intro gb186 hg w25 hbox hb; have BK186 := Aside0.mk (hbox); have GW186 := Aside0.mk (bge hg HB.out); have GE186 := Aside0.mk (bge hg HB.out); have NB178_186 := Aside0.mk ((bkl hg BK178.out)); have NB186_178 := Aside0.mk ((bkg hg BK178.out)); have NB179_186 := Aside0.mk ((bkl hg BK179.out)); have NB186_179 := Aside0.mk ((bkg hg BK179.out)); have NB180_186 := Aside0.mk ((bkl hg BK180.out)); have NB186_180 := Aside0.mk ((bkg hg BK180.out)); have NB181_186 := Aside0.mk ((bkl hg BK181.out)); have NB186_181 := Aside0.mk ((bkg hg BK181.out)); replace BK178 := Aside0.mk (bkb BK178.out hb); replace BK179 := Aside0.mk (bkb BK179.out hb); replace BK180 := Aside0.mk (bkb BK180.out hb); replace BK181 := Aside0.mk (bkb BK181.out hb); replace HB := Aside0.mk (bst HB.out hb); clear hb hbox hg; have hnb26 := NB186_178.out; have hnc26 := NB178_186.out; have hnb27 := NB186_179.out; have hnc27 := NB179_186.out; have hnb28 := NB186_180.out; have hnc28 := NB180_186.out; have hnb29 := NB186_181.out; have hnc29 := NB181_186.out; have hcz30_0 := cz3 BK186.out; have hfz30_0 := blk_frozen BK186.out; have hcz31_0 := cz3 BK178.out; have hfz31_0 := blk_frozen BK178.out; have hcz32_0 := cz3 BK179.out; have hfz32_0 := blk_frozen BK179.out; have hcz33_0 := cz3 BK180.out; have hfz33_0 := blk_frozen BK180.out) | ((with_reducible refine gate_callee (f := 19) rfl ?_); refine gsl (some 26) Try.func19 #[.agg #[.bool a0_0, .int .i64 a0_1, .int .i64 a0_2], .agg #[.bool a1_0, .int .i64 a1_1, .int .i64 a1_2], .agg #[.bool a2_0, .int .i64 a2_1, .int .i64 a2_2]] ?_; (with_reducible refine (sensor_Odd.calls a0_0 a0_1 a0_2 a1_0 a1_1 a1_2 a2_0 a2_1 a2_2 t187 t188 _ A7.out).mono ?_); rintro e w34 ⟨rfl, hb⟩; refine ⟨_, rfl, ?_⟩; replace BK178 := Aside0.mk (bkb BK178.out hb); replace BK179 := Aside0.mk (bkb BK179.out hb); replace BK180 := Aside0.mk (bkb BK180.out hb); replace BK181 := Aside0.mk (bkb BK181.out hb); replace BK186 := Aside0.mk (blk_below (g := gb186) (o := .cells #[.bool t182, .int .i64 t183, .int .i64 t184] 23 (0, 0)) (bkt BK186.out) hb); replace HB := Aside0.mk (bst HB.out hb); (try clear hb); (try clear hb2); (try clear hk); (try clear hi); have hcz35_0 := cz3 BK186.out; have hfz35_0 := blk_frozen BK186.out; have hcz36_0 := cz3 BK181.out; have hfz36_0 := blk_frozen BK181.out))
        go_ret
        exact bfin (bel HB.out)
      · rw [if_neg c10] at H
        exact absurd H (by simp)
    · rw [if_neg c9] at H
      exact absurd H (by simp)
  · rw [if_neg c8] at H
    exact absurd H (by simp)

end Go.Proofs.Ytlkphdcfgaolnaa.P
