-- Printed by wip/myprint.py of this repo (over the kit's printer). Not trusted: Lean checks it.
import Derived.Test.YtckaofgkepcibaaP0
import Derived.Test.YtckaofgkepcibaaMr
import Derived.Test.YtckaofgkepcibaaP0tipstafflaw15
import Derived.Test.YtckaofgkepcibaaP2move
namespace Go.Proofs.Ytckaofgkepcibaa.P
open Go.RowKit Go.Proofs.YtckaofgkepcibaaW.PrintWords Go.Proofs.YtckaofgkepcibaaW.PrintLast Go.Proofs.YtckaofgkepcibaaW.PrintMore
attribute [local go_sem] cell_same1 cell_some1
attribute [local go_sem] max2_int min2_int max_two min_two max_three min_three max_four min_four   -- for this text's walks alone
set_option linter.unusedVariables false
set_option linter.unusedSimpArgs false

/-! ### q_goes: function 20 -/
def q_goes.f (k : Nat) (a0 : Int) (a1 : Int) (a2 : Int) (a3 : Int) : Option (Int × Int × Int × Int × Int × Int × Int × Int × Bool) := (q_at.f a0).bind fun bt200 => ((move_Begin.f k bt200.1 bt200.2.1 bt200.2.2.1 bt200.2.2.2.1 bt200.2.2.2.2 a1 a2 2 1).bind fun bt205 => (if bt205.2.2.2.2.2.2.2 = 0 then ((move_Run.f bt205.1 bt205.2.1 bt205.2.2.1 bt205.2.2.2.1 bt205.2.2.2.2.1 bt205.2.2.2.2.2.1 bt205.2.2.2.2.2.2.1 2 1 a3).bind fun bt214 => (some (bt214.1, bt214.2.1, bt214.2.2.1, bt214.2.2.2.1, bt214.2.2.2.2.1, bt214.2.2.2.2.2.1, bt214.2.2.2.2.2.2.1, bt214.2.2.2.2.2.2.2.1, (bt214.2.2.2.2.2.2.2.2 == 0)))) else (some (bt205.1, bt205.2.1, bt205.2.2.1, bt205.2.2.2.1, bt205.2.2.2.2.1, bt205.2.2.2.2.2.1, bt205.2.2.2.2.2.2.1, 0, false))))
theorem q_goes.mono : ∀ a0 a1 a2 a3 k, LeO (q_goes.f k a0 a1 a2 a3) (q_goes.f (k + 1) a0 a1 a2 a3) := by
  intro a0 a1 a2 a3 k
  unfold q_goes.f
  repeat' first
      | (with_reducible exact move_Begin.mono _ _ _ _ _ _ _ _ _ _)
      | (with_reducible exact LeO.refl _)
      | (with_reducible exact LeO.none _)
      | (with_reducible refine LeO.ite ?_ ?_)
      | (with_reducible refine LeO.bind ?_ (fun _ => ?_))
      | exact move_Begin.mono _ _ _ _ _ _ _ _ _ _
      | exact LeO.none _
      | refine LeO.ite ?_ ?_
      | refine LeO.bind ?_ (fun _ => ?_)
set_option maxHeartbeats 8000000 in
set_option maxRecDepth 100000 in
theorem q_goes.calls (k : Nat) (a0 : Int) (a1 : Int) (a2 : Int) (a3 : Int) (r1 : Int) (r2 : Int) (r3 : Int) (r4 : Int) (r5 : Int) (r6 : Int) (r7 : Int) (r8 : Int) (r9 : Bool) (w : World) (h : q_goes.f k a0 a1 a2 a3 = some (r1, r2, r3, r4, r5, r6, r7, r8, r9)) :
    Calls Try.prog 20 #[.int .i64 a0, .int .i64 a1, .int .i64 a2, .int .i64 a3] w fun e w' => e = .returned (.tuple #[.agg #[.int .i64 r1, .int .i64 r2, .int .i64 r3, .int .i64 r4, .int .i64 r5, .int .i64 r6, .int .i64 r7], .int .i64 r8, .bool r9]) ∧ Below w.heap.size w w' := by
  have hu35 := Try.underlying35
  have HB := Aside0.mk (Below.refl w.heap.size w)
  have H : ((q_at.f a0).bind fun bt200 => ((move_Begin.f k bt200.1 bt200.2.1 bt200.2.2.1 bt200.2.2.2.1 bt200.2.2.2.2 a1 a2 2 1).bind fun bt205 => (if bt205.2.2.2.2.2.2.2 = 0 then ((move_Run.f bt205.1 bt205.2.1 bt205.2.2.1 bt205.2.2.2.1 bt205.2.2.2.2.1 bt205.2.2.2.2.2.1 bt205.2.2.2.2.2.2.1 2 1 a3).bind fun bt214 => (some (bt214.1, bt214.2.1, bt214.2.2.1, bt214.2.2.2.1, bt214.2.2.2.2.1, bt214.2.2.2.2.2.1, bt214.2.2.2.2.2.2.1, bt214.2.2.2.2.2.2.2.1, (bt214.2.2.2.2.2.2.2.2 == 0)))) else (some (bt205.1, bt205.2.1, bt205.2.2.1, bt205.2.2.2.1, bt205.2.2.2.2.1, bt205.2.2.2.2.2.1, bt205.2.2.2.2.2.2.1, 0, false))))) = some (r1, r2, r3, r4, r5, r6, r7, r8, r9) := h
  clear h
  replace H := Option.bind_eq_some_iff.mp H
  obtain ⟨⟨t200, t201, t202, t203, t204⟩, A50, H⟩ := H
  replace H : ((move_Begin.f k t200 t201 t202 t203 t204 a1 a2 2 1).bind fun bt205 => (if bt205.2.2.2.2.2.2.2 = 0 then ((move_Run.f bt205.1 bt205.2.1 bt205.2.2.1 bt205.2.2.2.1 bt205.2.2.2.2.1 bt205.2.2.2.2.2.1 bt205.2.2.2.2.2.2.1 2 1 a3).bind fun bt214 => (some (bt214.1, bt214.2.1, bt214.2.2.1, bt214.2.2.2.1, bt214.2.2.2.2.1, bt214.2.2.2.2.2.1, bt214.2.2.2.2.2.2.1, bt214.2.2.2.2.2.2.2.1, (bt214.2.2.2.2.2.2.2.2 == 0)))) else (some (bt205.1, bt205.2.1, bt205.2.2.1, bt205.2.2.2.1, bt205.2.2.2.2.1, bt205.2.2.2.2.2.1, bt205.2.2.2.2.2.2.1, 0, false)))) = some (r1, r2, r3, r4, r5, r6, r7, r8, r9) := H
  have A5 := Aside0.mk A50
  clear A50
  replace H := Option.bind_eq_some_iff.mp H
  obtain ⟨⟨t205, t206, t207, t208, t209, t210, t211, t212⟩, A60, H⟩ := H
  replace H : (if t212 = 0 then ((move_Run.f t205 t206 t207 t208 t209 t210 t211 2 1 a3).bind fun bt214 => (some (bt214.1, bt214.2.1, bt214.2.2.1, bt214.2.2.2.1, bt214.2.2.2.2.1, bt214.2.2.2.2.2.1, bt214.2.2.2.2.2.2.1, bt214.2.2.2.2.2.2.2.1, (bt214.2.2.2.2.2.2.2.2 == 0)))) else (some (t205, t206, t207, t208, t209, t210, t211, 0, false))) = some (r1, r2, r3, r4, r5, r6, r7, r8, r9) := H
  have A6 := Aside0.mk A60
  clear A60
  by_cases c7 : t212 = 0
  · rw [if_pos c7] at H
    have c7b0 : (t212 == 0) = true := beq_iff_eq.mpr c7
    have c7b1 : (t212 != 0) = false := bne_eq_false_iff_eq.mpr c7
    clear c7
    replace H := Option.bind_eq_some_iff.mp H
    obtain ⟨⟨t214, t215, t216, t217, t218, t219, t220, t221, t222⟩, A80, H⟩ := H
    replace H : (some (t214, t215, t216, t217, t218, t219, t220, t221, (t222 == 0))) = some (r1, r2, r3, r4, r5, r6, r7, r8, r9) := H
    have A8 := Aside0.mk A80
    clear A80
    simp only [Option.some.injEq, Prod.mk.injEq] at H
    obtain ⟨rfl, rfl, rfl, rfl, rfl, rfl, rfl, rfl, rfl⟩ := H
    go_enter Try.func20, Try.ntmps20
    go_wp2_with (first | ((with_reducible refine gate_dst (N := 8) rfl ?_); refine bxe (cs := #[.int .i64 0, .int .i64 0, .int .i64 0, .int .i64 0, .int .i64 0, .int .i64 0, .int .i64 0]) (t := 35) ?_; intro gb199 hg w9 hbox hb; have BK199 := Aside0.mk (hbox); have GW199 := Aside0.mk (bge hg HB.out); have GE199 := Aside0.mk (bge hg HB.out); replace HB := Aside0.mk (bst HB.out hb); clear hb hbox hg) | ((with_reducible refine gate_callee (f := 12) rfl ?_); refine gsl (some 17) Try.func12 #[.int .i64 a0] ?_; (with_reducible refine (q_at.calls a0 t200 t201 t202 t203 t204 _ A5.out).mono ?_); rintro e w10 ⟨rfl, hb⟩; refine ⟨_, rfl, ?_⟩; replace BK199 := Aside0.mk (bkb BK199.out hb); replace HB := Aside0.mk (bst HB.out hb); (try clear hb); (try clear hb2); (try clear hk); (try clear hi)) | ((with_reducible refine gate_callee (f := 11) rfl ?_); refine gsl (some 20) Try.func11 #[.agg #[.int .i64 t200, .int .i64 t201, .int .i64 t202, .int .i64 t203, .int .i64 t204], .int .i64 a1, .int .i64 a2, .int .i64 2, .int .i64 1] ?_; (with_reducible refine (move_Begin.calls k t200 t201 t202 t203 t204 a1 a2 2 1 t205 t206 t207 t208 t209 t210 t211 t212 _ A6.out).mono ?_); rintro e w11 ⟨rfl, hb⟩; refine ⟨_, rfl, ?_⟩; replace BK199 := Aside0.mk (bkb BK199.out hb); replace HB := Aside0.mk (bst HB.out hb); (try clear hb); (try clear hb2); (try clear hk); (try clear hi)) | ((with_reducible refine gate_dst (N := 11) rfl ?_); refine bxe (cs := #[.int .i64 0, .int .i64 0, .int .i64 0, .int .i64 0, .int .i64 0, .int .i64 0, .int .i64 0]) (t := 35) ?_; intro gb213 hg w12 hbox hb; have BK213 := Aside0.mk (hbox); have GW213 := Aside0.mk (bge hg HB.out); have GE213 := Aside0.mk (bge hg HB.out); have NB199_213 := Aside0.mk ((bkl hg BK199.out)); have NB213_199 := Aside0.mk ((bkg hg BK199.out)); replace BK199 := Aside0.mk (bkb BK199.out hb); replace HB := Aside0.mk (bst HB.out hb); clear hb hbox hg; have hnb13 := NB213_199.out; have hnc13 := NB199_213.out; have hcz14_0 := cz7 BK213.out; have hfz14_0 := blk_frozen BK213.out) | ((with_reducible refine gate_callee (f := 18) rfl ?_); refine gsl (some 29) Try.func18 #[.agg #[.int .i64 t205, .int .i64 t206, .int .i64 t207, .int .i64 t208, .int .i64 t209, .int .i64 t210, .int .i64 t211], .int .i64 2, .int .i64 1, .int .i64 a3] ?_; (with_reducible refine (move_Run.calls t205 t206 t207 t208 t209 t210 t211 2 1 a3 t214 t215 t216 t217 t218 t219 t220 t221 t222 _ A8.out).mono ?_); rintro e w15 ⟨rfl, hb⟩; refine ⟨_, rfl, ?_⟩; replace BK199 := Aside0.mk (bkb BK199.out hb); replace BK213 := Aside0.mk (blk_below (g := gb213) (o := .cells #[.int .i64 t205, .int .i64 t206, .int .i64 t207, .int .i64 t208, .int .i64 t209, .int .i64 t210, .int .i64 t211] 35 (0, 0)) (bkt BK213.out) hb); replace HB := Aside0.mk (bst HB.out hb); (try clear hb); (try clear hb2); (try clear hk); (try clear hi)) | ((with_reducible refine gate_dst (N := 13) rfl ?_); refine bxe (cs := #[.int .i64 0, .int .i64 0, .int .i64 0, .int .i64 0, .int .i64 0, .int .i64 0, .int .i64 0]) (t := 35) ?_; intro gb223 hg w16 hbox hb; have BK223 := Aside0.mk (hbox); have GW223 := Aside0.mk (bge hg HB.out); have GE223 := Aside0.mk (bge hg HB.out); have NB199_223 := Aside0.mk ((bkl hg BK199.out)); have NB223_199 := Aside0.mk ((bkg hg BK199.out)); have NB213_223 := Aside0.mk ((bkl hg BK213.out)); have NB223_213 := Aside0.mk ((bkg hg BK213.out)); replace BK199 := Aside0.mk (bkb BK199.out hb); replace BK213 := Aside0.mk (bkb BK213.out hb); replace HB := Aside0.mk (bst HB.out hb); clear hb hbox hg; have hnb17 := NB223_199.out; have hnc17 := NB199_223.out; have hnb18 := NB223_213.out; have hnc18 := NB213_223.out; have hcz19_0 := cz7 BK223.out; have hfz19_0 := blk_frozen BK223.out; have hcz20_0 := cz7 BK199.out; have hfz20_0 := blk_frozen BK199.out))
    refine bodyPost_ret (results_ctt rfl _ _ gb199 35 #[.int .i64 t214, .int .i64 t215, .int .i64 t216, .int .i64 t217, .int .i64 t218, .int .i64 t219, .int .i64 t220] (0, 0) _ rfl (bkt BK199.out) Try.underlying35 rfl (by kernel_rfl)) rfl ?_
    exact bfin (bel HB.out)
  · rw [if_neg c7] at H
    have c7b0 : (t212 == 0) = false := beq_eq_false_iff_ne.mpr c7
    have c7b1 : (t212 != 0) = true := bne_iff_ne.mpr c7
    simp only [Option.some.injEq, Prod.mk.injEq] at H
    obtain ⟨rfl, rfl, rfl, rfl, rfl, rfl, rfl, rfl, rfl⟩ := H
    go_enter Try.func20, Try.ntmps20
    go_wp2_with (first | ((with_reducible refine gate_dst (N := 8) rfl ?_); refine bxe (cs := #[.int .i64 0, .int .i64 0, .int .i64 0, .int .i64 0, .int .i64 0, .int .i64 0, .int .i64 0]) (t := 35) ?_; intro gb199 hg w21 hbox hb; have BK199 := Aside0.mk (hbox); have GW199 := Aside0.mk (bge hg HB.out); have GE199 := Aside0.mk (bge hg HB.out); replace HB := Aside0.mk (bst HB.out hb); clear hb hbox hg) | ((with_reducible refine gate_callee (f := 12) rfl ?_); refine gsl (some 17) Try.func12 #[.int .i64 a0] ?_; (with_reducible refine (q_at.calls a0 t200 t201 t202 t203 t204 _ A5.out).mono ?_); rintro e w22 ⟨rfl, hb⟩; refine ⟨_, rfl, ?_⟩; replace BK199 := Aside0.mk (bkb BK199.out hb); replace HB := Aside0.mk (bst HB.out hb); (try clear hb); (try clear hb2); (try clear hk); (try clear hi)) | ((with_reducible refine gate_callee (f := 11) rfl ?_); refine gsl (some 20) Try.func11 #[.agg #[.int .i64 t200, .int .i64 t201, .int .i64 t202, .int .i64 t203, .int .i64 t204], .int .i64 a1, .int .i64 a2, .int .i64 2, .int .i64 1] ?_; (with_reducible refine (move_Begin.calls k t200 t201 t202 t203 t204 a1 a2 2 1 t205 t206 t207 t208 t209 t210 t211 t212 _ A6.out).mono ?_); rintro e w23 ⟨rfl, hb⟩; refine ⟨_, rfl, ?_⟩; replace BK199 := Aside0.mk (bkb BK199.out hb); replace HB := Aside0.mk (bst HB.out hb); (try clear hb); (try clear hb2); (try clear hk); (try clear hi)) | ((with_reducible refine gate_dst (N := 11) rfl ?_); refine bxe (cs := #[.int .i64 0, .int .i64 0, .int .i64 0, .int .i64 0, .int .i64 0, .int .i64 0, .int .i64 0]) (t := 35) ?_; intro gb213 hg w24 hbox hb; have BK213 := Aside0.mk (hbox); have GW213 := Aside0.mk (bge hg HB.out); have GE213 := Aside0.mk (bge hg HB.out); have NB199_213 := Aside0.mk ((bkl hg BK199.out)); have NB213_199 := Aside0.mk ((bkg hg BK199.out)); replace BK199 := Aside0.mk (bkb BK199.out hb); replace HB := Aside0.mk (bst HB.out hb); clear hb hbox hg; have hnb25 := NB213_199.out; have hnc25 := NB199_213.out; have hcz26_0 := cz7 BK213.out; have hfz26_0 := blk_frozen BK213.out; have hcz27_0 := cz7 BK199.out; have hfz27_0 := blk_frozen BK199.out))
    refine bodyPost_ret (results_ctt rfl _ _ gb199 35 #[.int .i64 t205, .int .i64 t206, .int .i64 t207, .int .i64 t208, .int .i64 t209, .int .i64 t210, .int .i64 t211] (0, 0) _ rfl (bkt BK199.out) Try.underlying35 rfl (by kernel_rfl)) rfl ?_
    exact bfin (bel HB.out)

/-! ### q_awake: function 7 -/
def q_awake.f (k : Nat)  : Option (Bool) := (move_Ticks.f (([3, 4] : List Int)) 2 1).bind fun bt227 => ((q_goes.f k 0 7 7 7).bind fun bt229 => (if bt227.1 = 7 then (if bt227.2 = 0 then (if bt229.2.2.2.2.2.2.2.2 = true then (if bt229.2.2.2.2.2.2.2.1 = 5 then (if bt229.1 = 7 then (some (bt229.2.2.2.2.2.2.1 == 7)) else (none)) else (none)) else (none)) else (none)) else (none)))
theorem q_awake.mono : ∀ k, LeO (q_awake.f k ) (q_awake.f (k + 1) ) := by
  intro  k
  unfold q_awake.f
  repeat' first
      | (with_reducible exact q_goes.mono _ _ _ _ _)
      | (with_reducible exact LeO.refl _)
      | (with_reducible exact LeO.none _)
      | (with_reducible refine LeO.ite ?_ ?_)
      | (with_reducible refine LeO.bind ?_ (fun _ => ?_))
      | exact q_goes.mono _ _ _ _ _
      | exact LeO.none _
      | refine LeO.ite ?_ ?_
      | refine LeO.bind ?_ (fun _ => ?_)
set_option maxHeartbeats 8000000 in
set_option maxRecDepth 100000 in
theorem q_awake.calls (k : Nat)  (r : Bool) (w : World) (h : q_awake.f k  = some r) :
    Calls Try.prog 7 #[] w fun e w' => e = .returned (.bool r) ∧ Below w.heap.size w w' := by
  have hu35 := Try.underlying35
  have HB := Aside0.mk (Below.refl w.heap.size w)
  have H : ((move_Ticks.f (([3, 4] : List Int)) 2 1).bind fun bt227 => ((q_goes.f k 0 7 7 7).bind fun bt229 => (if bt227.1 = 7 then (if bt227.2 = 0 then (if bt229.2.2.2.2.2.2.2.2 = true then (if bt229.2.2.2.2.2.2.2.1 = 5 then (if bt229.1 = 7 then (some (bt229.2.2.2.2.2.2.1 == 7)) else (none)) else (none)) else (none)) else (none)) else (none)))) = some r := h
  clear h
  obtain ⟨y224, hy224⟩ : ∃ y_ : List Int, y_ = (([3, 4] : List Int)) := ⟨_, rfl⟩
  replace H : ((move_Ticks.f y224 2 1).bind fun bt227 => ((q_goes.f k 0 7 7 7).bind fun bt229 => (if bt227.1 = 7 then (if bt227.2 = 0 then (if bt229.2.2.2.2.2.2.2.2 = true then (if bt229.2.2.2.2.2.2.2.1 = 5 then (if bt229.1 = 7 then (some (bt229.2.2.2.2.2.2.1 == 7)) else (none)) else (none)) else (none)) else (none)) else (none)))) = some r := by first | (rw [hy224]; with_reducible exact H) | (have H2_ := (Option.bind_some _ _).symm.trans H; rw [hy224]; with_reducible exact H2_) | (have H2_ := (Option.bind_some _ _).symm.trans H; with_reducible exact H2_) | with_reducible exact H | (rw [hy224]; exact H) | exact H
  have Ny224 := Aside0.mk hy224
  clear hy224
  replace H := Option.bind_eq_some_iff.mp H
  obtain ⟨⟨t227, t228⟩, A10, H⟩ := H
  replace H : ((q_goes.f k 0 7 7 7).bind fun bt229 => (if t227 = 7 then (if t228 = 0 then (if bt229.2.2.2.2.2.2.2.2 = true then (if bt229.2.2.2.2.2.2.2.1 = 5 then (if bt229.1 = 7 then (some (bt229.2.2.2.2.2.2.1 == 7)) else (none)) else (none)) else (none)) else (none)) else (none))) = some r := H
  have A1 := Aside0.mk A10
  clear A10
  replace H := Option.bind_eq_some_iff.mp H
  obtain ⟨⟨t229, t230, t231, t232, t233, t234, t235, t236, t237⟩, A20, H⟩ := H
  replace H : (if t227 = 7 then (if t228 = 0 then (if t237 = true then (if t236 = 5 then (if t229 = 7 then (some (t235 == 7)) else (none)) else (none)) else (none)) else (none)) else (none)) = some r := H
  have A2 := Aside0.mk A20
  clear A20
  by_cases c3 : t227 = 7
  · rw [if_pos c3] at H
    have c3b0 : (t227 == 7) = true := beq_iff_eq.mpr c3
    have c3b1 : (t227 != 7) = false := bne_eq_false_iff_eq.mpr c3
    clear c3
    by_cases c4 : t228 = 0
    · rw [if_pos c4] at H
      have c4b0 : (t228 == 0) = true := beq_iff_eq.mpr c4
      have c4b1 : (t228 != 0) = false := bne_eq_false_iff_eq.mpr c4
      clear c4
      by_cases c5 : t237 = true
      · subst c5
        have H1 : (if t236 = 5 then (if t229 = 7 then (some (t235 == 7)) else (none)) else (none)) = some r := by rw [if_pos rfl] at H; exact H
        clear H
        have H := H1
        clear H1
        by_cases c6 : t236 = 5
        · rw [if_pos c6] at H
          have c6b0 : (t236 == 5) = true := beq_iff_eq.mpr c6
          have c6b1 : (t236 != 5) = false := bne_eq_false_iff_eq.mpr c6
          clear c6
          by_cases c7 : t229 = 7
          · rw [if_pos c7] at H
            have c7b0 : (t229 == 7) = true := beq_iff_eq.mpr c7
            have c7b1 : (t229 != 7) = false := bne_eq_false_iff_eq.mpr c7
            clear c7
            obtain rfl := Option.some.inj H
            go_enter Try.func7, Try.ntmps7
            go_wp2_with (first | ((with_reducible refine gate_dst (N := 7) rfl ?_); refine Kd.R_lit (Kd.int .i64) _ 3 ?hg (N := 7) ?hd (xs := ([3, 4] : List Int)) (inner := [.int .i64 3, .int .i64 4]) (ok := fun _ => True) (okp := fun _ => True) ?hr ?hp (fun _ hk => hk) trivial (Below.refl _ _) (Nat.le_refl _) (by simp) ?_; (case hd => rfl); (case hg => rfl); (case hr => first | (go_simp; done) | (go_simp; rfl)); (case hp => exact (Reps.one (show Kd.M (Kd.int .i64) _ _ _ 3 [.int .i64 3] from rfl) (Reps.one (show Kd.M (Kd.int .i64) _ _ _ 4 [.int .i64 4] from rfl) (Reps.none _ _)))); intro v225 w8 ho9 hb hg_ hnew_; clear hg_ hnew_; (first | rw [← Ny224.out] at ho9 | (simp only [Int.reduceToNat] at ho9; rw [← Ny224.out] at ho9)); have HO226 := Aside0.mk (Kd.R_lower ho9 (bsz HB.out)); replace HB := Aside0.mk (bst HB.out hb); clear hb ho9; obtain ⟨Ao10, co10, eo10⟩ := Kd.R_slice HO226.out; subst eo10) | ((with_reducible refine gate_callee (f := 8) rfl ?_); refine gsl (some 8) Try.func8 #[.slice Ao10 y224.length co10, .int .i64 2, .int .i64 1] ?_; (with_reducible refine (move_Ticks.calls _ _ y224 2 1 t227 t228 _ ?side1 ?side2 A1.out).mono ?_); (case side1 => repeat (first | exact (Kd.R_reads' HO226.out).2.2 | (with_reducible refine Kd.C_alloc ?_ _) | (with_reducible refine Kd.C_drewN ?_ _) | (with_reducible refine Kd.C_drew ?_))); (case side2 => exact (Kd.R_reads' HO226.out).2.1); rintro e w11 ⟨rfl, hb⟩; refine ⟨_, rfl, ?_⟩; replace HO226 := Aside0.mk (Kd.R_below (kdt HO226.out) hb); replace HB := Aside0.mk (bst HB.out hb); (try clear hb); (try clear hb2); (try clear hk); (try clear hi)) | ((with_reducible refine gate_callee (f := 20) rfl ?_); refine gsl (some 12) Try.func20 #[.int .i64 0, .int .i64 7, .int .i64 7, .int .i64 7] ?_; (with_reducible refine (q_goes.calls k 0 7 7 7 t229 t230 t231 t232 t233 t234 t235 t236 true _ A2.out).mono ?_); rintro e w12 ⟨rfl, hb⟩; refine ⟨_, rfl, ?_⟩; replace HO226 := Aside0.mk (Kd.R_below (kdt HO226.out) hb); replace HB := Aside0.mk (bst HB.out hb); (try clear hb); (try clear hb2); (try clear hk); (try clear hi)) | ((with_reducible refine gate_dst (N := 3) rfl ?_); refine bxe (cs := #[.int .i64 0, .int .i64 0, .int .i64 0, .int .i64 0, .int .i64 0, .int .i64 0, .int .i64 0]) (t := 35) ?_; intro gb238 hg w13 hbox hb; have BK238 := Aside0.mk (hbox); have GW238 := Aside0.mk (bge hg HB.out); have GE238 := Aside0.mk (bge hg HB.out); replace HO226 := Aside0.mk (Kd.R_below (kdt HO226.out) hb); replace HB := Aside0.mk (bst HB.out hb); clear hb hbox hg; have hcz14_0 := cz7 BK238.out; have hfz14_0 := blk_frozen BK238.out))
            go_ret
            exact bfin (bel HB.out)
          · rw [if_neg c7] at H
            exact absurd H (by simp)
        · rw [if_neg c6] at H
          exact absurd H (by simp)
      · replace c5 := Bool.eq_false_iff.mpr c5
        subst c5
        have H1 : (none) = some r := by rw [if_neg (show ¬ (false = true) by decide)] at H; exact H
        clear H
        have H := H1
        clear H1
        exact absurd H (by simp)
    · rw [if_neg c4] at H
      exact absurd H (by simp)
  · rw [if_neg c3] at H
    exact absurd H (by simp)

end Go.Proofs.Ytckaofgkepcibaa.P
