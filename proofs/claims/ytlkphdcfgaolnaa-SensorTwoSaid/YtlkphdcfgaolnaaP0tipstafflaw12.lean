-- Printed by wip/myprint.py of this repo (over the kit's printer). Not trusted: Lean checks it.
import Derived.Test.YtlkphdcfgaolnaaP0
import Derived.Test.YtlkphdcfgaolnaaP0tipstaffkit
namespace Go.Proofs.Ytlkphdcfgaolnaa.P
open Go.RowKit Go.Proofs.YtlkphdcfgaolnaaW.PrintWords Go.Proofs.YtlkphdcfgaolnaaW.PrintLast Go.Proofs.YtlkphdcfgaolnaaW.PrintMore
attribute [local go_sem] cell_same1 cell_some1
attribute [local go_sem] max2_int min2_int max_two min_two max_three min_three max_four min_four   -- for this text's walks alone
set_option linter.unusedVariables false
set_option linter.unusedSimpArgs false

/-! ### q_list: function 27 -/
def q_list.f  : Option ((List (S68))) := some (([(⟨0, 2, 0, (⟨#[]⟩ : ByteArray), 1, 3, 0⟩ : S68), (⟨0, 2, 0, (⟨#[]⟩ : ByteArray), 1, 1, 0⟩ : S68), (⟨0, 2, 0, (⟨#[]⟩ : ByteArray), 2, 5, 0⟩ : S68), (⟨0, 2, 0, (⟨#[]⟩ : ByteArray), 1, 5, 0⟩ : S68)] : List (S68)))
set_option maxHeartbeats 8000000 in
set_option maxRecDepth 100000 in
theorem q_list.calls  (r : List (S68)) (w : World) (h : q_list.f  = some r) :
    Calls Try.prog 27 #[] w fun e w' => ∃ v0_ : Value, e = .returned (v0_) ∧ Kd.R k68 68 w' w.heap.size (fun _ => True) v0_ r ∧ Below w.heap.size w w' := by
  have hu68 := Try.underlying68
  have HB := Aside0.mk (Below.refl w.heap.size w)
  have H : (some (([(⟨0, 2, 0, (⟨#[]⟩ : ByteArray), 1, 3, 0⟩ : S68), (⟨0, 2, 0, (⟨#[]⟩ : ByteArray), 1, 1, 0⟩ : S68), (⟨0, 2, 0, (⟨#[]⟩ : ByteArray), 2, 5, 0⟩ : S68), (⟨0, 2, 0, (⟨#[]⟩ : ByteArray), 1, 5, 0⟩ : S68)] : List (S68)))) = some r := h
  clear h
  obtain ⟨y120, hy120⟩ : ∃ y_ : List (S68), y_ = (([(⟨0, 2, 0, (⟨#[]⟩ : ByteArray), 1, 3, 0⟩ : S68), (⟨0, 2, 0, (⟨#[]⟩ : ByteArray), 1, 1, 0⟩ : S68), (⟨0, 2, 0, (⟨#[]⟩ : ByteArray), 2, 5, 0⟩ : S68), (⟨0, 2, 0, (⟨#[]⟩ : ByteArray), 1, 5, 0⟩ : S68)] : List (S68))) := ⟨_, rfl⟩
  replace H : (some y120) = some r := by first | (rw [hy120]; with_reducible exact H) | (have H2_ := (Option.bind_some _ _).symm.trans H; rw [hy120]; with_reducible exact H2_) | (have H2_ := (Option.bind_some _ _).symm.trans H; with_reducible exact H2_) | with_reducible exact H | (rw [hy120]; exact H) | exact H
  have Ny120 := Aside0.mk hy120
  clear hy120
  obtain rfl := Option.some.inj H
  go_enter Try.func27, Try.ntmps27
  go_wp2_with (first | ((with_reducible refine gate_dst (N := 5) rfl ?_); refine Kd.R_lit k68 _ 68 ?hg (N := 5) ?hd (xs := ([(⟨0, 2, 0, (⟨#[]⟩ : ByteArray), 1, 3, 0⟩ : S68), (⟨0, 2, 0, (⟨#[]⟩ : ByteArray), 1, 1, 0⟩ : S68), (⟨0, 2, 0, (⟨#[]⟩ : ByteArray), 2, 5, 0⟩ : S68), (⟨0, 2, 0, (⟨#[]⟩ : ByteArray), 1, 5, 0⟩ : S68)] : List (S68))) (inner := [.int .i64 0, .int .i64 2, .int .i64 0, .string (⟨#[]⟩ : ByteArray), .int .i64 1, .int .i64 3, .int .i64 0, .int .i64 0, .int .i64 2, .int .i64 0, .string (⟨#[]⟩ : ByteArray), .int .i64 1, .int .i64 1, .int .i64 0, .int .i64 0, .int .i64 2, .int .i64 0, .string (⟨#[]⟩ : ByteArray), .int .i64 2, .int .i64 5, .int .i64 0, .int .i64 0, .int .i64 2, .int .i64 0, .string (⟨#[]⟩ : ByteArray), .int .i64 1, .int .i64 5, .int .i64 0]) (ok := fun _ => True) (okp := fun _ => True) ?hr ?hp (fun _ hk => hk) trivial (Below.refl _ _) (Nat.le_refl _) (by simp) ?_; (case hd => rfl); (case hg => rfl); (case hr => first | (go_simp; done) | (go_simp; rfl)); (case hp => exact (Reps.c7 (show Kd.M k68 _ _ _ (⟨0, 2, 0, (⟨#[]⟩ : ByteArray), 1, 3, 0⟩ : S68) [.int .i64 0, .int .i64 2, .int .i64 0, .string (⟨#[]⟩ : ByteArray), .int .i64 1, .int .i64 3, .int .i64 0] from (k68_mkM _ _ _ (⟨0, 2, 0, (⟨#[]⟩ : ByteArray), 1, 3, 0⟩ : S68) )) (Reps.c7 (show Kd.M k68 _ _ _ (⟨0, 2, 0, (⟨#[]⟩ : ByteArray), 1, 1, 0⟩ : S68) [.int .i64 0, .int .i64 2, .int .i64 0, .string (⟨#[]⟩ : ByteArray), .int .i64 1, .int .i64 1, .int .i64 0] from (k68_mkM _ _ _ (⟨0, 2, 0, (⟨#[]⟩ : ByteArray), 1, 1, 0⟩ : S68) )) (Reps.c7 (show Kd.M k68 _ _ _ (⟨0, 2, 0, (⟨#[]⟩ : ByteArray), 2, 5, 0⟩ : S68) [.int .i64 0, .int .i64 2, .int .i64 0, .string (⟨#[]⟩ : ByteArray), .int .i64 2, .int .i64 5, .int .i64 0] from (k68_mkM _ _ _ (⟨0, 2, 0, (⟨#[]⟩ : ByteArray), 2, 5, 0⟩ : S68) )) (Reps.c7 (show Kd.M k68 _ _ _ (⟨0, 2, 0, (⟨#[]⟩ : ByteArray), 1, 5, 0⟩ : S68) [.int .i64 0, .int .i64 2, .int .i64 0, .string (⟨#[]⟩ : ByteArray), .int .i64 1, .int .i64 5, .int .i64 0] from (k68_mkM _ _ _ (⟨0, 2, 0, (⟨#[]⟩ : ByteArray), 1, 5, 0⟩ : S68) )) (Reps.none _ _)))))); intro v121 w1 ho2 hb hg_ hnew_; clear hg_ hnew_; (first | rw [← Ny120.out] at ho2 | (simp only [Int.reduceToNat] at ho2; rw [← Ny120.out] at ho2)); have HO122 := Aside0.mk (Kd.R_lower ho2 (bsz HB.out)); replace HB := Aside0.mk (bst HB.out hb); clear hb ho2))
  go_ret
  exact ⟨_, by first | rfl | (simp [errW_none, errW_some] <;> rfl) | (simp [*, errW_none, errW_some] <;> rfl), by (with_reducible repeat (first | apply Kd.R_alloc | apply Kd.R_drewN | apply Kd.R_drew)); exact HO122.out, bel HB.out⟩

/-! ### q_gaps: function 26 -/
def q_gaps.f  : Option (List Int) := some (([10, 4, 6] : List Int))
set_option maxHeartbeats 8000000 in
set_option maxRecDepth 100000 in
theorem q_gaps.calls  (r : List Int) (w : World) (h : q_gaps.f  = some r) :
    Calls Try.prog 26 #[] w fun e w' => ∃ v0_ : Value, e = .returned (v0_) ∧ Kd.R (Kd.int .i64) 3 w' w.heap.size (fun _ => True) v0_ r ∧ Below w.heap.size w w' := by
  have HB := Aside0.mk (Below.refl w.heap.size w)
  have H : (some (([10, 4, 6] : List Int))) = some r := h
  clear h
  obtain ⟨y161, hy161⟩ : ∃ y_ : List Int, y_ = (([10, 4, 6] : List Int)) := ⟨_, rfl⟩
  replace H : (some y161) = some r := by first | (rw [hy161]; with_reducible exact H) | (have H2_ := (Option.bind_some _ _).symm.trans H; rw [hy161]; with_reducible exact H2_) | (have H2_ := (Option.bind_some _ _).symm.trans H; with_reducible exact H2_) | with_reducible exact H | (rw [hy161]; exact H) | exact H
  have Ny161 := Aside0.mk hy161
  clear hy161
  obtain rfl := Option.some.inj H
  go_enter Try.func26, Try.ntmps26
  go_wp2_with (first | ((with_reducible refine gate_dst (N := 1) rfl ?_); refine Kd.R_lit (Kd.int .i64) _ 3 ?hg (N := 1) ?hd (xs := ([10, 4, 6] : List Int)) (inner := [.int .i64 10, .int .i64 4, .int .i64 6]) (ok := fun _ => True) (okp := fun _ => True) ?hr ?hp (fun _ hk => hk) trivial (Below.refl _ _) (Nat.le_refl _) (by simp) ?_; (case hd => rfl); (case hg => rfl); (case hr => first | (go_simp; done) | (go_simp; rfl)); (case hp => exact (Reps.one (show Kd.M (Kd.int .i64) _ _ _ 10 [.int .i64 10] from rfl) (Reps.one (show Kd.M (Kd.int .i64) _ _ _ 4 [.int .i64 4] from rfl) (Reps.one (show Kd.M (Kd.int .i64) _ _ _ 6 [.int .i64 6] from rfl) (Reps.none _ _))))); intro v162 w1 ho2 hb hg_ hnew_; clear hg_ hnew_; (first | rw [← Ny161.out] at ho2 | (simp only [Int.reduceToNat] at ho2; rw [← Ny161.out] at ho2)); have HO163 := Aside0.mk (Kd.R_lower ho2 (bsz HB.out)); replace HB := Aside0.mk (bst HB.out hb); clear hb ho2))
  go_ret
  exact ⟨_, by first | rfl | (simp [errW_none, errW_some] <;> rfl) | (simp [*, errW_none, errW_some] <;> rfl), by (with_reducible repeat (first | apply Kd.R_alloc | apply Kd.R_drewN | apply Kd.R_drew)); exact HO163.out, bel HB.out⟩

/-! ### q_at: function 29 -/
def q_at.f (a0 : Int) (a1 : Int) : Option (Bool × Int × Int) := some (true, a0, a1)
set_option maxHeartbeats 8000000 in
set_option maxRecDepth 100000 in
theorem q_at.calls (a0 : Int) (a1 : Int) (r1 : Bool) (r2 : Int) (r3 : Int) (w : World) (h : q_at.f a0 a1 = some (r1, r2, r3)) :
    Calls Try.prog 29 #[.int .i64 a0, .int .i64 a1] w fun e w' => e = .returned (.agg #[.bool r1, .int .i64 r2, .int .i64 r3]) ∧ Below w.heap.size w w' := by
  have hu23 := Try.underlying23
  have HB := Aside0.mk (Below.refl w.heap.size w)
  have H : (some (true, a0, a1)) = some (r1, r2, r3) := h
  clear h
  simp only [Option.some.injEq, Prod.mk.injEq] at H
  obtain ⟨rfl, rfl, rfl⟩ := H
  go_enter Try.func29, Try.ntmps29
  go_wp2_with (first | ((with_reducible refine gate_dst (N := 4) rfl ?_); refine bxe (cs := #[.bool false, .int .i64 0, .int .i64 0]) (t := 23) ?_; intro gb173 hg w3 hbox hb; have BK173 := Aside0.mk (hbox); have GW173 := Aside0.mk (bge hg HB.out); have GE173 := Aside0.mk (bge hg HB.out); replace HB := Aside0.mk (bst HB.out hb); clear hb hbox hg; have hcz4_0 := cz3 BK173.out; have hfz4_0 := blk_frozen BK173.out))
  refine bodyPost_ret (results_cell_row rfl _ _ gb173 23 #[.bool true, .int .i64 a0, .int .i64 a1] (0, 0) _ rfl (bkt BK173.out) Try.underlying23 rfl (by kernel_rfl)) rfl ?_
  exact bfin (bel HB.out)

/-! ### q_failed: function 30 -/
def q_failed.f  : Option (Bool × Int × Int) := some (false, (-1), 0)
set_option maxHeartbeats 8000000 in
set_option maxRecDepth 100000 in
theorem q_failed.calls  (r1 : Bool) (r2 : Int) (r3 : Int) (w : World) (h : q_failed.f  = some (r1, r2, r3)) :
    Calls Try.prog 30 #[] w fun e w' => e = .returned (.agg #[.bool r1, .int .i64 r2, .int .i64 r3]) ∧ Below w.heap.size w w' := by
  have hu23 := Try.underlying23
  have HB := Aside0.mk (Below.refl w.heap.size w)
  have H : (some (false, (-1), 0)) = some (r1, r2, r3) := h
  clear h
  simp only [Option.some.injEq, Prod.mk.injEq] at H
  obtain ⟨rfl, rfl, rfl⟩ := H
  go_enter Try.func30, Try.ntmps30
  go_wp2_with (first | ((with_reducible refine gate_dst (N := 0) rfl ?_); refine bxe (cs := #[.bool false, .int .i64 0, .int .i64 0]) (t := 23) ?_; intro gb174 hg w1 hbox hb; have BK174 := Aside0.mk (hbox); have GW174 := Aside0.mk (bge hg HB.out); have GE174 := Aside0.mk (bge hg HB.out); replace HB := Aside0.mk (bst HB.out hb); clear hb hbox hg; have hcz2_0 := cz3 BK174.out; have hfz2_0 := blk_frozen BK174.out))
  refine bodyPost_ret (results_cell_row rfl _ _ gb174 23 #[.bool false, .int .i64 (-1), .int .i64 0] (0, 0) _ rfl (bkt BK174.out) Try.underlying23 rfl (by kernel_rfl)) rfl ?_
  exact bfin (bel HB.out)

/-! ### q_made: function 32 -/
def q_made.f (a0 : Int) : Option (Bool × Int × Int) := (kit_Mod.f a0 100).bind fun t518 => (if (Int.tmod t518 4) = 0 then ((q_failed.f).bind fun bt519 => (some (bt519.1, bt519.2.1, bt519.2.2))) else ((q_at.f (wrap64 ((Int.tmod (wrap64 (Int.tdiv t518 4)) 4) - 1)) (Int.tmod (wrap64 (Int.tdiv t518 16)) 2)).bind fun bt522 => (some (bt522.1, bt522.2.1, bt522.2.2))))
set_option maxHeartbeats 8000000 in
set_option maxRecDepth 100000 in
theorem q_made.calls (a0 : Int) (r1 : Bool) (r2 : Int) (r3 : Int) (w : World) (h : q_made.f a0 = some (r1, r2, r3)) :
    Calls Try.prog 32 #[.int .i64 a0] w fun e w' => e = .returned (.agg #[.bool r1, .int .i64 r2, .int .i64 r3]) ∧ Below w.heap.size w w' := by
  have hu23 := Try.underlying23
  have HB := Aside0.mk (Below.refl w.heap.size w)
  have H : ((kit_Mod.f a0 100).bind fun t518 => (if (Int.tmod t518 4) = 0 then ((q_failed.f).bind fun bt519 => (some (bt519.1, bt519.2.1, bt519.2.2))) else ((q_at.f (wrap64 ((Int.tmod (wrap64 (Int.tdiv t518 4)) 4) - 1)) (Int.tmod (wrap64 (Int.tdiv t518 16)) 2)).bind fun bt522 => (some (bt522.1, bt522.2.1, bt522.2.2))))) = some (r1, r2, r3) := h
  clear h
  replace H := Option.bind_eq_some_iff.mp H
  obtain ⟨t518, A20, H⟩ := H
  replace H : (if (Int.tmod t518 4) = 0 then ((q_failed.f).bind fun bt519 => (some (bt519.1, bt519.2.1, bt519.2.2))) else ((q_at.f (wrap64 ((Int.tmod (wrap64 (Int.tdiv t518 4)) 4) - 1)) (Int.tmod (wrap64 (Int.tdiv t518 16)) 2)).bind fun bt522 => (some (bt522.1, bt522.2.1, bt522.2.2)))) = some (r1, r2, r3) := H
  have A2 := Aside0.mk A20
  clear A20
  by_cases c3 : (Int.tmod t518 4) = 0
  · rw [if_pos c3] at H
    have c3b0 : ((Int.tmod t518 4) == 0) = true := beq_iff_eq.mpr c3
    have c3b1 : ((Int.tmod t518 4) != 0) = false := bne_eq_false_iff_eq.mpr c3
    clear c3
    replace H := Option.bind_eq_some_iff.mp H
    obtain ⟨⟨t519, t520, t521⟩, A40, H⟩ := H
    replace H : (some (t519, t520, t521)) = some (r1, r2, r3) := H
    have A4 := Aside0.mk A40
    clear A40
    simp only [Option.some.injEq, Prod.mk.injEq] at H
    obtain ⟨rfl, rfl, rfl⟩ := H
    go_enter Try.func32, Try.ntmps32
    go_wp2_with (first | ((with_reducible refine gate_dst (N := 2) rfl ?_); refine bxe (cs := #[.bool false, .int .i64 0, .int .i64 0]) (t := 23) ?_; intro gb517 hg w5 hbox hb; have BK517 := Aside0.mk (hbox); have GW517 := Aside0.mk (bge hg HB.out); have GE517 := Aside0.mk (bge hg HB.out); replace HB := Aside0.mk (bst HB.out hb); clear hb hbox hg) | ((with_reducible refine gate_callee (f := 33) rfl ?_); refine gsl (some 4) Try.func33 #[.int .i64 a0, .int .i64 100] ?_; (with_reducible refine (kit_Mod.calls a0 100 t518 _ A2.out).mono ?_); rintro e w' ⟨rfl, ⟨nd, rfl⟩⟩; refine ⟨_, rfl, ?_⟩; (try (rw [drewN_self w5]; generalize hq_ : World.drewN w5 _ = w5; have n0_ : Aside0 (w5.heap[gb517]? = some (.cells #[.bool false, .int .i64 0, .int .i64 0] 23 (0, 0))) := ⟨by rw [← hq_]; exact (bkt BK517.out)⟩; have n1_ : Aside0 (Below w.heap.size w w5) := ⟨by rw [← hq_]; exact (bel HB.out)⟩; clear BK517 HB hq_; have BK517 := n0_; have HB := n1_; clear n0_ n1_))) | ((with_reducible refine gate_callee (f := 30) rfl ?_); refine gsl (some 8) Try.func30 #[] ?_; (with_reducible refine (q_failed.calls  t519 t520 t521 _ A4.out).mono ?_); rintro e w6 ⟨rfl, hb⟩; refine ⟨_, rfl, ?_⟩; replace BK517 := Aside0.mk (bkb BK517.out hb); replace HB := Aside0.mk (bst HB.out hb); (try clear hb); (try clear hb2); (try clear hk); (try clear hi); have hcz7_0 := cz3 BK517.out; have hfz7_0 := blk_frozen BK517.out))
    refine bodyPost_ret (results_cell_row rfl _ _ gb517 23 #[.bool t519, .int .i64 t520, .int .i64 t521] (0, 0) _ rfl (bkt BK517.out) Try.underlying23 rfl (by kernel_rfl)) rfl ?_
    exact bfin (bel HB.out)
  · rw [if_neg c3] at H
    have c3b0 : ((Int.tmod t518 4) == 0) = false := beq_eq_false_iff_ne.mpr c3
    have c3b1 : ((Int.tmod t518 4) != 0) = true := bne_iff_ne.mpr c3
    replace H := Option.bind_eq_some_iff.mp H
    obtain ⟨⟨t522, t523, t524⟩, A80, H⟩ := H
    replace H : (some (t522, t523, t524)) = some (r1, r2, r3) := H
    have A8 := Aside0.mk A80
    clear A80
    simp only [Option.some.injEq, Prod.mk.injEq] at H
    obtain ⟨rfl, rfl, rfl⟩ := H
    go_enter Try.func32, Try.ntmps32
    go_wp2_with (first | ((with_reducible refine gate_dst (N := 2) rfl ?_); refine bxe (cs := #[.bool false, .int .i64 0, .int .i64 0]) (t := 23) ?_; intro gb517 hg w9 hbox hb; have BK517 := Aside0.mk (hbox); have GW517 := Aside0.mk (bge hg HB.out); have GE517 := Aside0.mk (bge hg HB.out); replace HB := Aside0.mk (bst HB.out hb); clear hb hbox hg) | ((with_reducible refine gate_callee (f := 33) rfl ?_); refine gsl (some 4) Try.func33 #[.int .i64 a0, .int .i64 100] ?_; (with_reducible refine (kit_Mod.calls a0 100 t518 _ A2.out).mono ?_); rintro e w' ⟨rfl, ⟨nd, rfl⟩⟩; refine ⟨_, rfl, ?_⟩; (try (rw [drewN_self w9]; generalize hq_ : World.drewN w9 _ = w9; have n0_ : Aside0 (w9.heap[gb517]? = some (.cells #[.bool false, .int .i64 0, .int .i64 0] 23 (0, 0))) := ⟨by rw [← hq_]; exact (bkt BK517.out)⟩; have n1_ : Aside0 (Below w.heap.size w w9) := ⟨by rw [← hq_]; exact (bel HB.out)⟩; clear BK517 HB hq_; have BK517 := n0_; have HB := n1_; clear n0_ n1_))) | ((with_reducible refine gate_callee (f := 29) rfl ?_); refine gsl (some 16) Try.func29 #[.int .i64 (wrap64 ((Int.tmod (wrap64 (Int.tdiv t518 4)) 4) - 1)), .int .i64 (Int.tmod (wrap64 (Int.tdiv t518 16)) 2)] ?_; (with_reducible refine (q_at.calls (wrap64 ((Int.tmod (wrap64 (Int.tdiv t518 4)) 4) - 1)) (Int.tmod (wrap64 (Int.tdiv t518 16)) 2) t522 t523 t524 _ A8.out).mono ?_); rintro e w10 ⟨rfl, hb⟩; refine ⟨_, rfl, ?_⟩; replace BK517 := Aside0.mk (bkb BK517.out hb); replace HB := Aside0.mk (bst HB.out hb); (try clear hb); (try clear hb2); (try clear hk); (try clear hi); have hcz11_0 := cz3 BK517.out; have hfz11_0 := blk_frozen BK517.out))
    refine bodyPost_ret (results_cell_row rfl _ _ gb517 23 #[.bool t522, .int .i64 t523, .int .i64 t524] (0, 0) _ rfl (bkt BK517.out) Try.underlying23 rfl (by kernel_rfl)) rfl ?_
    exact bfin (bel HB.out)

/-! ### q_entries: function 35 -/
def q_entries.l0 : Nat → List Int → List (S68) → Int → Option ((List (S68)))
  | 0, _, _, _ => none
  | k + 1, x0, x3, x4 => if x4 < (x0.length : Int) then (if x4 < 20 then (if 0 ≤ x4 then ((kit_Mod.f (rd x0 x4) 1000).bind fun t618 => (if x3.length < 2199023255552 then (q_entries.l0 k x0 (x3 ++ [(⟨x4, wrap64 (1 + (Int.tmod (wrap64 (Int.tdiv (wrap64 (t618 + 7)) 8)) 2)), 0, (⟨#[]⟩ : ByteArray), wrap64 (1 + (Int.tmod t618 3)), Int.tmod (wrap64 (Int.tdiv t618 3)) 8, 0⟩ : S68)]) (wrap64 (x4 + 1))) else (none))) else (none)) else (some x3)) else (some x3)
def q_entries.f (k : Nat) (l0 : List Int) : Option ((List (S68))) := q_entries.l0 k l0 ([] : List (S68)) 0
theorem q_entries.mono_l : ∀ k, (∀ y0 y1 y2, LeO (q_entries.l0 k y0 y1 y2) (q_entries.l0 (k + 1) y0 y1 y2))
  | 0 => fun _ _ _ r h => by simp [q_entries.l0] at h
  | k + 1 => by
    have ih0 := q_entries.mono_l k
    · intro y0 y1 y2
      unfold q_entries.l0
      repeat' first
      | (with_reducible exact ih0 _ _ _)
      | (with_reducible exact LeO.refl _)
      | (with_reducible exact LeO.none _)
      | (with_reducible refine LeO.ite ?_ ?_)
      | (with_reducible refine LeO.bind ?_ (fun _ => ?_))
      | exact ih0 _ _ _
      | exact LeO.none _
      | refine LeO.ite ?_ ?_
      | refine LeO.bind ?_ (fun _ => ?_)
theorem q_entries.mono : ∀ a0 k, LeO (q_entries.f k a0) (q_entries.f (k + 1) a0) := by
  intro a0 k
  have ih0 := q_entries.mono_l k
  unfold q_entries.f
  repeat' first
      | (with_reducible exact ih0 _ _ _)
      | (with_reducible exact LeO.refl _)
      | (with_reducible exact LeO.none _)
      | (with_reducible refine LeO.ite ?_ ?_)
      | (with_reducible refine LeO.bind ?_ (fun _ => ?_))
      | exact ih0 _ _ _
      | exact LeO.none _
      | refine LeO.ite ?_ ?_
      | refine LeO.bind ?_ (fun _ => ?_)
set_option maxHeartbeats 8000000 in
set_option maxRecDepth 100000 in
theorem q_entries.calls (k : Nat) (A0 : Option Addr) (c0 : Nat) (l0 : List Int) (r : List (S68)) (w : World) (hr0 : Kd.C (Kd.int .i64) w A0 l0.length l0) (hc0 : l0.length ≤ c0) (h : q_entries.f k l0 = some r) :
    Calls Try.prog 35 #[.slice A0 l0.length c0] w fun e w' => ∃ v0_ : Value, e = .returned (v0_) ∧ Kd.R k68 68 w' w.heap.size (fun _ => True) v0_ r ∧ Below w.heap.size w w' := by
  have hu68 := Try.underlying68
  have HR0 := Aside0.mk hr0
  have HC0 := Aside0.mk hc0
  clear hr0 hc0
  have HB := Aside0.mk (Below.refl w.heap.size w)
  have H : (q_entries.l0 k l0 ([] : List (S68)) 0) = some r := h
  clear h
  have H' := Aside0.mk H
  clear H
  go_enter Try.func35, Try.ntmps35
  go_wp2
  go_loopg [3, 4] k (fun kq v3 v4 w' => ∃ (x3_1 : List (S68)) (x4_1 : Int), v4 = .int .i64 x4_1 ∧ Aside0 (q_entries.l0 kq l0 x3_1 x4_1 = some r) ∧ Aside0 (kq ≤ k) ∧ Aside0 (Kd.R k68 68 w' w.heap.size (fun _ => True) v3 x3_1) ∧ Aside0 (Below w.heap.size w w'))
  case atStart => exact ⟨(([] : List (S68))), (0), (by first | rfl | (simp; done) | (simp [*]; done)), H', ⟨Nat.le_refl _⟩, ⟨by first | exact Kd.R_nil _ _ _ _ _ | exact Kd.N_nil _ _ _ _ _ | exact Kd.V_nil _ _ _ _ _ | exact Kd.Q_nil _ _ _ _ _ | exact Kd.S_nil _ _ _ _ _⟩, ⟨bel HB.out⟩⟩
  case round =>
    clear H'
    obtain ⟨x3_1, x4_1, rfl, HA, HK1, HO_3, HB⟩ := hrel
    cases gk with
    | zero => exact absurd HA.out (by simp [q_entries.l0])
    | succ k1 =>
      have H := HA.out
      clear HA
      simp only [q_entries.l0] at H
      by_cases c2 : x4_1 < (l0.length : Int)
      · rw [if_pos c2] at H
        have c2b0 : decide (x4_1 < (l0.length : Int)) = true := decide_eq_true c2
        clear c2
        by_cases c3 : x4_1 < 20
        · rw [if_pos c3] at H
          have c3b0 : decide (x4_1 < 20) = true := decide_eq_true c3
          clear c3
          by_cases c4 : 0 ≤ x4_1
          · rw [if_pos c4] at H
            have c4b0 : decide (0 ≤ x4_1) = true := decide_eq_true c4
            clear c4
            replace H := Option.bind_eq_some_iff.mp H
            obtain ⟨t618, A50, H⟩ := H
            replace H : (if x3_1.length < 2199023255552 then (q_entries.l0 k1 l0 (x3_1 ++ [(⟨x4_1, wrap64 (1 + (Int.tmod (wrap64 (Int.tdiv (wrap64 (t618 + 7)) 8)) 2)), 0, (⟨#[]⟩ : ByteArray), wrap64 (1 + (Int.tmod t618 3)), Int.tmod (wrap64 (Int.tdiv t618 3)) 8, 0⟩ : S68)]) (wrap64 (x4_1 + 1))) else (none)) = some r := H
            have A5 := Aside0.mk A50
            clear A50
            by_cases c6 : x3_1.length < 2199023255552
            · rw [if_pos c6] at H
              have LMc6 := Aside0.mk c6
              clear c6
              obtain ⟨y619, hy619⟩ : ∃ y_ : List (S68), y_ = (x3_1 ++ [(⟨x4_1, wrap64 (1 + (Int.tmod (wrap64 (Int.tdiv (wrap64 (t618 + 7)) 8)) 2)), 0, (⟨#[]⟩ : ByteArray), wrap64 (1 + (Int.tmod t618 3)), Int.tmod (wrap64 (Int.tdiv t618 3)) 8, 0⟩ : S68)]) := ⟨_, rfl⟩
              replace H : (q_entries.l0 k1 l0 y619 (wrap64 (x4_1 + 1))) = some r := by first | (rw [hy619]; with_reducible exact H) | (have H2_ := (Option.bind_some _ _).symm.trans H; rw [hy619]; with_reducible exact H2_) | (have H2_ := (Option.bind_some _ _).symm.trans H; with_reducible exact H2_) | with_reducible exact H | (rw [hy619]; exact H) | exact H
              have Ny619 := Aside0.mk hy619
              clear hy619
              have H' := Aside0.mk H
              clear H
              have p617 : 0 ≤ (x4_1 : Int) := of_decide_eq_true (by first | (with_reducible assumption) | assumption)
              have q617 : x4_1 < (l0.length : Int) := of_decide_eq_true (by first | (with_reducible assumption) | assumption)
              obtain ⟨ad617, e617, hx617_0⟩ := Kd.at_int HR0.out x4_1 p617 q617
              cases e617
              replace hx617_0 := (HB.out.cell (World.block_lt_of_cell? w _ hx617_0)).trans hx617_0
              replace p617 := eq_true p617
              replace q617 := eq_true q617
              go_wp2_with (first | ((with_reducible refine gate_callee (f := 33) rfl ?_); refine gsl (some 20) Try.func33 #[.int .i64 (rd l0 x4_1), .int .i64 1000] ?_; (with_reducible refine (kit_Mod.calls (rd l0 x4_1) 1000 t618 _ A5.out).mono ?_); rintro e w' ⟨rfl, ⟨nd, rfl⟩⟩; refine ⟨_, rfl, ?_⟩) | ((with_reducible refine gate_builtin (b := .append) (xs := #[.tmp 21, .tmp 35]) rfl ?_); at_builtin; refine Kd.R_append k68 (w0 := w) w.heap.size rfl (.tmp 21) (.tmp 35) 37 68 (.agg #[(.int .i64 0), (.int .i64 0), (.int .i64 0), (.string ⟨#[]⟩), (.int .i64 0), (.int .i64 0), (.int .i64 0)]) 64 rfl Try.underlying37 info68 rfl (by decide) (by omega) u3 x3_1 (⟨x4_1, wrap64 (1 + (Int.tmod (wrap64 (Int.tdiv (wrap64 (t618 + 7)) 8)) 2)), 0, (⟨#[]⟩ : ByteArray), wrap64 (1 + (Int.tmod t618 3)), Int.tmod (wrap64 (Int.tdiv t618 3)) 8, 0⟩ : S68) [.int .i64 x4_1, .int .i64 (wrap64 (1 + (Int.tmod (wrap64 (Int.tdiv (wrap64 (t618 + 7)) 8)) 2))), .int .i64 0, .string (⟨#[]⟩ : ByteArray), .int .i64 (wrap64 (1 + (Int.tmod t618 3))), .int .i64 (Int.tmod (wrap64 (Int.tdiv t618 3)) 8), .int .i64 0] (fun _ => True) (fun _ => False) rfl rfl ?aP (fun _ hk => hk.elim) ?aF ?aO ?aB ?aS ?aL ?_; (case aP => exact k68_mkM _ _ _ (⟨x4_1, wrap64 (1 + (Int.tmod (wrap64 (Int.tdiv (wrap64 (t618 + 7)) 8)) 2)), 0, (⟨#[]⟩ : ByteArray), wrap64 (1 + (Int.tmod t618 3)), Int.tmod (wrap64 (Int.tdiv t618 3)) 8, 0⟩ : S68)); (case aB => exact (bel HB.out)); (case aF => exact (fun _ _ => trivial)); (case aO => exact (kdt HO_3.out)); (case aS => exact (bsz HB.out)); (case aL => have := LMc6.out; omega); intro v620 w7 ho hb hg hat; rw [← Ny619.out] at ho; have n0_ := Aside0.mk (hb); have n1_ := Aside0.mk (ho); clear HB; clear HO_3; have HB := n0_; have HO621 := n1_; clear n0_ n1_; clear ho hb hg hat))
              go_roundg k1
              case measure => have := HK1.out; omega
              case rel => exact ⟨(y619), (wrap64 (x4_1 + 1)), (by first | rfl | (simp; done) | (simp [*]; done)), H', ⟨by have := HK1.out; omega⟩, ⟨kdt HO621.out⟩, ⟨bel HB.out⟩⟩
            · rw [if_neg c6] at H
              exact absurd H (by simp)
          · rw [if_neg c4] at H
            exact absurd H (by simp)
        · rw [if_neg c3] at H
          have c3b0 : decide (x4_1 < 20) = false := decide_eq_false c3
          clear c3
          obtain rfl := Option.some.inj H
          go_wp2
          go_ret
          exact ⟨_, by first | rfl | (simp [errW_none, errW_some] <;> rfl) | (simp [*, errW_none, errW_some] <;> rfl), by (with_reducible repeat (first | apply Kd.R_alloc | apply Kd.R_drewN | apply Kd.R_drew)); exact HO_3.out, bel HB.out⟩
      · rw [if_neg c2] at H
        have c2b0 : decide (x4_1 < (l0.length : Int)) = false := decide_eq_false c2
        clear c2
        obtain rfl := Option.some.inj H
        go_wp2
        go_ret
        exact ⟨_, by first | rfl | (simp [errW_none, errW_some] <;> rfl) | (simp [*, errW_none, errW_some] <;> rfl), by (with_reducible repeat (first | apply Kd.R_alloc | apply Kd.R_drewN | apply Kd.R_drew)); exact HO_3.out, bel HB.out⟩

end Go.Proofs.Ytlkphdcfgaolnaa.P
