-- Printed by wip/myprint.py of this repo (over the kit's printer). Not trusted: Lean checks it.
import Derived.Test.YtmjmdnpenpdmhaaP0
import Derived.Test.YtmjmdnpenpdmhaaP0tipstaffref18
import Derived.Test.YtmjmdnpenpdmhaaP0tipstaffref18b
namespace Go.Proofs.Ytmjmdnpenpdmhaa.P
open Go.RowKit Go.Proofs.YtmjmdnpenpdmhaaW.PrintWords Go.Proofs.YtmjmdnpenpdmhaaW.PrintLast Go.Proofs.YtmjmdnpenpdmhaaW.PrintMore
attribute [local go_sem] cell_same1 cell_some1
attribute [local go_sem] max2_int min2_int max_two min_two max_three min_three max_four min_four   -- for this text's walks alone
set_option linter.unusedVariables false
set_option linter.unusedSimpArgs false

/-! ### r18_least: function 56 -/
def r18_least.l0 : Nat → Int → Int → Int → Int → Int → Int → Int → Int → Option (Int)
 | 0, _, _, _, _, _, _, _, _ => none
 | k + 1, x5, x287000, x287001, x287002, x287003, x288000, x288001, x288002 => if x287000 = 0 then (some x5) else ((r18_step.f x287000 x287001 x287002 x287003 x288000 x288001 x288002 false).bind fun bt288 => (r18_least.l0 k (wrap64 (x5 + 1)) bt288.1 bt288.2.1 bt288.2.2.1 bt288.2.2.2.1 x288000 x288001 x288002))
def r18_least.f (k : Nat) (a0_0 : Int) (a0_1 : Int) (a0_2 : Int) (a0_3 : Int) (a1_0 : Int) (a1_1 : Int) (a1_2 : Int) : Option (Int) := r18_least.l0 k 0 a0_0 a0_1 a0_2 a0_3 a1_0 a1_1 a1_2
theorem r18_least.mono_l : ∀ k, (∀ y0 y1 y2 y3 y4 y5 y6 y7, LeO (r18_least.l0 k y0 y1 y2 y3 y4 y5 y6 y7) (r18_least.l0 (k + 1) y0 y1 y2 y3 y4 y5 y6 y7))
 | 0 => fun _ _ _ _ _ _ _ _ r h => by simp [r18_least.l0] at h
 | k + 1 => by
  have ih0 := r18_least.mono_l k
  ·intro y0 y1 y2 y3 y4 y5 y6 y7
   unfold r18_least.l0
   repeat' first
   | (with_reducible exact ih0 _ _ _ _ _ _ _ _)
   | (with_reducible exact LeO.refl _)
   | (with_reducible exact LeO.none _)
   | (with_reducible refine LeO.ite ?_ ?_)
   | (with_reducible refine LeO.bind ?_ (fun _ => ?_))
   | exact ih0 _ _ _ _ _ _ _ _
   | exact LeO.none _
   | refine LeO.ite ?_ ?_
   | refine LeO.bind ?_ (fun _ => ?_)
theorem r18_least.mono : ∀ a0 a1 a2 a3 a4 a5 a6 k, LeO (r18_least.f k a0 a1 a2 a3 a4 a5 a6) (r18_least.f (k + 1) a0 a1 a2 a3 a4 a5 a6) := by
 intro a0 a1 a2 a3 a4 a5 a6 k
 have ih0 := r18_least.mono_l k
 unfold r18_least.f
 repeat' first
   | (with_reducible exact ih0 _ _ _ _ _ _ _ _)
   | (with_reducible exact LeO.refl _)
   | (with_reducible exact LeO.none _)
   | (with_reducible refine LeO.ite ?_ ?_)
   | (with_reducible refine LeO.bind ?_ (fun _ => ?_))
   | exact ih0 _ _ _ _ _ _ _ _
   | exact LeO.none _
   | refine LeO.ite ?_ ?_
   | refine LeO.bind ?_ (fun _ => ?_)
set_option maxHeartbeats 8000000 in
set_option maxRecDepth 100000 in
theorem r18_least.calls (k : Nat) (a0_0 : Int) (a0_1 : Int) (a0_2 : Int) (a0_3 : Int) (a1_0 : Int) (a1_1 : Int) (a1_2 : Int) (r : Int) (w : World) (h : r18_least.f k a0_0 a0_1 a0_2 a0_3 a1_0 a1_1 a1_2 = some r) :
  Calls Try.prog 56 #[.agg #[.int .i64 a0_0, .int .i64 a0_1, .int .i64 a0_2, .int .i64 a0_3], .agg #[.int .i64 a1_0, .int .i64 a1_1, .int .i64 a1_2]] w fun e w' => e = .returned (.int .i64 r) ∧ Below w.heap.size w w' := by
 have hu37 := Try.underlying37
 have hu23 := Try.underlying23
 have HB := Aside0.mk (Below.refl w.heap.size w)
 have H : (r18_least.l0 k 0 a0_0 a0_1 a0_2 a0_3 a1_0 a1_1 a1_2) = some r := h
 clear h
 have H' := Aside0.mk H
 clear H
 go_enter Try.func56, Try.ntmps56
 go_wp2_with (first | ((with_reducible refine gate_dst (N := 2) rfl ?_); refine bxe (cs := #[.int .i64 a0_0, .int .i64 a0_1, .int .i64 a0_2, .int .i64 a0_3]) (t := 37) ?_; intro gb286 hg w3 hbox hb; have BK286 := Aside0.mk (hbox); have GW286 := Aside0.mk (bge hg HB.out); have GE286 := Aside0.mk (bge hg HB.out); replace HB := Aside0.mk (bst HB.out hb); clear hb hbox hg) | ((with_reducible refine gate_dst (N := 3) rfl ?_); refine bxe (cs := #[.int .i64 a1_0, .int .i64 a1_1, .int .i64 a1_2]) (t := 23) ?_; intro gb287 hg w4 hbox hb; have BK287 := Aside0.mk (hbox); have GW287 := Aside0.mk (bge hg HB.out); have GE287 := Aside0.mk (bge hg HB.out); have NB286_287 := Aside0.mk ((bkl hg BK286.out)); have NB287_286 := Aside0.mk ((bkg hg BK286.out)); replace BK286 := Aside0.mk (bkb BK286.out hb); replace HB := Aside0.mk (bst HB.out hb); clear hb hbox hg))
 go_loopg [5] k (fun kq v5 w' => ∃ (x5_1 : Int) (x287000_1 : Int) (x287001_1 : Int) (x287002_1 : Int) (x287003_1 : Int), v5 = .int .i64 x5_1 ∧ Aside0 (r18_least.l0 kq x5_1 x287000_1 x287001_1 x287002_1 x287003_1 a1_0 a1_1 a1_2 = some r) ∧ Aside0 (kq ≤ k) ∧ Aside0 (w'.heap[gb286]? = some (.cells #[.int .i64 x287000_1, .int .i64 x287001_1, .int .i64 x287002_1, .int .i64 x287003_1] 37 (0, 0))) ∧ Aside0 (w'.heap[gb287]? = some (.cells #[.int .i64 a1_0, .int .i64 a1_1, .int .i64 a1_2] 23 (0, 0))) ∧ Aside0 (Below w.heap.size w w'))
 case atStart => exact ⟨(0), (a0_0), (a0_1), (a0_2), (a0_3), (by first | rfl | (simp; done) | (simp [*]; done)), H', ⟨Nat.le_refl _⟩, ⟨bkt BK286.out⟩, ⟨bkt BK287.out⟩, ⟨bel HB.out⟩⟩
 case round =>
  clear H'
  try clear p2
  obtain ⟨x5_1, x287000_1, x287001_1, x287002_1, x287003_1, rfl, HA, HK1, BK286, BK287, HB⟩ := hrel
  cases gk with
  | zero => exact absurd HA.out (by simp [r18_least.l0])
  | succ k1 =>
   have H := HA.out
   clear HA
   simp only [r18_least.l0] at H
   by_cases c5 : x287000_1 = 0
   ·rw [if_pos c5] at H
    have c5b0 : (x287000_1 == 0) = true := beq_iff_eq.mpr c5
    have c5b1 : (x287000_1 != 0) = false := bne_eq_false_iff_eq.mpr c5
    clear c5
    obtain rfl := Option.some.inj H
    have hnb6 := NB286_287.out
    have hnc6 := NB287_286.out
    have hcz7_0 := cz4 BK286.out
    have hfz7_0 := blk_frozen BK286.out
    go_wp2
    go_ret
    exact bfin (bel HB.out)
   ·rw [if_neg c5] at H
    have c5b0 : (x287000_1 == 0) = false := beq_eq_false_iff_ne.mpr c5
    have c5b1 : (x287000_1 != 0) = true := bne_iff_ne.mpr c5
    replace H := Option.bind_eq_some_iff.mp H
    obtain ⟨⟨t288, t289, t290, t291, t292⟩, A80, H⟩ := H
    replace H : (r18_least.l0 k1 (wrap64 (x5_1 + 1)) t288 t289 t290 t291 a1_0 a1_1 a1_2) = some r := H
    have A8 := Aside0.mk A80
    clear A80
    have H' := Aside0.mk H
    clear H
    have hnb9 := NB286_287.out
    have hnc9 := NB287_286.out
    have hcz10_0 := cz4 BK286.out
    have hfz10_0 := blk_frozen BK286.out
    have hcz11_0 := cz3 BK287.out
    have hfz11_0 := blk_frozen BK287.out
    go_wp2_with (first | ((with_reducible refine gate_callee (f := 58) rfl ?_); refine gsl (some 12) Try.func58 #[.agg #[.int .i64 x287000_1, .int .i64 x287001_1, .int .i64 x287002_1, .int .i64 x287003_1], .agg #[.int .i64 a1_0, .int .i64 a1_1, .int .i64 a1_2], .bool false] ?_; (with_reducible refine (r18_step.calls x287000_1 x287001_1 x287002_1 x287003_1 a1_0 a1_1 a1_2 false t288 t289 t290 t291 t292 _ A8.out).mono ?_); rintro e w12 ⟨rfl, hb⟩; refine ⟨_, rfl, ?_⟩; replace BK286 := Aside0.mk (bkb BK286.out hb); replace BK287 := Aside0.mk (bkb BK287.out hb); replace HB := Aside0.mk (bst HB.out hb); (try clear hb); (try clear hb2); (try clear hk); (try clear hi); have hcz13_0 := cz4 BK286.out; have hfz13_0 := blk_frozen BK286.out))
    go_roundg k1
    case measure => have := HK1.out; omega
    case rel => exact ⟨(wrap64 (x5_1 + 1)), (t288), (t289), (t290), (t291), (by first | rfl | (simp; done) | (simp [*]; done)), H', ⟨by have := HK1.out; omega⟩, ⟨bkt BK286.out⟩, ⟨bkt BK287.out⟩, ⟨bel HB.out⟩⟩

/-! ### r18_most: function 57 -/
def r18_most.l0 : Nat → Int → Int → Int → Int → Int → Int → Int → Int → Option (Int)
 | 0, _, _, _, _, _, _, _, _ => none
 | k + 1, x5, x294000, x294001, x294002, x294003, x295000, x295001, x295002 => if x294000 = 0 then (some x5) else (if x294000 = 3 then (if x294001 = 1 then ((r18_step.f x294000 x294001 x294002 x294003 x295000 x295001 x295002 (decide (x294003 < x295002))).bind fun bt295 => (r18_most.l0 k (wrap64 (x5 + 1)) bt295.1 bt295.2.1 bt295.2.2.1 bt295.2.2.2.1 x295000 x295001 x295002)) else ((r18_step.f x294000 x294001 x294002 x294003 x295000 x295001 x295002 false).bind fun bt300 => (r18_most.l0 k (wrap64 (x5 + 1)) bt300.1 bt300.2.1 bt300.2.2.1 bt300.2.2.2.1 x295000 x295001 x295002))) else ((r18_step.f x294000 x294001 x294002 x294003 x295000 x295001 x295002 false).bind fun bt305 => (r18_most.l0 k (wrap64 (x5 + 1)) bt305.1 bt305.2.1 bt305.2.2.1 bt305.2.2.2.1 x295000 x295001 x295002)))
def r18_most.f (k : Nat) (a0_0 : Int) (a0_1 : Int) (a0_2 : Int) (a0_3 : Int) (a1_0 : Int) (a1_1 : Int) (a1_2 : Int) : Option (Int) := r18_most.l0 k 0 a0_0 a0_1 a0_2 a0_3 a1_0 a1_1 a1_2
theorem r18_most.mono_l : ∀ k, (∀ y0 y1 y2 y3 y4 y5 y6 y7, LeO (r18_most.l0 k y0 y1 y2 y3 y4 y5 y6 y7) (r18_most.l0 (k + 1) y0 y1 y2 y3 y4 y5 y6 y7))
 | 0 => fun _ _ _ _ _ _ _ _ r h => by simp [r18_most.l0] at h
 | k + 1 => by
  have ih0 := r18_most.mono_l k
  ·intro y0 y1 y2 y3 y4 y5 y6 y7
   unfold r18_most.l0
   repeat' first
   | (with_reducible exact ih0 _ _ _ _ _ _ _ _)
   | (with_reducible exact LeO.refl _)
   | (with_reducible exact LeO.none _)
   | (with_reducible refine LeO.ite ?_ ?_)
   | (with_reducible refine LeO.bind ?_ (fun _ => ?_))
   | exact ih0 _ _ _ _ _ _ _ _
   | exact LeO.none _
   | refine LeO.ite ?_ ?_
   | refine LeO.bind ?_ (fun _ => ?_)
theorem r18_most.mono : ∀ a0 a1 a2 a3 a4 a5 a6 k, LeO (r18_most.f k a0 a1 a2 a3 a4 a5 a6) (r18_most.f (k + 1) a0 a1 a2 a3 a4 a5 a6) := by
 intro a0 a1 a2 a3 a4 a5 a6 k
 have ih0 := r18_most.mono_l k
 unfold r18_most.f
 repeat' first
   | (with_reducible exact ih0 _ _ _ _ _ _ _ _)
   | (with_reducible exact LeO.refl _)
   | (with_reducible exact LeO.none _)
   | (with_reducible refine LeO.ite ?_ ?_)
   | (with_reducible refine LeO.bind ?_ (fun _ => ?_))
   | exact ih0 _ _ _ _ _ _ _ _
   | exact LeO.none _
   | refine LeO.ite ?_ ?_
   | refine LeO.bind ?_ (fun _ => ?_)
set_option maxHeartbeats 8000000 in
set_option maxRecDepth 100000 in
theorem r18_most.calls (k : Nat) (a0_0 : Int) (a0_1 : Int) (a0_2 : Int) (a0_3 : Int) (a1_0 : Int) (a1_1 : Int) (a1_2 : Int) (r : Int) (w : World) (h : r18_most.f k a0_0 a0_1 a0_2 a0_3 a1_0 a1_1 a1_2 = some r) :
  Calls Try.prog 57 #[.agg #[.int .i64 a0_0, .int .i64 a0_1, .int .i64 a0_2, .int .i64 a0_3], .agg #[.int .i64 a1_0, .int .i64 a1_1, .int .i64 a1_2]] w fun e w' => e = .returned (.int .i64 r) ∧ Below w.heap.size w w' := by
 have hu37 := Try.underlying37
 have hu23 := Try.underlying23
 have HB := Aside0.mk (Below.refl w.heap.size w)
 have H : (r18_most.l0 k 0 a0_0 a0_1 a0_2 a0_3 a1_0 a1_1 a1_2) = some r := h
 clear h
 have H' := Aside0.mk H
 clear H
 go_enter Try.func57, Try.ntmps57
 go_wp2_with (first | ((with_reducible refine gate_dst (N := 2) rfl ?_); refine bxe (cs := #[.int .i64 a0_0, .int .i64 a0_1, .int .i64 a0_2, .int .i64 a0_3]) (t := 37) ?_; intro gb293 hg w3 hbox hb; have BK293 := Aside0.mk (hbox); have GW293 := Aside0.mk (bge hg HB.out); have GE293 := Aside0.mk (bge hg HB.out); replace HB := Aside0.mk (bst HB.out hb); clear hb hbox hg) | ((with_reducible refine gate_dst (N := 3) rfl ?_); refine bxe (cs := #[.int .i64 a1_0, .int .i64 a1_1, .int .i64 a1_2]) (t := 23) ?_; intro gb294 hg w4 hbox hb; have BK294 := Aside0.mk (hbox); have GW294 := Aside0.mk (bge hg HB.out); have GE294 := Aside0.mk (bge hg HB.out); have NB293_294 := Aside0.mk ((bkl hg BK293.out)); have NB294_293 := Aside0.mk ((bkg hg BK293.out)); replace BK293 := Aside0.mk (bkb BK293.out hb); replace HB := Aside0.mk (bst HB.out hb); clear hb hbox hg))
 go_loopg [5] k (fun kq v5 w' => ∃ (x5_1 : Int) (x294000_1 : Int) (x294001_1 : Int) (x294002_1 : Int) (x294003_1 : Int), v5 = .int .i64 x5_1 ∧ Aside0 (r18_most.l0 kq x5_1 x294000_1 x294001_1 x294002_1 x294003_1 a1_0 a1_1 a1_2 = some r) ∧ Aside0 (kq ≤ k) ∧ Aside0 (w'.heap[gb293]? = some (.cells #[.int .i64 x294000_1, .int .i64 x294001_1, .int .i64 x294002_1, .int .i64 x294003_1] 37 (0, 0))) ∧ Aside0 (w'.heap[gb294]? = some (.cells #[.int .i64 a1_0, .int .i64 a1_1, .int .i64 a1_2] 23 (0, 0))) ∧ Aside0 (Below w.heap.size w w'))
 case atStart => exact ⟨(0), (a0_0), (a0_1), (a0_2), (a0_3), (by first | rfl | (simp; done) | (simp [*]; done)), H', ⟨Nat.le_refl _⟩, ⟨bkt BK293.out⟩, ⟨bkt BK294.out⟩, ⟨bel HB.out⟩⟩
 case round =>
  clear H'
  try clear p2
  obtain ⟨x5_1, x294000_1, x294001_1, x294002_1, x294003_1, rfl, HA, HK1, BK293, BK294, HB⟩ := hrel
  cases gk with
  | zero => exact absurd HA.out (by simp [r18_most.l0])
  | succ k1 =>
   have H := HA.out
   clear HA
   simp only [r18_most.l0] at H
   by_cases c5 : x294000_1 = 0
   ·rw [if_pos c5] at H
    have c5b0 : (x294000_1 == 0) = true := beq_iff_eq.mpr c5
    have c5b1 : (x294000_1 != 0) = false := bne_eq_false_iff_eq.mpr c5
    clear c5
    obtain rfl := Option.some.inj H
    have hnb6 := NB293_294.out
    have hnc6 := NB294_293.out
    have hcz7_0 := cz4 BK293.out
    have hfz7_0 := blk_frozen BK293.out
    go_wp2
    go_ret
    exact bfin (bel HB.out)
   ·rw [if_neg c5] at H
    have c5b0 : (x294000_1 == 0) = false := beq_eq_false_iff_ne.mpr c5
    have c5b1 : (x294000_1 != 0) = true := bne_iff_ne.mpr c5
    by_cases c8 : x294000_1 = 3
    ·rw [if_pos c8] at H
     have c8b0 : (x294000_1 == 3) = true := beq_iff_eq.mpr c8
     have c8b1 : (x294000_1 != 3) = false := bne_eq_false_iff_eq.mpr c8
     clear c8
     by_cases c9 : x294001_1 = 1
     ·rw [if_pos c9] at H
      have c9b0 : (x294001_1 == 1) = true := beq_iff_eq.mpr c9
      have c9b1 : (x294001_1 != 1) = false := bne_eq_false_iff_eq.mpr c9
      clear c9
      replace H := Option.bind_eq_some_iff.mp H
      obtain ⟨⟨t295, t296, t297, t298, t299⟩, A100, H⟩ := H
      replace H : (r18_most.l0 k1 (wrap64 (x5_1 + 1)) t295 t296 t297 t298 a1_0 a1_1 a1_2) = some r := H
      have A10 := Aside0.mk A100
      clear A100
      have H' := Aside0.mk H
      clear H
      have hnb11 := NB293_294.out
      have hnc11 := NB294_293.out
      have hcz12_0 := cz4 BK293.out
      have hfz12_0 := blk_frozen BK293.out
      have hcz13_0 := cz3 BK294.out
      have hfz13_0 := blk_frozen BK294.out
      go_wp2_with (first | ((with_reducible refine gate_callee (f := 58) rfl ?_); refine gsl (some 27) Try.func58 #[.agg #[.int .i64 x294000_1, .int .i64 x294001_1, .int .i64 x294002_1, .int .i64 x294003_1], .agg #[.int .i64 a1_0, .int .i64 a1_1, .int .i64 a1_2], .bool (decide (x294003_1 < a1_2))] ?_; (with_reducible refine (r18_step.calls x294000_1 x294001_1 x294002_1 x294003_1 a1_0 a1_1 a1_2 (decide (x294003_1 < a1_2)) t295 t296 t297 t298 t299 _ A10.out).mono ?_); rintro e w14 ⟨rfl, hb⟩; refine ⟨_, rfl, ?_⟩; replace BK293 := Aside0.mk (bkb BK293.out hb); replace BK294 := Aside0.mk (bkb BK294.out hb); replace HB := Aside0.mk (bst HB.out hb); (try clear hb); (try clear hb2); (try clear hk); (try clear hi); have hcz15_0 := cz4 BK293.out; have hfz15_0 := blk_frozen BK293.out))
      go_roundg k1
      case measure => have := HK1.out; omega
      case rel => exact ⟨(wrap64 (x5_1 + 1)), (t295), (t296), (t297), (t298), (by first | rfl | (simp; done) | (simp [*]; done)), H', ⟨by have := HK1.out; omega⟩, ⟨bkt BK293.out⟩, ⟨bkt BK294.out⟩, ⟨bel HB.out⟩⟩
     ·rw [if_neg c9] at H
      have c9b0 : (x294001_1 == 1) = false := beq_eq_false_iff_ne.mpr c9
      have c9b1 : (x294001_1 != 1) = true := bne_iff_ne.mpr c9
      replace H := Option.bind_eq_some_iff.mp H
      obtain ⟨⟨t300, t301, t302, t303, t304⟩, A160, H⟩ := H
      replace H : (r18_most.l0 k1 (wrap64 (x5_1 + 1)) t300 t301 t302 t303 a1_0 a1_1 a1_2) = some r := H
      have A16 := Aside0.mk A160
      clear A160
      have H' := Aside0.mk H
      clear H
      have hnb17 := NB293_294.out
      have hnc17 := NB294_293.out
      have hcz18_0 := cz4 BK293.out
      have hfz18_0 := blk_frozen BK293.out
      have hcz19_0 := cz3 BK294.out
      have hfz19_0 := blk_frozen BK294.out
      go_wp2_with (first | ((with_reducible refine gate_callee (f := 58) rfl ?_); refine gsl (some 27) Try.func58 #[.agg #[.int .i64 x294000_1, .int .i64 x294001_1, .int .i64 x294002_1, .int .i64 x294003_1], .agg #[.int .i64 a1_0, .int .i64 a1_1, .int .i64 a1_2], .bool false] ?_; (with_reducible refine (r18_step.calls x294000_1 x294001_1 x294002_1 x294003_1 a1_0 a1_1 a1_2 false t300 t301 t302 t303 t304 _ A16.out).mono ?_); rintro e w20 ⟨rfl, hb⟩; refine ⟨_, rfl, ?_⟩; replace BK293 := Aside0.mk (bkb BK293.out hb); replace BK294 := Aside0.mk (bkb BK294.out hb); replace HB := Aside0.mk (bst HB.out hb); (try clear hb); (try clear hb2); (try clear hk); (try clear hi); have hcz21_0 := cz4 BK293.out; have hfz21_0 := blk_frozen BK293.out))
      go_roundg k1
      case measure => have := HK1.out; omega
      case rel => exact ⟨(wrap64 (x5_1 + 1)), (t300), (t301), (t302), (t303), (by first | rfl | (simp; done) | (simp [*]; done)), H', ⟨by have := HK1.out; omega⟩, ⟨bkt BK293.out⟩, ⟨bkt BK294.out⟩, ⟨bel HB.out⟩⟩
    ·rw [if_neg c8] at H
     have c8b0 : (x294000_1 == 3) = false := beq_eq_false_iff_ne.mpr c8
     have c8b1 : (x294000_1 != 3) = true := bne_iff_ne.mpr c8
     replace H := Option.bind_eq_some_iff.mp H
     obtain ⟨⟨t305, t306, t307, t308, t309⟩, A220, H⟩ := H
     replace H : (r18_most.l0 k1 (wrap64 (x5_1 + 1)) t305 t306 t307 t308 a1_0 a1_1 a1_2) = some r := H
     have A22 := Aside0.mk A220
     clear A220
     have H' := Aside0.mk H
     clear H
     have hnb23 := NB293_294.out
     have hnc23 := NB294_293.out
     have hcz24_0 := cz4 BK293.out
     have hfz24_0 := blk_frozen BK293.out
     have hcz25_0 := cz3 BK294.out
     have hfz25_0 := blk_frozen BK294.out
     go_wp2_with (first | ((with_reducible refine gate_callee (f := 58) rfl ?_); refine gsl (some 27) Try.func58 #[.agg #[.int .i64 x294000_1, .int .i64 x294001_1, .int .i64 x294002_1, .int .i64 x294003_1], .agg #[.int .i64 a1_0, .int .i64 a1_1, .int .i64 a1_2], .bool false] ?_; (with_reducible refine (r18_step.calls x294000_1 x294001_1 x294002_1 x294003_1 a1_0 a1_1 a1_2 false t305 t306 t307 t308 t309 _ A22.out).mono ?_); rintro e w26 ⟨rfl, hb⟩; refine ⟨_, rfl, ?_⟩; replace BK293 := Aside0.mk (bkb BK293.out hb); replace BK294 := Aside0.mk (bkb BK294.out hb); replace HB := Aside0.mk (bst HB.out hb); (try clear hb); (try clear hb2); (try clear hk); (try clear hi); have hcz27_0 := cz4 BK293.out; have hfz27_0 := blk_frozen BK293.out))
     go_roundg k1
     case measure => have := HK1.out; omega
     case rel => exact ⟨(wrap64 (x5_1 + 1)), (t305), (t306), (t307), (t308), (by first | rfl | (simp; done) | (simp [*]; done)), H', ⟨by have := HK1.out; omega⟩, ⟨bkt BK293.out⟩, ⟨bkt BK294.out⟩, ⟨bel HB.out⟩⟩

/-! ### r18_Rest: function 44 -/
def r18_Rest.f (k : Nat) (a0_0 : Int) (a0_1 : Int) (a0_2 : Int) (a0_3 : Int) (a1_0 : Int) (a1_1 : Int) (a1_2 : Int) : Option (Int × Int × Int) := (r18_Check.f k a0_0 a0_1 a0_2 a0_3 a1_0 a1_1 a1_2).bind fun t312 => (if t312 = 0 then ((r18_least.f k a0_0 a0_1 a0_2 a0_3 a1_0 a1_1 a1_2).bind fun t313 => ((r18_most.f k a0_0 a0_1 a0_2 a0_3 a1_0 a1_1 a1_2).bind fun t314 => (some (t313, t314, 0)))) else (some (0, 0, t312)))
theorem r18_Rest.mono : ∀ a0 a1 a2 a3 a4 a5 a6 k, LeO (r18_Rest.f k a0 a1 a2 a3 a4 a5 a6) (r18_Rest.f (k + 1) a0 a1 a2 a3 a4 a5 a6) := by
 intro a0 a1 a2 a3 a4 a5 a6 k
 unfold r18_Rest.f
 repeat' first
   | (with_reducible exact r18_Check.mono _ _ _ _ _ _ _ _)
   | (with_reducible exact r18_least.mono _ _ _ _ _ _ _ _)
   | (with_reducible exact r18_most.mono _ _ _ _ _ _ _ _)
   | (with_reducible exact LeO.refl _)
   | (with_reducible exact LeO.none _)
   | (with_reducible refine LeO.ite ?_ ?_)
   | (with_reducible refine LeO.bind ?_ (fun _ => ?_))
   | exact r18_Check.mono _ _ _ _ _ _ _ _
   | exact r18_least.mono _ _ _ _ _ _ _ _
   | exact r18_most.mono _ _ _ _ _ _ _ _
   | exact LeO.none _
   | refine LeO.ite ?_ ?_
   | refine LeO.bind ?_ (fun _ => ?_)
def r18_Rest.T4 : Bool × List (List Nat × List Nat) := (true, [([], []), ([], []), ([0, 1], [0, 1]), ([], []), ([], []), ([3, 4, 2], [3, 4]), ([2, 5, 0, 1, 2], [2]), ([5, 6, 0, 1, 2, 3, 4, 5, 6], [5]), ([7, 0, 1, 2, 3, 4, 5, 6, 7], [])])
def r18_Rest.B4 : List Nat := [0, 0, 3, 0, 0, 31, 63, 127, 255]
theorem r18_Rest.tab4 : rtab .any (opsOf Try.f44 4) = r18_Rest.T4 := by kernel_rfl
theorem r18_Rest.bits4 : waitsOk r18_Rest.T4.2 r18_Rest.B4 = true := by kernel_rfl
set_option maxHeartbeats 8000000 in
set_option maxRecDepth 100000 in
theorem r18_Rest.calls (k : Nat) (a0_0 : Int) (a0_1 : Int) (a0_2 : Int) (a0_3 : Int) (a1_0 : Int) (a1_1 : Int) (a1_2 : Int) (r1 : Int) (r2 : Int) (r3 : Int) (w : World) (h : r18_Rest.f k a0_0 a0_1 a0_2 a0_3 a1_0 a1_1 a1_2 = some (r1, r2, r3)) :
  Calls Try.prog 44 #[.agg #[.int .i64 a0_0, .int .i64 a0_1, .int .i64 a0_2, .int .i64 a0_3], .agg #[.int .i64 a1_0, .int .i64 a1_1, .int .i64 a1_2]] w fun e w' => e = .returned (.tuple #[.int .i64 r1, .int .i64 r2, .int .i64 r3]) ∧ Below w.heap.size w w' := by
 have hu37 := Try.underlying37
 have hu23 := Try.underlying23
 have HB := Aside0.mk (Below.refl w.heap.size w)
 have H : ((r18_Check.f k a0_0 a0_1 a0_2 a0_3 a1_0 a1_1 a1_2).bind fun t312 => (if t312 = 0 then ((r18_least.f k a0_0 a0_1 a0_2 a0_3 a1_0 a1_1 a1_2).bind fun t313 => ((r18_most.f k a0_0 a0_1 a0_2 a0_3 a1_0 a1_1 a1_2).bind fun t314 => (some (t313, t314, 0)))) else (some (0, 0, t312)))) = some (r1, r2, r3) := h
 clear h
 replace H := Option.bind_eq_some_iff.mp H
 obtain ⟨t312, A30, H⟩ := H
 replace H : (if t312 = 0 then ((r18_least.f k a0_0 a0_1 a0_2 a0_3 a1_0 a1_1 a1_2).bind fun t313 => ((r18_most.f k a0_0 a0_1 a0_2 a0_3 a1_0 a1_1 a1_2).bind fun t314 => (some (t313, t314, 0)))) else (some (0, 0, t312))) = some (r1, r2, r3) := H
 have A3 := Aside0.mk A30
 clear A30
 by_cases c4 : t312 = 0
 ·rw [if_pos c4] at H
  have c4b0 : (t312 == 0) = true := beq_iff_eq.mpr c4
  have c4b1 : (t312 != 0) = false := bne_eq_false_iff_eq.mpr c4
  clear c4
  replace H := Option.bind_eq_some_iff.mp H
  obtain ⟨t313, A50, H⟩ := H
  replace H : ((r18_most.f k a0_0 a0_1 a0_2 a0_3 a1_0 a1_1 a1_2).bind fun t314 => (some (t313, t314, 0))) = some (r1, r2, r3) := H
  have A5 := Aside0.mk A50
  clear A50
  replace H := Option.bind_eq_some_iff.mp H
  obtain ⟨t314, A60, H⟩ := H
  replace H : (some (t313, t314, 0)) = some (r1, r2, r3) := H
  have A6 := Aside0.mk A60
  clear A60
  simp only [Option.some.injEq, Prod.mk.injEq] at H
  obtain ⟨rfl, rfl, rfl⟩ := H
  go_enter Try.func44, Try.ntmps44
  try go_wp2_with (first | ((with_reducible refine gate_dst (N := 2) rfl ?_); refine bxe (cs := #[.int .i64 a0_0, .int .i64 a0_1, .int .i64 a0_2, .int .i64 a0_3]) (t := 37) ?_; intro gb310 hg w7 hbox hb; have BK310 := Aside0.mk (hbox); have GW310 := Aside0.mk (bge hg HB.out); have GE310 := Aside0.mk (bge hg HB.out); replace HB := Aside0.mk (bst HB.out hb); clear hb hbox hg) | ((with_reducible refine gate_dst (N := 3) rfl ?_); refine bxe (cs := #[.int .i64 a1_0, .int .i64 a1_1, .int .i64 a1_2]) (t := 23) ?_; intro gb311 hg w8 hbox hb; have BK311 := Aside0.mk (hbox); have GW311 := Aside0.mk (bge hg HB.out); have GE311 := Aside0.mk (bge hg HB.out); have NB310_311 := Aside0.mk ((bkl hg BK310.out)); have NB311_310 := Aside0.mk ((bkg hg BK310.out)); replace BK310 := Aside0.mk (bkb BK310.out hb); replace HB := Aside0.mk (bst HB.out hb); clear hb hbox hg; have hnb9 := NB310_311.out; have hnc9 := NB311_310.out; have hcz10_0 := cz4 BK310.out; have hfz10_0 := blk_frozen BK310.out; have hcz11_0 := cz3 BK311.out; have hfz11_0 := blk_frozen BK311.out) | ((with_reducible refine gate_callee (f := 43) rfl ?_); refine gsl (some 10) Try.func43 #[.agg #[.int .i64 a0_0, .int .i64 a0_1, .int .i64 a0_2, .int .i64 a0_3], .agg #[.int .i64 a1_0, .int .i64 a1_1, .int .i64 a1_2]] ?_; (with_reducible refine (r18_Check.calls k a0_0 a0_1 a0_2 a0_3 a1_0 a1_1 a1_2 t312 _ A3.out).mono ?_); rintro e w12 ⟨rfl, hb⟩; refine ⟨_, rfl, ?_⟩; replace BK310 := Aside0.mk (bkb BK310.out hb); replace BK311 := Aside0.mk (bkb BK311.out hb); replace HB := Aside0.mk (bst HB.out hb); (try clear hb); (try clear hb2); (try clear hk); (try clear hi)))
  have n0_ := Aside0.mk (blk_drew BK310.out)
  have n1_ := Aside0.mk (blk_drew BK311.out)
  have n2_ := Aside0.mk (below_drew1 HB.out)
  clear BK310
  clear BK311
  clear HB
  have BK310 := n0_
  have BK311 := n1_
  have HB := n2_
  clear n0_ n1_ n2_
  refine start_ (n := 9) (S := fun w' => w'.cell? ⟨gb310, 0, none⟩ = some (.int .i64 a0_0) ∧ w'.cell? ⟨gb310, 1, none⟩ = some (.int .i64 a0_1) ∧ w'.cell? ⟨gb310, 2, none⟩ = some (.int .i64 a0_2) ∧ w'.cell? ⟨gb310, 3, none⟩ = some (.int .i64 a0_3) ∧ w'.cell? ⟨gb311, 0, none⟩ = some (.int .i64 a1_0) ∧ w'.cell? ⟨gb311, 1, none⟩ = some (.int .i64 a1_1) ∧ w'.cell? ⟨gb311, 2, none⟩ = some (.int .i64 a1_2)) (ds := []) #[false, false, false, false, false, false, false, false, false] (by kernel_rfl) rfl rfl ⟨(blk_cell BK310.out 0).trans rfl, (blk_cell BK310.out 1).trans rfl, (blk_cell BK310.out 2).trans rfl, (blk_cell BK310.out 3).trans rfl, (blk_cell BK311.out 0).trans rfl, (blk_cell BK311.out 1).trans rfl, (blk_cell BK311.out 2).trans rfl⟩ (fun hHeld => ?_); refine with_tabW r18_Rest.tab4 r18_Rest.bits4 (fun HT_ HW_ => ?_)
  generalize w12.drew = w13 at BK310 BK311 HB hHeld ⊢
  refine tkp 0 (some 14) (bm 9 1) HT_.out HW_.out hHeld ?_
  refine tkp 1 (some 15) (bm 9 3) HT_.out HW_.out hHeld ?_
  refine tkp 3 (some 17) (bm 9 11) HT_.out HW_.out hHeld ?_
  refine tkp 4 (some 18) (bm 9 27) HT_.out HW_.out hHeld ?_
  refine one_ (i := 2) (N := some 16) (bm 9 31) rfl rfl (one_of HT_.out (by kernel_rfl)) (by decide) (fun K hK => ?_)
  refine goes_ Try.func56 (by kernel_rfl) rfl #[.agg #[.int .i64 a0_0, .int .i64 a0_1, .int .i64 a0_2, .int .i64 a0_3], .agg #[.int .i64 a1_0, .int .i64 a1_1, .int .i64 a1_2]] (by rfl) rfl rfl (by (try simp only [List.map_toArray, List.map_cons, List.map_nil]); first | done | rfl | (simp only [List.length_drop, List.length_take]; rfl)) ?_
  with_reducible refine (r18_least.calls k a0_0 a0_1 a0_2 a0_3 a1_0 a1_1 a1_2 t313 _ A5.out).mono ?_
  rintro e w14 ⟨rfl, hb⟩
  refine ⟨_, rfl, ?_⟩
  have n0_ := Aside0.mk (bkb BK310.out hb)
  have n1_ := Aside0.mk (bkb BK311.out hb)
  have n2_ := Aside0.mk (bst HB.out hb)
  clear BK310
  clear BK311
  clear HB
  have BK310 := n0_
  have BK311 := n1_
  have HB := n2_
  clear n0_ n1_ n2_
  (try clear hb)
  (try clear hb2)
  (try clear hk)
  (try clear hi)
  refine hK.out _ _ ⟨(blk_cell BK310.out 0).trans rfl, (blk_cell BK310.out 1).trans rfl, (blk_cell BK310.out 2).trans rfl, (blk_cell BK310.out 3).trans rfl, (blk_cell BK311.out 0).trans rfl, (blk_cell BK311.out 1).trans rfl, (blk_cell BK311.out 2).trans rfl⟩ (fun hHeld => ?_)
  clear hK K
  refine norm_ (a' := ?_) ?_ ?_
  rotate_left
  ·show Act.put _ (some 16) _ = _
   simp only [Act.put, List.setIfInBounds_toArray, List.set_cons_zero, List.set_cons_succ, i64_w, i32_w]
   rfl
  refine one_ (i := 5) (N := some 19) (bm 9 63) rfl rfl (one_of HT_.out (by kernel_rfl)) (by decide) (fun K hK => ?_)
  refine goes_ Try.func57 (by kernel_rfl) rfl #[.agg #[.int .i64 a0_0, .int .i64 a0_1, .int .i64 a0_2, .int .i64 a0_3], .agg #[.int .i64 a1_0, .int .i64 a1_1, .int .i64 a1_2]] (by rfl) rfl rfl (by (try simp only [List.map_toArray, List.map_cons, List.map_nil]); first | done | rfl | (simp only [List.length_drop, List.length_take]; rfl)) ?_
  with_reducible refine (r18_most.calls k a0_0 a0_1 a0_2 a0_3 a1_0 a1_1 a1_2 t314 _ A6.out).mono ?_
  rintro e w15 ⟨rfl, hb⟩
  refine ⟨_, rfl, ?_⟩
  have n0_ := Aside0.mk (bkb BK310.out hb)
  have n1_ := Aside0.mk (bkb BK311.out hb)
  have n2_ := Aside0.mk (bst HB.out hb)
  clear BK310
  clear BK311
  clear HB
  have BK310 := n0_
  have BK311 := n1_
  have HB := n2_
  clear n0_ n1_ n2_
  (try clear hb)
  (try clear hb2)
  (try clear hk)
  (try clear hi)
  refine hK.out _ _ ⟨(blk_cell BK310.out 0).trans rfl, (blk_cell BK310.out 1).trans rfl, (blk_cell BK310.out 2).trans rfl, (blk_cell BK310.out 3).trans rfl, (blk_cell BK311.out 0).trans rfl, (blk_cell BK311.out 1).trans rfl, (blk_cell BK311.out 2).trans rfl⟩ (fun hHeld => ?_)
  clear hK K
  refine norm_ (a' := ?_) ?_ ?_
  rotate_left
  ·show Act.put _ (some 19) _ = _
   simp only [Act.put, List.setIfInBounds_toArray, List.set_cons_zero, List.set_cons_succ, i64_w, i32_w]
   rfl
  refine pur 6 (some 4) (bm 9 127) HT_.out ?_
  refine pur 7 (some 5) (bm 9 255) HT_.out ?_
  refine pur 8 (some 6) (bm 9 511) HT_.out ?_
  refine done_ (done_of HT_.out (by kernel_rfl)) ?_
  try go_wp2
  go_ret3
  exact bfin (bel HB.out)
 ·rw [if_neg c4] at H
  have c4b0 : (t312 == 0) = false := beq_eq_false_iff_ne.mpr c4
  have c4b1 : (t312 != 0) = true := bne_iff_ne.mpr c4
  simp only [Option.some.injEq, Prod.mk.injEq] at H
  obtain ⟨rfl, rfl, rfl⟩ := H
  go_enter Try.func44, Try.ntmps44
  go_wp2_with (first | ((with_reducible refine gate_dst (N := 2) rfl ?_); refine bxe (cs := #[.int .i64 a0_0, .int .i64 a0_1, .int .i64 a0_2, .int .i64 a0_3]) (t := 37) ?_; intro gb310 hg w16 hbox hb; have BK310 := Aside0.mk (hbox); have GW310 := Aside0.mk (bge hg HB.out); have GE310 := Aside0.mk (bge hg HB.out); replace HB := Aside0.mk (bst HB.out hb); clear hb hbox hg) | ((with_reducible refine gate_dst (N := 3) rfl ?_); refine bxe (cs := #[.int .i64 a1_0, .int .i64 a1_1, .int .i64 a1_2]) (t := 23) ?_; intro gb311 hg w17 hbox hb; have BK311 := Aside0.mk (hbox); have GW311 := Aside0.mk (bge hg HB.out); have GE311 := Aside0.mk (bge hg HB.out); have NB310_311 := Aside0.mk ((bkl hg BK310.out)); have NB311_310 := Aside0.mk ((bkg hg BK310.out)); replace BK310 := Aside0.mk (bkb BK310.out hb); replace HB := Aside0.mk (bst HB.out hb); clear hb hbox hg; have hnb18 := NB310_311.out; have hnc18 := NB311_310.out; have hcz19_0 := cz4 BK310.out; have hfz19_0 := blk_frozen BK310.out; have hcz20_0 := cz3 BK311.out; have hfz20_0 := blk_frozen BK311.out) | ((with_reducible refine gate_callee (f := 43) rfl ?_); refine gsl (some 10) Try.func43 #[.agg #[.int .i64 a0_0, .int .i64 a0_1, .int .i64 a0_2, .int .i64 a0_3], .agg #[.int .i64 a1_0, .int .i64 a1_1, .int .i64 a1_2]] ?_; (with_reducible refine (r18_Check.calls k a0_0 a0_1 a0_2 a0_3 a1_0 a1_1 a1_2 t312 _ A3.out).mono ?_); rintro e w21 ⟨rfl, hb⟩; refine ⟨_, rfl, ?_⟩; replace BK310 := Aside0.mk (bkb BK310.out hb); replace BK311 := Aside0.mk (bkb BK311.out hb); replace HB := Aside0.mk (bst HB.out hb); (try clear hb); (try clear hb2); (try clear hk); (try clear hi)))
  go_ret3
  exact bfin (bel HB.out)

/-! ### r18_Step: function 45 -/
def r18_Step.f (k : Nat) (a0_0 : Int) (a0_1 : Int) (a0_2 : Int) (a0_3 : Int) (a1_0 : Int) (a1_1 : Int) (a1_2 : Int) (a2 : Bool) : Option (Int × Int × Int × Int × Bool × Int) := (r18_Check.f k a0_0 a0_1 a0_2 a0_3 a1_0 a1_1 a1_2).bind fun t339 => (if t339 = 0 then ((r18_step.f a0_0 a0_1 a0_2 a0_3 a1_0 a1_1 a1_2 a2).bind fun bt340 => (some (bt340.1, bt340.2.1, bt340.2.2.1, bt340.2.2.2.1, bt340.2.2.2.2, 0))) else (some (0, 0, 0, 0, false, t339)))
theorem r18_Step.mono : ∀ a0 a1 a2 a3 a4 a5 a6 a7 k, LeO (r18_Step.f k a0 a1 a2 a3 a4 a5 a6 a7) (r18_Step.f (k + 1) a0 a1 a2 a3 a4 a5 a6 a7) := by
 intro a0 a1 a2 a3 a4 a5 a6 a7 k
 unfold r18_Step.f
 repeat' first
   | (with_reducible exact r18_Check.mono _ _ _ _ _ _ _ _)
   | (with_reducible exact LeO.refl _)
   | (with_reducible exact LeO.none _)
   | (with_reducible refine LeO.ite ?_ ?_)
   | (with_reducible refine LeO.bind ?_ (fun _ => ?_))
   | exact r18_Check.mono _ _ _ _ _ _ _ _
   | exact LeO.none _
   | refine LeO.ite ?_ ?_
   | refine LeO.bind ?_ (fun _ => ?_)
set_option maxHeartbeats 8000000 in
set_option maxRecDepth 100000 in
theorem r18_Step.calls (k : Nat) (a0_0 : Int) (a0_1 : Int) (a0_2 : Int) (a0_3 : Int) (a1_0 : Int) (a1_1 : Int) (a1_2 : Int) (a2 : Bool) (r1 : Int) (r2 : Int) (r3 : Int) (r4 : Int) (r5 : Bool) (r6 : Int) (w : World) (h : r18_Step.f k a0_0 a0_1 a0_2 a0_3 a1_0 a1_1 a1_2 a2 = some (r1, r2, r3, r4, r5, r6)) :
  Calls Try.prog 45 #[.agg #[.int .i64 a0_0, .int .i64 a0_1, .int .i64 a0_2, .int .i64 a0_3], .agg #[.int .i64 a1_0, .int .i64 a1_1, .int .i64 a1_2], .bool a2] w fun e w' => e = .returned (.tuple #[.agg #[.int .i64 r1, .int .i64 r2, .int .i64 r3, .int .i64 r4], .bool r5, .int .i64 r6]) ∧ Below w.heap.size w w' := by
 have hu37 := Try.underlying37
 have hu23 := Try.underlying23
 have HB := Aside0.mk (Below.refl w.heap.size w)
 have H : ((r18_Check.f k a0_0 a0_1 a0_2 a0_3 a1_0 a1_1 a1_2).bind fun t339 => (if t339 = 0 then ((r18_step.f a0_0 a0_1 a0_2 a0_3 a1_0 a1_1 a1_2 a2).bind fun bt340 => (some (bt340.1, bt340.2.1, bt340.2.2.1, bt340.2.2.2.1, bt340.2.2.2.2, 0))) else (some (0, 0, 0, 0, false, t339)))) = some (r1, r2, r3, r4, r5, r6) := h
 clear h
 replace H := Option.bind_eq_some_iff.mp H
 obtain ⟨t339, A40, H⟩ := H
 replace H : (if t339 = 0 then ((r18_step.f a0_0 a0_1 a0_2 a0_3 a1_0 a1_1 a1_2 a2).bind fun bt340 => (some (bt340.1, bt340.2.1, bt340.2.2.1, bt340.2.2.2.1, bt340.2.2.2.2, 0))) else (some (0, 0, 0, 0, false, t339))) = some (r1, r2, r3, r4, r5, r6) := H
 have A4 := Aside0.mk A40
 clear A40
 by_cases c5 : t339 = 0
 ·rw [if_pos c5] at H
  have c5b0 : (t339 == 0) = true := beq_iff_eq.mpr c5
  have c5b1 : (t339 != 0) = false := bne_eq_false_iff_eq.mpr c5
  clear c5
  replace H := Option.bind_eq_some_iff.mp H
  obtain ⟨⟨t340, t341, t342, t343, t344⟩, A60, H⟩ := H
  replace H : (some (t340, t341, t342, t343, t344, 0)) = some (r1, r2, r3, r4, r5, r6) := H
  have A6 := Aside0.mk A60
  clear A60
  simp only [Option.some.injEq, Prod.mk.injEq] at H
  obtain ⟨rfl, rfl, rfl, rfl, rfl, rfl⟩ := H
  go_enter Try.func45, Try.ntmps45
  go_wp2_with (first | ((with_reducible refine gate_dst (N := 3) rfl ?_); refine bxe (cs := #[.int .i64 a0_0, .int .i64 a0_1, .int .i64 a0_2, .int .i64 a0_3]) (t := 37) ?_; intro gb336 hg w7 hbox hb; have BK336 := Aside0.mk (hbox); have GW336 := Aside0.mk (bge hg HB.out); have GE336 := Aside0.mk (bge hg HB.out); replace HB := Aside0.mk (bst HB.out hb); clear hb hbox hg) | ((with_reducible refine gate_dst (N := 4) rfl ?_); refine bxe (cs := #[.int .i64 a1_0, .int .i64 a1_1, .int .i64 a1_2]) (t := 23) ?_; intro gb337 hg w8 hbox hb; have BK337 := Aside0.mk (hbox); have GW337 := Aside0.mk (bge hg HB.out); have GE337 := Aside0.mk (bge hg HB.out); have NB336_337 := Aside0.mk ((bkl hg BK336.out)); have NB337_336 := Aside0.mk ((bkg hg BK336.out)); replace BK336 := Aside0.mk (bkb BK336.out hb); replace HB := Aside0.mk (bst HB.out hb); clear hb hbox hg) | ((with_reducible refine gate_dst (N := 6) rfl ?_); refine bxe (cs := #[.int .i64 0, .int .i64 0, .int .i64 0, .int .i64 0]) (t := 37) ?_; intro gb338 hg w9 hbox hb; have BK338 := Aside0.mk (hbox); have GW338 := Aside0.mk (bge hg HB.out); have GE338 := Aside0.mk (bge hg HB.out); have NB336_338 := Aside0.mk ((bkl hg BK336.out)); have NB338_336 := Aside0.mk ((bkg hg BK336.out)); have NB337_338 := Aside0.mk ((bkl hg BK337.out)); have NB338_337 := Aside0.mk ((bkg hg BK337.out)); replace BK336 := Aside0.mk (bkb BK336.out hb); replace BK337 := Aside0.mk (bkb BK337.out hb); replace HB := Aside0.mk (bst HB.out hb); clear hb hbox hg; have hnb10 := NB336_337.out; have hnc10 := NB337_336.out; have hnb11 := NB336_338.out; have hnc11 := NB338_336.out; have hcz12_0 := cz4 BK336.out; have hfz12_0 := blk_frozen BK336.out; have hnb13 := NB337_338.out; have hnc13 := NB338_337.out; have hcz14_0 := cz3 BK337.out; have hfz14_0 := blk_frozen BK337.out) | ((with_reducible refine gate_callee (f := 43) rfl ?_); refine gsl (some 14) Try.func43 #[.agg #[.int .i64 a0_0, .int .i64 a0_1, .int .i64 a0_2, .int .i64 a0_3], .agg #[.int .i64 a1_0, .int .i64 a1_1, .int .i64 a1_2]] ?_; (with_reducible refine (r18_Check.calls k a0_0 a0_1 a0_2 a0_3 a1_0 a1_1 a1_2 t339 _ A4.out).mono ?_); rintro e w15 ⟨rfl, hb⟩; refine ⟨_, rfl, ?_⟩; replace BK336 := Aside0.mk (bkb BK336.out hb); replace BK337 := Aside0.mk (bkb BK337.out hb); replace BK338 := Aside0.mk (bkb BK338.out hb); replace HB := Aside0.mk (bst HB.out hb); (try clear hb); (try clear hb2); (try clear hk); (try clear hi); have hcz16_0 := cz4 BK336.out; have hfz16_0 := blk_frozen BK336.out; have hcz17_0 := cz3 BK337.out; have hfz17_0 := blk_frozen BK337.out) | ((with_reducible refine gate_callee (f := 58) rfl ?_); refine gsl (some 23) Try.func58 #[.agg #[.int .i64 a0_0, .int .i64 a0_1, .int .i64 a0_2, .int .i64 a0_3], .agg #[.int .i64 a1_0, .int .i64 a1_1, .int .i64 a1_2], .bool a2] ?_; (with_reducible refine (r18_step.calls a0_0 a0_1 a0_2 a0_3 a1_0 a1_1 a1_2 a2 t340 t341 t342 t343 t344 _ A6.out).mono ?_); rintro e w18 ⟨rfl, hb⟩; refine ⟨_, rfl, ?_⟩; replace BK336 := Aside0.mk (bkb BK336.out hb); replace BK337 := Aside0.mk (bkb BK337.out hb); replace BK338 := Aside0.mk (bkb BK338.out hb); replace HB := Aside0.mk (bst HB.out hb); (try clear hb); (try clear hb2); (try clear hk); (try clear hi)) | ((with_reducible refine gate_dst (N := 10) rfl ?_); refine bxe (cs := #[.int .i64 0, .int .i64 0, .int .i64 0, .int .i64 0]) (t := 37) ?_; intro gb345 hg w19 hbox hb; have BK345 := Aside0.mk (hbox); have GW345 := Aside0.mk (bge hg HB.out); have GE345 := Aside0.mk (bge hg HB.out); have NB336_345 := Aside0.mk ((bkl hg BK336.out)); have NB345_336 := Aside0.mk ((bkg hg BK336.out)); have NB337_345 := Aside0.mk ((bkl hg BK337.out)); have NB345_337 := Aside0.mk ((bkg hg BK337.out)); have NB338_345 := Aside0.mk ((bkl hg BK338.out)); have NB345_338 := Aside0.mk ((bkg hg BK338.out)); replace BK336 := Aside0.mk (bkb BK336.out hb); replace BK337 := Aside0.mk (bkb BK337.out hb); replace BK338 := Aside0.mk (bkb BK338.out hb); replace HB := Aside0.mk (bst HB.out hb); clear hb hbox hg; have hnb20 := NB345_336.out; have hnc20 := NB336_345.out; have hnb21 := NB345_337.out; have hnc21 := NB337_345.out; have hnb22 := NB345_338.out; have hnc22 := NB338_345.out; have hcz23_0 := cz4 BK345.out; have hfz23_0 := blk_frozen BK345.out; have hcz24_0 := cz4 BK338.out; have hfz24_0 := blk_frozen BK338.out))
  refine bodyPost_ret (results_ctt rfl _ _ gb338 37 #[.int .i64 t340, .int .i64 t341, .int .i64 t342, .int .i64 t343] (0, 0) _ rfl (bkt BK338.out) Try.underlying37 rfl (by kernel_rfl)) rfl ?_
  exact bfin (bel HB.out)
 ·rw [if_neg c5] at H
  have c5b0 : (t339 == 0) = false := beq_eq_false_iff_ne.mpr c5
  have c5b1 : (t339 != 0) = true := bne_iff_ne.mpr c5
  simp only [Option.some.injEq, Prod.mk.injEq] at H
  obtain ⟨rfl, rfl, rfl, rfl, rfl, rfl⟩ := H
  go_enter Try.func45, Try.ntmps45
  go_wp2_with (first | ((with_reducible refine gate_dst (N := 3) rfl ?_); refine bxe (cs := #[.int .i64 a0_0, .int .i64 a0_1, .int .i64 a0_2, .int .i64 a0_3]) (t := 37) ?_; intro gb336 hg w25 hbox hb; have BK336 := Aside0.mk (hbox); have GW336 := Aside0.mk (bge hg HB.out); have GE336 := Aside0.mk (bge hg HB.out); replace HB := Aside0.mk (bst HB.out hb); clear hb hbox hg) | ((with_reducible refine gate_dst (N := 4) rfl ?_); refine bxe (cs := #[.int .i64 a1_0, .int .i64 a1_1, .int .i64 a1_2]) (t := 23) ?_; intro gb337 hg w26 hbox hb; have BK337 := Aside0.mk (hbox); have GW337 := Aside0.mk (bge hg HB.out); have GE337 := Aside0.mk (bge hg HB.out); have NB336_337 := Aside0.mk ((bkl hg BK336.out)); have NB337_336 := Aside0.mk ((bkg hg BK336.out)); replace BK336 := Aside0.mk (bkb BK336.out hb); replace HB := Aside0.mk (bst HB.out hb); clear hb hbox hg) | ((with_reducible refine gate_dst (N := 6) rfl ?_); refine bxe (cs := #[.int .i64 0, .int .i64 0, .int .i64 0, .int .i64 0]) (t := 37) ?_; intro gb338 hg w27 hbox hb; have BK338 := Aside0.mk (hbox); have GW338 := Aside0.mk (bge hg HB.out); have GE338 := Aside0.mk (bge hg HB.out); have NB336_338 := Aside0.mk ((bkl hg BK336.out)); have NB338_336 := Aside0.mk ((bkg hg BK336.out)); have NB337_338 := Aside0.mk ((bkl hg BK337.out)); have NB338_337 := Aside0.mk ((bkg hg BK337.out)); replace BK336 := Aside0.mk (bkb BK336.out hb); replace BK337 := Aside0.mk (bkb BK337.out hb); replace HB := Aside0.mk (bst HB.out hb); clear hb hbox hg; have hnb28 := NB336_337.out; have hnc28 := NB337_336.out; have hnb29 := NB336_338.out; have hnc29 := NB338_336.out; have hcz30_0 := cz4 BK336.out; have hfz30_0 := blk_frozen BK336.out; have hnb31 := NB337_338.out; have hnc31 := NB338_337.out; have hcz32_0 := cz3 BK337.out; have hfz32_0 := blk_frozen BK337.out) | ((with_reducible refine gate_callee (f := 43) rfl ?_); refine gsl (some 14) Try.func43 #[.agg #[.int .i64 a0_0, .int .i64 a0_1, .int .i64 a0_2, .int .i64 a0_3], .agg #[.int .i64 a1_0, .int .i64 a1_1, .int .i64 a1_2]] ?_; (with_reducible refine (r18_Check.calls k a0_0 a0_1 a0_2 a0_3 a1_0 a1_1 a1_2 t339 _ A4.out).mono ?_); rintro e w33 ⟨rfl, hb⟩; refine ⟨_, rfl, ?_⟩; replace BK336 := Aside0.mk (bkb BK336.out hb); replace BK337 := Aside0.mk (bkb BK337.out hb); replace BK338 := Aside0.mk (bkb BK338.out hb); replace HB := Aside0.mk (bst HB.out hb); (try clear hb); (try clear hb2); (try clear hk); (try clear hi); have hcz34_0 := cz4 BK338.out; have hfz34_0 := blk_frozen BK338.out))
  refine bodyPost_ret (results_ctt rfl _ _ gb338 37 #[.int .i64 0, .int .i64 0, .int .i64 0, .int .i64 0] (0, 0) _ rfl (bkt BK338.out) Try.underlying37 rfl (by kernel_rfl)) rfl ?_
  exact bfin (bel HB.out)

end Go.Proofs.Ytmjmdnpenpdmhaa.P
