-- Printed by wip/myprint.py of this repo (over the kit's printer). Not trusted: Lean checks it.
import Derived.Test.YtckaofgkepcibaaP0
import Derived.Test.YtckaofgkepcibaaP0drive
import Derived.Test.YtckaofgkepcibaaP1profile
namespace Go.Proofs.Ytckaofgkepcibaa.P
open Go.RowKit Go.Proofs.YtckaofgkepcibaaW.PrintWords Go.Proofs.YtckaofgkepcibaaW.PrintLast Go.Proofs.YtckaofgkepcibaaW.PrintMore
attribute [local go_sem] cell_same1 cell_some1
attribute [local go_sem] max2_int min2_int max_two min_two max_three min_three max_four min_four   -- for this text's walks alone
set_option linter.unusedVariables false
set_option linter.unusedSimpArgs false

/-! ### drive_rule_tick: function 58 -/
mutual
def drive_rule_tick.j0 : Nat → Int → Int → Int → Int → Int → Int → Int → Int → Option (Int × Int × Int × Int × Int × Bool)
 | 0, _, _, _, _, _, _, _, _ => none
 | k + 1, x6, x174000, x174001, x175000, x175001, x175002, x175003, x175004 => (drive_left.f x175000 x175001 x6 x175003 x175004).bind fun t179 => (if t179 = 0 then (if x174001 = 0 then (some (x175000, x175001, 0, 0, x174001, true)) else (some (x175000, x175001, 0, 3, x174001, true))) else (some (x175000, x175001, x6, x175003, x175004, true)))
def drive_rule_tick.j1 : Nat → Bool → Int → Int → Int → Int → Int → Option (Int × Int × Int × Int × Int × Bool)
 | 0, _, _, _, _, _, _ => none
 | k + 1, x52, x175000, x175001, x175002, x175003, x175004 => if x52 = true then (if (wrap64 (x175004 - 1)) = 0 then (if x175003 = 1 then (some (x175000, x175001, x175002, 2, wrap64 (x175004 - 1), false)) else (some (x175000, x175001, x175002, 0, wrap64 (x175004 - 1), false))) else (some (x175000, x175001, x175002, x175003, wrap64 (x175004 - 1), false))) else (some (x175000, x175001, x175002, x175003, x175004, false))
end
def drive_rule_tick.f (k : Nat) (a0_0 : Int) (a0_1 : Int) (a1_0 : Int) (a1_1 : Int) (a1_2 : Int) (a1_3 : Int) (a1_4 : Int) : Option (Int × Int × Int × Int × Int × Bool) := if a1_3 = 2 then ((drive_left.f a1_0 a1_1 a1_2 a1_3 a1_4).bind fun t176 => ((profile_Next.f k a1_2 t176 a0_0).bind fun bt177 => (if a1_1 < a1_0 then (drive_rule_tick.j0 k bt177.1 a0_0 a0_1 (wrap64 (a1_0 - bt177.1)) a1_1 a1_2 a1_3 a1_4) else (drive_rule_tick.j0 k bt177.1 a0_0 a0_1 (wrap64 (a1_0 + bt177.1)) a1_1 a1_2 a1_3 a1_4)))) else (if a1_3 = 1 then (drive_rule_tick.j1 k (a1_3 == 1) a1_0 a1_1 a1_2 a1_3 a1_4) else (drive_rule_tick.j1 k (a1_3 == 3) a1_0 a1_1 a1_2 a1_3 a1_4))
theorem drive_rule_tick.mono_l : ∀ k, (∀ y0 y1 y2 y3 y4 y5 y6 y7, LeO (drive_rule_tick.j0 k y0 y1 y2 y3 y4 y5 y6 y7) (drive_rule_tick.j0 (k + 1) y0 y1 y2 y3 y4 y5 y6 y7)) ∧ (∀ y0 y1 y2 y3 y4 y5, LeO (drive_rule_tick.j1 k y0 y1 y2 y3 y4 y5) (drive_rule_tick.j1 (k + 1) y0 y1 y2 y3 y4 y5))
 | 0 => ⟨fun _ _ _ _ _ _ _ _ r h => by simp [drive_rule_tick.j0] at h, fun _ _ _ _ _ _ r h => by simp [drive_rule_tick.j1] at h⟩
 | k + 1 => by
  obtain ⟨ih0, ih1⟩ := drive_rule_tick.mono_l k
  refine ⟨?_, ?_⟩
  ·intro y0 y1 y2 y3 y4 y5 y6 y7
   unfold drive_rule_tick.j0
   repeat' first
   | (with_reducible exact ih0 _ _ _ _ _ _ _ _)
   | (with_reducible exact ih1 _ _ _ _ _ _)
   | (with_reducible exact profile_Next.mono _ _ _ _)
   | (with_reducible exact LeO.refl _)
   | (with_reducible exact LeO.none _)
   | (with_reducible refine LeO.ite ?_ ?_)
   | (with_reducible refine LeO.bind ?_ (fun _ => ?_))
   | exact ih0 _ _ _ _ _ _ _ _
   | exact ih1 _ _ _ _ _ _
   | exact profile_Next.mono _ _ _ _
   | exact LeO.none _
   | refine LeO.ite ?_ ?_
   | refine LeO.bind ?_ (fun _ => ?_)
  ·intro y0 y1 y2 y3 y4 y5
   unfold drive_rule_tick.j1
   repeat' first
   | (with_reducible exact ih0 _ _ _ _ _ _ _ _)
   | (with_reducible exact ih1 _ _ _ _ _ _)
   | (with_reducible exact profile_Next.mono _ _ _ _)
   | (with_reducible exact LeO.refl _)
   | (with_reducible exact LeO.none _)
   | (with_reducible refine LeO.ite ?_ ?_)
   | (with_reducible refine LeO.bind ?_ (fun _ => ?_))
   | exact ih0 _ _ _ _ _ _ _ _
   | exact ih1 _ _ _ _ _ _
   | exact profile_Next.mono _ _ _ _
   | exact LeO.none _
   | refine LeO.ite ?_ ?_
   | refine LeO.bind ?_ (fun _ => ?_)
theorem drive_rule_tick.mono : ∀ a0 a1 a2 a3 a4 a5 a6 k, LeO (drive_rule_tick.f k a0 a1 a2 a3 a4 a5 a6) (drive_rule_tick.f (k + 1) a0 a1 a2 a3 a4 a5 a6) := by
 intro a0 a1 a2 a3 a4 a5 a6 k
 obtain ⟨ih0, ih1⟩ := drive_rule_tick.mono_l k
 unfold drive_rule_tick.f
 repeat' first
   | (with_reducible exact ih0 _ _ _ _ _ _ _ _)
   | (with_reducible exact ih1 _ _ _ _ _ _)
   | (with_reducible exact profile_Next.mono _ _ _ _)
   | (with_reducible exact LeO.refl _)
   | (with_reducible exact LeO.none _)
   | (with_reducible refine LeO.ite ?_ ?_)
   | (with_reducible refine LeO.bind ?_ (fun _ => ?_))
   | exact ih0 _ _ _ _ _ _ _ _
   | exact ih1 _ _ _ _ _ _
   | exact profile_Next.mono _ _ _ _
   | exact LeO.none _
   | refine LeO.ite ?_ ?_
   | refine LeO.bind ?_ (fun _ => ?_)
def drive_rule_tick.T3 : Bool × List (List Nat × List Nat) := (true, [([], []), ([0], [0]), ([], []), ([2], [2]), ([], []), ([4], [4]), ([1, 3, 5, 3], [1, 3, 5]), ([6], [6]), ([7], [7]), ([7], [7]), ([8, 6, 0, 1, 2, 3, 4, 5, 6, 7, 8], [8]), ([9, 10, 0, 1, 2, 3, 4, 5, 6, 7, 8, 9, 10], [9])])
def drive_rule_tick.B3 : List Nat := [0, 1, 0, 4, 0, 16, 63, 127, 255, 255, 511, 2047]
theorem drive_rule_tick.tab3 : rtab .any (opsOf Try.f58 3) = drive_rule_tick.T3 := by kernel_rfl
theorem drive_rule_tick.bits3 : waitsOk drive_rule_tick.T3.2 drive_rule_tick.B3 = true := by kernel_rfl
def drive_rule_tick.T9 : Bool × List (List Nat × List Nat) := (true, [([], []), ([0], [0]), ([], []), ([2], [2]), ([0, 1, 2, 3], []), ([4, 1, 3, 0, 1, 2, 3], [1, 4]), ([0, 1, 2, 3, 4, 5], []), ([6, 5, 0, 1, 2, 3, 4, 5], [6])])
def drive_rule_tick.B9 : List Nat := [0, 1, 0, 4, 15, 31, 63, 127]
theorem drive_rule_tick.tab9 : rtab .any (opsOf Try.f58 9) = drive_rule_tick.T9 := by kernel_rfl
theorem drive_rule_tick.bits9 : waitsOk drive_rule_tick.T9.2 drive_rule_tick.B9 = true := by kernel_rfl
set_option maxHeartbeats 8000000 in
set_option maxRecDepth 100000 in
theorem drive_rule_tick.calls (k : Nat) (a0_0 : Int) (a0_1 : Int) (a1_0 : Int) (a1_1 : Int) (a1_2 : Int) (a1_3 : Int) (a1_4 : Int) (r1 : Int) (r2 : Int) (r3 : Int) (r4 : Int) (r5 : Int) (r6 : Bool) (w : World) (h : drive_rule_tick.f k a0_0 a0_1 a1_0 a1_1 a1_2 a1_3 a1_4 = some (r1, r2, r3, r4, r5, r6)) :
  Calls Try.prog 58 #[.agg #[.int .i64 a0_0, .int .i64 a0_1], .agg #[.int .i64 a1_0, .int .i64 a1_1, .int .i64 a1_2, .int .i64 a1_3, .int .i64 a1_4]] w fun e w' => e = .returned (.tuple #[.agg #[.int .i64 r1, .int .i64 r2, .int .i64 r3, .int .i64 r4, .int .i64 r5], .bool r6]) ∧ Below w.heap.size w w' := by
 have hu85 := Try.underlying85
 have hu33 := Try.underlying33
 have HB := Aside0.mk (Below.refl w.heap.size w)
 have H : (if a1_3 = 2 then ((drive_left.f a1_0 a1_1 a1_2 a1_3 a1_4).bind fun t176 => ((profile_Next.f k a1_2 t176 a0_0).bind fun bt177 => (if a1_1 < a1_0 then (drive_rule_tick.j0 k bt177.1 a0_0 a0_1 (wrap64 (a1_0 - bt177.1)) a1_1 a1_2 a1_3 a1_4) else (drive_rule_tick.j0 k bt177.1 a0_0 a0_1 (wrap64 (a1_0 + bt177.1)) a1_1 a1_2 a1_3 a1_4)))) else (if a1_3 = 1 then (drive_rule_tick.j1 k (a1_3 == 1) a1_0 a1_1 a1_2 a1_3 a1_4) else (drive_rule_tick.j1 k (a1_3 == 3) a1_0 a1_1 a1_2 a1_3 a1_4))) = some (r1, r2, r3, r4, r5, r6) := h
 clear h
 by_cases c3 : a1_3 = 2
 ·rw [if_pos c3] at H
  have c3b0 : (a1_3 == 2) = true := beq_iff_eq.mpr c3
  have c3b1 : (a1_3 != 2) = false := bne_eq_false_iff_eq.mpr c3
  clear c3
  replace H := Option.bind_eq_some_iff.mp H
  obtain ⟨t176, A40, H⟩ := H
  replace H : ((profile_Next.f k a1_2 t176 a0_0).bind fun bt177 => (if a1_1 < a1_0 then (drive_rule_tick.j0 k bt177.1 a0_0 a0_1 (wrap64 (a1_0 - bt177.1)) a1_1 a1_2 a1_3 a1_4) else (drive_rule_tick.j0 k bt177.1 a0_0 a0_1 (wrap64 (a1_0 + bt177.1)) a1_1 a1_2 a1_3 a1_4))) = some (r1, r2, r3, r4, r5, r6) := H
  have A4 := Aside0.mk A40
  clear A40
  replace H := Option.bind_eq_some_iff.mp H
  obtain ⟨⟨t177, t178⟩, A50, H⟩ := H
  replace H : (if a1_1 < a1_0 then (drive_rule_tick.j0 k t177 a0_0 a0_1 (wrap64 (a1_0 - t177)) a1_1 a1_2 a1_3 a1_4) else (drive_rule_tick.j0 k t177 a0_0 a0_1 (wrap64 (a1_0 + t177)) a1_1 a1_2 a1_3 a1_4)) = some (r1, r2, r3, r4, r5, r6) := H
  have A5 := Aside0.mk A50
  clear A50
  have HC6 := Aside0.mk H
  clear H
  go_enter Try.func58, Try.ntmps58
  try go_wp2_with (first | ((with_reducible refine gate_dst (N := 2) rfl ?_); refine bxe (cs := #[.int .i64 a0_0, .int .i64 a0_1]) (t := 85) ?_; intro gb173 hg w7 hbox hb; have BK173 := Aside0.mk (hbox); have GW173 := Aside0.mk (bge hg HB.out); have GE173 := Aside0.mk (bge hg HB.out); replace HB := Aside0.mk (bst HB.out hb); clear hb hbox hg) | ((with_reducible refine gate_dst (N := 3) rfl ?_); refine bxe (cs := #[.int .i64 a1_0, .int .i64 a1_1, .int .i64 a1_2, .int .i64 a1_3, .int .i64 a1_4]) (t := 33) ?_; intro gb174 hg w8 hbox hb; have BK174 := Aside0.mk (hbox); have GW174 := Aside0.mk (bge hg HB.out); have GE174 := Aside0.mk (bge hg HB.out); have NB173_174 := Aside0.mk ((bkl hg BK173.out)); have NB174_173 := Aside0.mk ((bkg hg BK173.out)); replace BK173 := Aside0.mk (bkb BK173.out hb); replace HB := Aside0.mk (bst HB.out hb); clear hb hbox hg) | ((with_reducible refine gate_dst (N := 4) rfl ?_); refine bxe (cs := #[.int .i64 0, .int .i64 0, .int .i64 0, .int .i64 0, .int .i64 0]) (t := 33) ?_; intro gb175 hg w9 hbox hb; have BK175 := Aside0.mk (hbox); have GW175 := Aside0.mk (bge hg HB.out); have GE175 := Aside0.mk (bge hg HB.out); have NB173_175 := Aside0.mk ((bkl hg BK173.out)); have NB175_173 := Aside0.mk ((bkg hg BK173.out)); have NB174_175 := Aside0.mk ((bkl hg BK174.out)); have NB175_174 := Aside0.mk ((bkg hg BK174.out)); replace BK173 := Aside0.mk (bkb BK173.out hb); replace BK174 := Aside0.mk (bkb BK174.out hb); replace HB := Aside0.mk (bst HB.out hb); clear hb hbox hg; have hnb10 := NB174_173.out; have hnc10 := NB173_174.out; have hnb11 := NB174_175.out; have hnc11 := NB175_174.out; have hcz12_0 := cz5 BK174.out; have hfz12_0 := blk_frozen BK174.out))
  have n0_ := Aside0.mk (blk_drew BK173.out)
  have n1_ := Aside0.mk (blk_drew BK174.out)
  have n2_ := Aside0.mk (blk_drew BK175.out)
  have n3_ := Aside0.mk (below_drew1 HB.out)
  clear BK173
  clear BK174
  clear BK175
  clear HB
  have BK173 := n0_
  have BK174 := n1_
  have BK175 := n2_
  have HB := n3_
  clear n0_ n1_ n2_ n3_
  refine start_ (n := 12) (S := fun w' => w'.cell? ⟨gb174, 0, none⟩ = some (.int .i64 a1_0) ∧ w'.cell? ⟨gb174, 1, none⟩ = some (.int .i64 a1_1) ∧ w'.cell? ⟨gb174, 2, none⟩ = some (.int .i64 a1_2) ∧ w'.cell? ⟨gb174, 3, none⟩ = some (.int .i64 a1_3) ∧ w'.cell? ⟨gb174, 4, none⟩ = some (.int .i64 a1_4) ∧ w'.cell? ⟨gb173, 0, none⟩ = some (.int .i64 a0_0) ∧ w'.cell? ⟨gb173, 1, none⟩ = some (.int .i64 a0_1)) (ds := []) #[false, false, false, false, false, false, false, false, false, false, false, false] (by kernel_rfl) rfl rfl ⟨(blk_cell BK174.out 0).trans rfl, (blk_cell BK174.out 1).trans rfl, (blk_cell BK174.out 2).trans rfl, (blk_cell BK174.out 3).trans rfl, (blk_cell BK174.out 4).trans rfl, (blk_cell BK173.out 0).trans rfl, (blk_cell BK173.out 1).trans rfl⟩ (fun hHeld => ?_); refine with_tabW drive_rule_tick.tab3 drive_rule_tick.bits3 (fun HT_ HW_ => ?_)
  generalize w9.drew = w13 at BK173 BK174 BK175 HB hHeld ⊢
  refine pur 0 (some 13) (bm 12 1) HT_.out ?_
  refine pur 4 (some 17) (bm 12 17) HT_.out ?_
  refine tkp 1 (some 14) (bm 12 19) HT_.out HW_.out hHeld ?_
  refine tkp 2 (some 15) (bm 12 23) HT_.out HW_.out hHeld ?_
  refine tkp 5 (some 18) (bm 12 55) HT_.out HW_.out hHeld ?_
  refine one_ (i := 3) (N := some 16) (bm 12 63) rfl rfl (one_of HT_.out (by kernel_rfl)) (by decide) (fun K hK => ?_)
  refine goes_ Try.func64 (by kernel_rfl) rfl #[.agg #[.int .i64 a1_0, .int .i64 a1_1, .int .i64 a1_2, .int .i64 a1_3, .int .i64 a1_4]] (by rfl) rfl rfl (by (try simp only [List.map_toArray, List.map_cons, List.map_nil]); first | done | rfl | (simp only [List.length_drop, List.length_take]; rfl)) ?_
  with_reducible refine (drive_left.calls a1_0 a1_1 a1_2 a1_3 a1_4 t176 _ A4.out).mono ?_
  rintro e w14 ⟨rfl, hb⟩
  refine ⟨_, rfl, ?_⟩
  have n0_ := Aside0.mk (bkb BK173.out hb)
  have n1_ := Aside0.mk (bkb BK174.out hb)
  have n2_ := Aside0.mk (bkb BK175.out hb)
  have n3_ := Aside0.mk (bst HB.out hb)
  clear BK173
  clear BK174
  clear BK175
  clear HB
  have BK173 := n0_
  have BK174 := n1_
  have BK175 := n2_
  have HB := n3_
  clear n0_ n1_ n2_ n3_
  (try clear hb)
  (try clear hb2)
  (try clear hk)
  (try clear hi)
  refine hK.out _ _ ⟨(blk_cell BK174.out 0).trans rfl, (blk_cell BK174.out 1).trans rfl, (blk_cell BK174.out 2).trans rfl, (blk_cell BK174.out 3).trans rfl, (blk_cell BK174.out 4).trans rfl, (blk_cell BK173.out 0).trans rfl, (blk_cell BK173.out 1).trans rfl⟩ (fun hHeld => ?_)
  clear hK K
  refine norm_ (a' := ?_) ?_ ?_
  rotate_left
  ·show Act.put _ (some 16) _ = _
   simp only [Act.put, List.setIfInBounds_toArray, List.set_cons_zero, List.set_cons_succ, i64_w, i32_w]
   rfl
  refine one_ (i := 6) (N := some 19) (bm 12 127) rfl rfl (one_of HT_.out (by kernel_rfl)) (by decide) (fun K hK => ?_)
  refine goes_ Try.func66 (by kernel_rfl) rfl #[.int .i64 a1_2, .int .i64 t176, .int .i64 a0_0] (by rfl) rfl rfl (by (try simp only [List.map_toArray, List.map_cons, List.map_nil]); first | done | rfl | (simp only [List.length_drop, List.length_take]; rfl)) ?_
  with_reducible refine (profile_Next.calls k a1_2 t176 a0_0 t177 t178 _ A5.out).mono ?_
  rintro e w15 ⟨rfl, hb⟩
  refine ⟨_, rfl, ?_⟩
  have n0_ := Aside0.mk (bkb BK173.out hb)
  have n1_ := Aside0.mk (bkb BK174.out hb)
  have n2_ := Aside0.mk (bkb BK175.out hb)
  have n3_ := Aside0.mk (bst HB.out hb)
  clear BK173
  clear BK174
  clear BK175
  clear HB
  have BK173 := n0_
  have BK174 := n1_
  have BK175 := n2_
  have HB := n3_
  clear n0_ n1_ n2_ n3_
  (try clear hb)
  (try clear hb2)
  (try clear hk)
  (try clear hi)
  refine hK.out _ _ ⟨(blk_cell BK174.out 0).trans rfl, (blk_cell BK174.out 1).trans rfl, (blk_cell BK174.out 2).trans rfl, (blk_cell BK174.out 3).trans rfl, (blk_cell BK174.out 4).trans rfl, (blk_cell BK173.out 0).trans rfl, (blk_cell BK173.out 1).trans rfl⟩ (fun hHeld => ?_)
  clear hK K
  refine norm_ (a' := ?_) ?_ ?_
  rotate_left
  ·show Act.put _ (some 19) _ = _
   simp only [Act.put, List.setIfInBounds_toArray, List.set_cons_zero, List.set_cons_succ, i64_w, i32_w]
   rfl
  refine pur 7 (some 12) (bm 12 255) HT_.out ?_
  refine pur 8 (some 20) (bm 12 511) HT_.out ?_
  refine pur 9 (some 21) (bm 12 1023) HT_.out ?_
  refine pur 10 (some 6) (bm 12 2047) HT_.out ?_
  refine pur 11 (some 7) (bm 12 4095) HT_.out ?_
  refine done_ (done_of HT_.out (by kernel_rfl)) ?_
  have hcz16_0 := cz5 BK174.out
  have hfz16_0 := blk_frozen BK174.out
  go_upto_if 26 with (fail)
  go_cut [] (fun wc => ∃ (kq : Nat) (x175000_5 : Int), Aside0 (drive_rule_tick.j0 kq t177 a0_0 a0_1 x175000_5 a1_1 a1_2 a1_3 a1_4 = some (r1, r2, r3, r4, r5, r6)) ∧ Aside0 (kq ≤ k) ∧ Aside0 (wc.heap[gb173]? = some (.cells #[.int .i64 a0_0, .int .i64 a0_1] 85 (0, 0))) ∧ Aside0 (wc.heap[gb174]? = some (.cells #[.int .i64 x175000_5, .int .i64 a1_1, .int .i64 a1_2, .int .i64 a1_3, .int .i64 a1_4] 33 (0, 0))) ∧ Aside0 (wc.heap[gb175]? = some (.cells #[.int .i64 0, .int .i64 0, .int .i64 0, .int .i64 0, .int .i64 0] 33 (0, 0))) ∧ Aside0 (Below w.heap.size w wc))
  case first =>
   have H := HC6.out
   clear HC6
   by_cases c17 : a1_1 < a1_0
   ·rw [if_pos c17] at H
    have c17b0 : decide (a1_1 < a1_0) = true := decide_eq_true c17
    clear c17
    (first | rw [c17b0] | (simp only [i64_w, i32_w]; rw [c17b0]) | skip)
    have H' := Aside0.mk H
    clear H
    have hnb18 := NB174_173.out
    have hnc18 := NB173_174.out
    have hnb19 := NB174_175.out
    have hnc19 := NB175_174.out
    have hcz20_0 := cz5 BK174.out
    have hfz20_0 := blk_frozen BK174.out
    go_wp2
    go_meet
    case rel => exact ⟨_, (wrap64 (a1_0 - t177)), H', ⟨by first | omega | exact Nat.le_refl _⟩, ⟨bkt BK173.out⟩, ⟨bkt BK174.out⟩, ⟨bkt BK175.out⟩, ⟨bel HB.out⟩⟩
   ·rw [if_neg c17] at H
    have c17b0 : decide (a1_1 < a1_0) = false := decide_eq_false c17
    clear c17
    (first | rw [c17b0] | (simp only [i64_w, i32_w]; rw [c17b0]) | skip)
    have H' := Aside0.mk H
    clear H
    have hnb21 := NB174_173.out
    have hnc21 := NB173_174.out
    have hnb22 := NB174_175.out
    have hnc22 := NB175_174.out
    have hcz23_0 := cz5 BK174.out
    have hfz23_0 := blk_frozen BK174.out
    go_wp2
    go_meet
    case rel => exact ⟨_, (wrap64 (a1_0 + t177)), H', ⟨by first | omega | exact Nat.le_refl _⟩, ⟨bkt BK173.out⟩, ⟨bkt BK174.out⟩, ⟨bkt BK175.out⟩, ⟨bel HB.out⟩⟩
  case rest =>
   clear HC6
   try clear c1
   try clear c2
   try clear p2
   try clear c3
   try clear c3b0
   try clear c3b1
   try clear c5
   try clear c6
   try clear p6
   try clear c10
   try clear c11
   try clear c17
   try clear c17b0
   try clear c18
   try clear c19
   try clear c21
   try clear c22
   try clear hcz12_0
   try clear hcz16_0
   try clear hcz20_0
   try clear hcz23_0
   try clear hfz12_0
   try clear hfz16_0
   try clear hfz20_0
   try clear hfz23_0
   obtain ⟨kq, x175000_5, HA, HJ5, BK173, BK174, BK175, HB⟩ := hcut
   cases kq with
   | zero => exact absurd HA.out (by simp [drive_rule_tick.j0])
   | succ kj5 =>
    have H := HA.out
    clear HA
    simp only [drive_rule_tick.j0] at H
    replace H := Option.bind_eq_some_iff.mp H
    obtain ⟨t179, A240, H⟩ := H
    replace H : (if t179 = 0 then (if a0_1 = 0 then (some (x175000_5, a1_1, 0, 0, a0_1, true)) else (some (x175000_5, a1_1, 0, 3, a0_1, true))) else (some (x175000_5, a1_1, t177, a1_3, a1_4, true))) = some (r1, r2, r3, r4, r5, r6) := H
    have A24 := Aside0.mk A240
    clear A240
    by_cases c25 : t179 = 0
    ·rw [if_pos c25] at H
     have c25b0 : (t179 == 0) = true := beq_iff_eq.mpr c25
     have c25b1 : (t179 != 0) = false := bne_eq_false_iff_eq.mpr c25
     clear c25
     by_cases c26 : a0_1 = 0
     ·rw [if_pos c26] at H
      have c26b0 : (a0_1 == 0) = true := beq_iff_eq.mpr c26
      have c26b1 : (a0_1 != 0) = false := bne_eq_false_iff_eq.mpr c26
      clear c26
      simp only [Option.some.injEq, Prod.mk.injEq] at H
      obtain ⟨rfl, rfl, rfl, rfl, rfl, rfl⟩ := H
      have hnb27 := NB174_173.out
      have hnc27 := NB173_174.out
      have hnb28 := NB174_175.out
      have hnc28 := NB175_174.out
      have hcz29_0 := cz5 BK174.out
      have hfz29_0 := blk_frozen BK174.out
      try go_wp2_with (first | ((with_reducible refine gate_callee (f := 64) rfl ?_); refine gsl (some 40) Try.func64 #[.agg #[.int .i64 x175000_5, .int .i64 a1_1, .int .i64 t177, .int .i64 a1_3, .int .i64 a1_4]] ?_; (with_reducible refine (drive_left.calls x175000_5 a1_1 t177 a1_3 a1_4 t179 _ A24.out).mono ?_); rintro e w30 ⟨rfl, hb⟩; refine ⟨_, rfl, ?_⟩; replace BK173 := Aside0.mk (bkb BK173.out hb); replace BK174 := Aside0.mk (blk_below (g := gb174) (o := .cells #[.int .i64 x175000_5, .int .i64 a1_1, .int .i64 t177, .int .i64 a1_3, .int .i64 a1_4] 33 (0, 0)) (bkt BK174.out) hb); replace BK175 := Aside0.mk (bkb BK175.out hb); replace HB := Aside0.mk (bst HB.out hb); (try clear hb); (try clear hb2); (try clear hk); (try clear hi)))
      have n0_ := Aside0.mk (blk_drew BK173.out)
      have n1_ := Aside0.mk (blk_drew BK174.out)
      have n2_ := Aside0.mk (blk_drew BK175.out)
      have n3_ := Aside0.mk (below_drew1 HB.out)
      clear BK173
      clear BK174
      clear BK175
      clear HB
      have BK173 := n0_
      have BK174 := n1_
      have BK175 := n2_
      have HB := n3_
      clear n0_ n1_ n2_ n3_
      refine start_ (n := 8) (S := fun w' => w'.cell? ⟨gb173, 0, none⟩ = some (.int .i64 a0_0) ∧ w'.cell? ⟨gb173, 1, none⟩ = some (.int .i64 a0_1)) (ds := []) #[false, false, false, false, false, false, false, false] (by kernel_rfl) rfl rfl ⟨(blk_cell BK173.out 0).trans rfl, (blk_cell BK173.out 1).trans rfl⟩ (fun hHeld => ?_); refine with_tabW drive_rule_tick.tab9 drive_rule_tick.bits9 (fun HT_ HW_ => ?_)
      generalize w30.drew = w31 at BK173 BK174 BK175 HB hHeld ⊢
      refine pur 0 (some 42) #[true, false, false, false, false, false, false, false] HT_.out ?_
      refine pur 2 (some 44) #[true, false, true, false, false, false, false, false] HT_.out ?_
      refine tkp 1 (some 43) #[true, true, true, false, false, false, false, false] HT_.out HW_.out hHeld ?_
      refine one_ (i := 3) (N := none) #[true, true, true, true, false, false, false, false] rfl rfl (one_of HT_.out (by kernel_rfl)) (by decide) (fun K hK => ?_)
      have hs32 : w31.cell? ⟨gb174, 2, none⟩ = some (.int .i64 t177) := (blk_cell BK174.out 2).trans rfl
      have hfs32 := blk_frozen BK174.out 2
      have hns32_0 := NB173_174.out
      have hns32_2 := NB175_174.out
      have hms32_0 := NB174_173.out
      have hms32_2 := NB174_175.out
      refine skip_ (w1 := ?_) (by rfl) rfl ?_ ?_
      rotate_left
      ·go_simp
       rfl
      refine hK.out _ _ ⟨(clr hHeld.1), (clr hHeld.2)⟩ (fun hHeld => ?_)
      clear hK K
      refine pur 4 (some 45) #[true, true, true, true, true, false, false, false] HT_.out ?_
      refine one_ (i := 5) (N := none) #[true, true, true, true, true, true, false, false] rfl rfl (one_of HT_.out (by kernel_rfl)) (by decide) (fun K hK => ?_)
      have hs33 : w31.cell? ⟨gb174, 4, none⟩ = some (.int .i64 a1_4) := (blk_cell BK174.out 4).trans rfl
      have hfs33 := blk_frozen BK174.out 4
      have hns33_0 := NB173_174.out
      have hns33_2 := NB175_174.out
      have hms33_0 := NB174_173.out
      have hms33_2 := NB174_175.out
      refine skip_ (w1 := ?_) (by rfl) rfl ?_ ?_
      rotate_left
      ·go_simp
       rfl
      refine hK.out _ _ ⟨(clr hHeld.1), (clr hHeld.2)⟩ (fun hHeld => ?_)
      clear hK K
      refine pur 6 (some 46) #[true, true, true, true, true, true, true, false] HT_.out ?_
      refine one_ (i := 7) (N := none) #[true, true, true, true, true, true, true, true] rfl rfl (one_of HT_.out (by kernel_rfl)) (by decide) (fun K hK => ?_)
      have hs34 : w31.cell? ⟨gb174, 3, none⟩ = some (.int .i64 a1_3) := (blk_cell BK174.out 3).trans rfl
      have hfs34 := blk_frozen BK174.out 3
      have hns34_0 := NB173_174.out
      have hns34_2 := NB175_174.out
      have hms34_0 := NB174_173.out
      have hms34_2 := NB174_175.out
      refine skip_ (w1 := ?_) (by rfl) rfl ?_ ?_
      rotate_left
      ·go_simp
       rfl
      refine hK.out _ _ ⟨(clr hHeld.1), (clr hHeld.2)⟩ (fun hHeld => ?_)
      clear hK K
      refine done_ (done_of HT_.out (by kernel_rfl)) ?_
      have hnb35 := NB173_175.out
      have hnc35 := NB175_173.out
      have hcz36_0 := cz2 BK173.out
      have hfz36_0 := blk_frozen BK173.out
      have hcz37_0 := cz5 BK174.out
      have hfz37_0 := blk_frozen BK174.out
      have hcz38_0 := cz5 BK175.out
      have hfz38_0 := blk_frozen BK175.out
      try go_wp2
      refine bodyPost_ret (results_ct rfl _ _ gb175 33 #[.int .i64 x175000_5, .int .i64 a1_1, .int .i64 0, .int .i64 0, .int .i64 a0_1] (0, 0) _ rfl (bkt BK175.out) Try.underlying33 rfl (by kernel_rfl)) rfl ?_
      exact bfin (bel HB.out)
     ·rw [if_neg c26] at H
      have c26b0 : (a0_1 == 0) = false := beq_eq_false_iff_ne.mpr c26
      have c26b1 : (a0_1 != 0) = true := bne_iff_ne.mpr c26
      simp only [Option.some.injEq, Prod.mk.injEq] at H
      obtain ⟨rfl, rfl, rfl, rfl, rfl, rfl⟩ := H
      have hnb39 := NB174_173.out
      have hnc39 := NB173_174.out
      have hnb40 := NB174_175.out
      have hnc40 := NB175_174.out
      have hcz41_0 := cz5 BK174.out
      have hfz41_0 := blk_frozen BK174.out
      try go_wp2_with (first | ((with_reducible refine gate_callee (f := 64) rfl ?_); refine gsl (some 40) Try.func64 #[.agg #[.int .i64 x175000_5, .int .i64 a1_1, .int .i64 t177, .int .i64 a1_3, .int .i64 a1_4]] ?_; (with_reducible refine (drive_left.calls x175000_5 a1_1 t177 a1_3 a1_4 t179 _ A24.out).mono ?_); rintro e w42 ⟨rfl, hb⟩; refine ⟨_, rfl, ?_⟩; replace BK173 := Aside0.mk (bkb BK173.out hb); replace BK174 := Aside0.mk (blk_below (g := gb174) (o := .cells #[.int .i64 x175000_5, .int .i64 a1_1, .int .i64 t177, .int .i64 a1_3, .int .i64 a1_4] 33 (0, 0)) (bkt BK174.out) hb); replace BK175 := Aside0.mk (bkb BK175.out hb); replace HB := Aside0.mk (bst HB.out hb); (try clear hb); (try clear hb2); (try clear hk); (try clear hi)))
      have n0_ := Aside0.mk (blk_drew BK173.out)
      have n1_ := Aside0.mk (blk_drew BK174.out)
      have n2_ := Aside0.mk (blk_drew BK175.out)
      have n3_ := Aside0.mk (below_drew1 HB.out)
      clear BK173
      clear BK174
      clear BK175
      clear HB
      have BK173 := n0_
      have BK174 := n1_
      have BK175 := n2_
      have HB := n3_
      clear n0_ n1_ n2_ n3_
      refine start_ (n := 8) (S := fun w' => w'.cell? ⟨gb173, 0, none⟩ = some (.int .i64 a0_0) ∧ w'.cell? ⟨gb173, 1, none⟩ = some (.int .i64 a0_1)) (ds := []) #[false, false, false, false, false, false, false, false] (by kernel_rfl) rfl rfl ⟨(blk_cell BK173.out 0).trans rfl, (blk_cell BK173.out 1).trans rfl⟩ (fun hHeld => ?_); refine with_tabW drive_rule_tick.tab9 drive_rule_tick.bits9 (fun HT_ HW_ => ?_)
      generalize w42.drew = w43 at BK173 BK174 BK175 HB hHeld ⊢
      refine pur 0 (some 42) #[true, false, false, false, false, false, false, false] HT_.out ?_
      refine pur 2 (some 44) #[true, false, true, false, false, false, false, false] HT_.out ?_
      refine tkp 1 (some 43) #[true, true, true, false, false, false, false, false] HT_.out HW_.out hHeld ?_
      refine one_ (i := 3) (N := none) #[true, true, true, true, false, false, false, false] rfl rfl (one_of HT_.out (by kernel_rfl)) (by decide) (fun K hK => ?_)
      have hs44 : w43.cell? ⟨gb174, 2, none⟩ = some (.int .i64 t177) := (blk_cell BK174.out 2).trans rfl
      have hfs44 := blk_frozen BK174.out 2
      have hns44_0 := NB173_174.out
      have hns44_2 := NB175_174.out
      have hms44_0 := NB174_173.out
      have hms44_2 := NB174_175.out
      refine skip_ (w1 := ?_) (by rfl) rfl ?_ ?_
      rotate_left
      ·go_simp
       rfl
      refine hK.out _ _ ⟨(clr hHeld.1), (clr hHeld.2)⟩ (fun hHeld => ?_)
      clear hK K
      refine pur 4 (some 45) #[true, true, true, true, true, false, false, false] HT_.out ?_
      refine one_ (i := 5) (N := none) #[true, true, true, true, true, true, false, false] rfl rfl (one_of HT_.out (by kernel_rfl)) (by decide) (fun K hK => ?_)
      have hs45 : w43.cell? ⟨gb174, 4, none⟩ = some (.int .i64 a1_4) := (blk_cell BK174.out 4).trans rfl
      have hfs45 := blk_frozen BK174.out 4
      have hns45_0 := NB173_174.out
      have hns45_2 := NB175_174.out
      have hms45_0 := NB174_173.out
      have hms45_2 := NB174_175.out
      refine skip_ (w1 := ?_) (by rfl) rfl ?_ ?_
      rotate_left
      ·go_simp
       rfl
      refine hK.out _ _ ⟨(clr hHeld.1), (clr hHeld.2)⟩ (fun hHeld => ?_)
      clear hK K
      refine pur 6 (some 46) #[true, true, true, true, true, true, true, false] HT_.out ?_
      refine one_ (i := 7) (N := none) #[true, true, true, true, true, true, true, true] rfl rfl (one_of HT_.out (by kernel_rfl)) (by decide) (fun K hK => ?_)
      have hs46 : w43.cell? ⟨gb174, 3, none⟩ = some (.int .i64 a1_3) := (blk_cell BK174.out 3).trans rfl
      have hfs46 := blk_frozen BK174.out 3
      have hns46_0 := NB173_174.out
      have hns46_2 := NB175_174.out
      have hms46_0 := NB174_173.out
      have hms46_2 := NB174_175.out
      refine skip_ (w1 := ?_) (by rfl) rfl ?_ ?_
      rotate_left
      ·go_simp
       rfl
      refine hK.out _ _ ⟨(clr hHeld.1), (clr hHeld.2)⟩ (fun hHeld => ?_)
      clear hK K
      refine done_ (done_of HT_.out (by kernel_rfl)) ?_
      have hnb47 := NB173_175.out
      have hnc47 := NB175_173.out
      have hcz48_0 := cz2 BK173.out
      have hfz48_0 := blk_frozen BK173.out
      have hcz49_0 := cz5 BK174.out
      have hfz49_0 := blk_frozen BK174.out
      have hcz50_0 := cz5 BK175.out
      have hfz50_0 := blk_frozen BK175.out
      try go_wp2
      refine bodyPost_ret (results_ct rfl _ _ gb175 33 #[.int .i64 x175000_5, .int .i64 a1_1, .int .i64 0, .int .i64 3, .int .i64 a0_1] (0, 0) _ rfl (bkt BK175.out) Try.underlying33 rfl (by kernel_rfl)) rfl ?_
      exact bfin (bel HB.out)
    ·rw [if_neg c25] at H
     have c25b0 : (t179 == 0) = false := beq_eq_false_iff_ne.mpr c25
     have c25b1 : (t179 != 0) = true := bne_iff_ne.mpr c25
     simp only [Option.some.injEq, Prod.mk.injEq] at H
     obtain ⟨rfl, rfl, rfl, rfl, rfl, rfl⟩ := H
     have hnb51 := NB174_173.out
     have hnc51 := NB173_174.out
     have hnb52 := NB174_175.out
     have hnc52 := NB175_174.out
     have hcz53_0 := cz5 BK174.out
     have hfz53_0 := blk_frozen BK174.out
     go_wp2_with (first | ((with_reducible refine gate_callee (f := 64) rfl ?_); refine gsl (some 40) Try.func64 #[.agg #[.int .i64 x175000_5, .int .i64 a1_1, .int .i64 t177, .int .i64 a1_3, .int .i64 a1_4]] ?_; (with_reducible refine (drive_left.calls x175000_5 a1_1 t177 a1_3 a1_4 t179 _ A24.out).mono ?_); rintro e w54 ⟨rfl, hb⟩; refine ⟨_, rfl, ?_⟩; replace BK173 := Aside0.mk (bkb BK173.out hb); replace BK174 := Aside0.mk (blk_below (g := gb174) (o := .cells #[.int .i64 x175000_5, .int .i64 a1_1, .int .i64 t177, .int .i64 a1_3, .int .i64 a1_4] 33 (0, 0)) (bkt BK174.out) hb); replace BK175 := Aside0.mk (bkb BK175.out hb); replace HB := Aside0.mk (bst HB.out hb); (try clear hb); (try clear hb2); (try clear hk); (try clear hi); have hcz55_0 := cz5 BK174.out; have hfz55_0 := blk_frozen BK174.out; have hnb56 := NB175_173.out; have hnc56 := NB173_175.out; have hcz57_0 := cz5 BK175.out; have hfz57_0 := blk_frozen BK175.out))
     refine bodyPost_ret (results_ct rfl _ _ gb175 33 #[.int .i64 x175000_5, .int .i64 a1_1, .int .i64 t177, .int .i64 a1_3, .int .i64 a1_4] (0, 0) _ rfl (bkt BK175.out) Try.underlying33 rfl (by kernel_rfl)) rfl ?_
     exact bfin (bel HB.out)
 ·rw [if_neg c3] at H
  have c3b0 : (a1_3 == 2) = false := beq_eq_false_iff_ne.mpr c3
  have c3b1 : (a1_3 != 2) = true := bne_iff_ne.mpr c3
  have HC58 := Aside0.mk H
  clear H
  go_enter Try.func58, Try.ntmps58
  go_upto_if 52 with (first | ((with_reducible refine gate_dst (N := 2) rfl ?_); refine bxe (cs := #[.int .i64 a0_0, .int .i64 a0_1]) (t := 85) ?_; intro gb173 hg w59 hbox hb; have BK173 := Aside0.mk (hbox); have GW173 := Aside0.mk (bge hg HB.out); have GE173 := Aside0.mk (bge hg HB.out); replace HB := Aside0.mk (bst HB.out hb); clear hb hbox hg) | ((with_reducible refine gate_dst (N := 3) rfl ?_); refine bxe (cs := #[.int .i64 a1_0, .int .i64 a1_1, .int .i64 a1_2, .int .i64 a1_3, .int .i64 a1_4]) (t := 33) ?_; intro gb174 hg w60 hbox hb; have BK174 := Aside0.mk (hbox); have GW174 := Aside0.mk (bge hg HB.out); have GE174 := Aside0.mk (bge hg HB.out); have NB173_174 := Aside0.mk ((bkl hg BK173.out)); have NB174_173 := Aside0.mk ((bkg hg BK173.out)); replace BK173 := Aside0.mk (bkb BK173.out hb); replace HB := Aside0.mk (bst HB.out hb); clear hb hbox hg) | ((with_reducible refine gate_dst (N := 4) rfl ?_); refine bxe (cs := #[.int .i64 0, .int .i64 0, .int .i64 0, .int .i64 0, .int .i64 0]) (t := 33) ?_; intro gb175 hg w61 hbox hb; have BK175 := Aside0.mk (hbox); have GW175 := Aside0.mk (bge hg HB.out); have GE175 := Aside0.mk (bge hg HB.out); have NB173_175 := Aside0.mk ((bkl hg BK173.out)); have NB175_173 := Aside0.mk ((bkg hg BK173.out)); have NB174_175 := Aside0.mk ((bkl hg BK174.out)); have NB175_174 := Aside0.mk ((bkg hg BK174.out)); replace BK173 := Aside0.mk (bkb BK173.out hb); replace BK174 := Aside0.mk (bkb BK174.out hb); replace HB := Aside0.mk (bst HB.out hb); clear hb hbox hg; have hnb62 := NB174_173.out; have hnc62 := NB173_174.out; have hnb63 := NB174_175.out; have hnc63 := NB175_174.out; have hcz64_0 := cz5 BK174.out; have hfz64_0 := blk_frozen BK174.out))
  (try simp only [Act.put, List.setIfInBounds_toArray, List.set_cons_zero, List.set_cons_succ])
  go_cut [52] (fun v52 wc => ∃ (kq : Nat) (x52_57 : Bool), v52 = .bool x52_57 ∧ Aside0 (drive_rule_tick.j1 kq x52_57 a1_0 a1_1 a1_2 a1_3 a1_4 = some (r1, r2, r3, r4, r5, r6)) ∧ Aside0 (kq ≤ k) ∧ Aside0 (wc.heap[gb173]? = some (.cells #[.int .i64 a0_0, .int .i64 a0_1] 85 (0, 0))) ∧ Aside0 (wc.heap[gb174]? = some (.cells #[.int .i64 a1_0, .int .i64 a1_1, .int .i64 a1_2, .int .i64 a1_3, .int .i64 a1_4] 33 (0, 0))) ∧ Aside0 (wc.heap[gb175]? = some (.cells #[.int .i64 0, .int .i64 0, .int .i64 0, .int .i64 0, .int .i64 0] 33 (0, 0))) ∧ Aside0 (Below w.heap.size w wc))
  case first =>
   have H := HC58.out
   clear HC58
   by_cases c65 : a1_3 = 1
   ·rw [if_pos c65] at H
    have c65b0 : (a1_3 == 1) = true := beq_iff_eq.mpr c65
    have c65b1 : (a1_3 != 1) = false := bne_eq_false_iff_eq.mpr c65
    clear c65
    (first | rw [c65b0] | (simp only [i64_w, i32_w]; rw [c65b0]) | skip)
    have H' := Aside0.mk H
    clear H
    go_wp2
    go_meet
    case rel => exact ⟨_, ((a1_3 == 1)), (by first | rfl | (simp; done) | (simp [*]; done)), H', ⟨by first | omega | exact Nat.le_refl _⟩, ⟨bkt BK173.out⟩, ⟨bkt BK174.out⟩, ⟨bkt BK175.out⟩, ⟨bel HB.out⟩⟩
   ·rw [if_neg c65] at H
    have c65b0 : (a1_3 == 1) = false := beq_eq_false_iff_ne.mpr c65
    have c65b1 : (a1_3 != 1) = true := bne_iff_ne.mpr c65
    (first | rw [c65b0] | (simp only [i64_w, i32_w]; rw [c65b0]) | skip)
    have H' := Aside0.mk H
    clear H
    go_wp2
    go_meet
    case rel => exact ⟨_, ((a1_3 == 3)), (by first | rfl | (simp; done) | (simp [*]; done)), H', ⟨by first | omega | exact Nat.le_refl _⟩, ⟨bkt BK173.out⟩, ⟨bkt BK174.out⟩, ⟨bkt BK175.out⟩, ⟨bel HB.out⟩⟩
  case rest =>
   clear HC58
   try clear c1
   try clear c2
   try clear p2
   try clear c3
   try clear c3b0
   try clear c3b1
   try clear c4
   try clear c5
   try clear c6
   try clear p6
   try clear c10
   try clear c11
   try clear c17
   try clear c17b0
   try clear c18
   try clear c19
   try clear c21
   try clear c22
   try clear c25
   try clear c25b0
   try clear c25b1
   try clear c26
   try clear c26b0
   try clear c26b1
   try clear c27
   try clear c28
   try clear c35
   try clear c39
   try clear c40
   try clear c47
   try clear c51
   try clear c52
   try clear c56
   try clear c58
   try clear c62
   try clear c63
   try clear c64
   try clear p64
   try clear c65
   try clear c65b0
   try clear c65b1
   try clear hcz12_0
   try clear hcz16_0
   try clear hcz20_0
   try clear hcz23_0
   try clear hcz29_0
   try clear hcz36_0
   try clear hcz37_0
   try clear hcz38_0
   try clear hcz41_0
   try clear hcz48_0
   try clear hcz49_0
   try clear hcz50_0
   try clear hcz53_0
   try clear hcz55_0
   try clear hcz57_0
   try clear hcz64_0
   try clear hfz12_0
   try clear hfz16_0
   try clear hfz20_0
   try clear hfz23_0
   try clear hfz29_0
   try clear hfz36_0
   try clear hfz37_0
   try clear hfz38_0
   try clear hfz41_0
   try clear hfz48_0
   try clear hfz49_0
   try clear hfz50_0
   try clear hfz53_0
   try clear hfz55_0
   try clear hfz57_0
   try clear hfz64_0
   try clear p2
   try clear p6
   obtain ⟨kq, x52_57, rfl, HA, HJ57, BK173, BK174, BK175, HB⟩ := hcut
   cases kq with
   | zero => exact absurd HA.out (by simp [drive_rule_tick.j1])
   | succ kj57 =>
    have H := HA.out
    clear HA
    simp only [drive_rule_tick.j1] at H
    by_cases c66 : x52_57 = true
    ·subst c66
     have H1 : (if (wrap64 (a1_4 - 1)) = 0 then (if a1_3 = 1 then (some (a1_0, a1_1, a1_2, 2, wrap64 (a1_4 - 1), false)) else (some (a1_0, a1_1, a1_2, 0, wrap64 (a1_4 - 1), false))) else (some (a1_0, a1_1, a1_2, a1_3, wrap64 (a1_4 - 1), false))) = some (r1, r2, r3, r4, r5, r6) := by rw [if_pos rfl] at H; exact H
     clear H
     have H := H1
     clear H1
     by_cases c67 : (wrap64 (a1_4 - 1)) = 0
     ·rw [if_pos c67] at H
      have c67b0 : ((wrap64 (a1_4 - 1)) == 0) = true := beq_iff_eq.mpr c67
      have c67b1 : ((wrap64 (a1_4 - 1)) != 0) = false := bne_eq_false_iff_eq.mpr c67
      clear c67
      by_cases c68 : a1_3 = 1
      ·rw [if_pos c68] at H
       have c68b0 : (a1_3 == 1) = true := beq_iff_eq.mpr c68
       have c68b1 : (a1_3 != 1) = false := bne_eq_false_iff_eq.mpr c68
       clear c68
       simp only [Option.some.injEq, Prod.mk.injEq] at H
       obtain ⟨rfl, rfl, rfl, rfl, rfl, rfl⟩ := H
       have hnb69 := NB174_173.out
       have hnc69 := NB173_174.out
       have hnb70 := NB174_175.out
       have hnc70 := NB175_174.out
       have hcz71_0 := cz5 BK174.out
       have hfz71_0 := blk_frozen BK174.out
       have hnb72 := NB175_173.out
       have hnc72 := NB173_175.out
       have hcz73_0 := cz5 BK175.out
       have hfz73_0 := blk_frozen BK175.out
       go_wp2
       refine bodyPost_ret (results_ct rfl _ _ gb175 33 #[.int .i64 a1_0, .int .i64 a1_1, .int .i64 a1_2, .int .i64 2, .int .i64 (wrap64 (a1_4 - 1))] (0, 0) _ rfl (bkt BK175.out) Try.underlying33 rfl (by kernel_rfl)) rfl ?_
       exact bfin (bel HB.out)
      ·rw [if_neg c68] at H
       have c68b0 : (a1_3 == 1) = false := beq_eq_false_iff_ne.mpr c68
       have c68b1 : (a1_3 != 1) = true := bne_iff_ne.mpr c68
       simp only [Option.some.injEq, Prod.mk.injEq] at H
       obtain ⟨rfl, rfl, rfl, rfl, rfl, rfl⟩ := H
       have hnb74 := NB174_173.out
       have hnc74 := NB173_174.out
       have hnb75 := NB174_175.out
       have hnc75 := NB175_174.out
       have hcz76_0 := cz5 BK174.out
       have hfz76_0 := blk_frozen BK174.out
       have hnb77 := NB175_173.out
       have hnc77 := NB173_175.out
       have hcz78_0 := cz5 BK175.out
       have hfz78_0 := blk_frozen BK175.out
       go_wp2
       refine bodyPost_ret (results_ct rfl _ _ gb175 33 #[.int .i64 a1_0, .int .i64 a1_1, .int .i64 a1_2, .int .i64 0, .int .i64 (wrap64 (a1_4 - 1))] (0, 0) _ rfl (bkt BK175.out) Try.underlying33 rfl (by kernel_rfl)) rfl ?_
       exact bfin (bel HB.out)
     ·rw [if_neg c67] at H
      have c67b0 : ((wrap64 (a1_4 - 1)) == 0) = false := beq_eq_false_iff_ne.mpr c67
      have c67b1 : ((wrap64 (a1_4 - 1)) != 0) = true := bne_iff_ne.mpr c67
      simp only [Option.some.injEq, Prod.mk.injEq] at H
      obtain ⟨rfl, rfl, rfl, rfl, rfl, rfl⟩ := H
      have hnb79 := NB174_173.out
      have hnc79 := NB173_174.out
      have hnb80 := NB174_175.out
      have hnc80 := NB175_174.out
      have hcz81_0 := cz5 BK174.out
      have hfz81_0 := blk_frozen BK174.out
      have hnb82 := NB175_173.out
      have hnc82 := NB173_175.out
      have hcz83_0 := cz5 BK175.out
      have hfz83_0 := blk_frozen BK175.out
      go_wp2
      refine bodyPost_ret (results_ct rfl _ _ gb175 33 #[.int .i64 a1_0, .int .i64 a1_1, .int .i64 a1_2, .int .i64 a1_3, .int .i64 (wrap64 (a1_4 - 1))] (0, 0) _ rfl (bkt BK175.out) Try.underlying33 rfl (by kernel_rfl)) rfl ?_
      exact bfin (bel HB.out)
    ·replace c66 := Bool.eq_false_iff.mpr c66
     subst c66
     have H1 : (some (a1_0, a1_1, a1_2, a1_3, a1_4, false)) = some (r1, r2, r3, r4, r5, r6) := by rw [if_neg (show ¬ (false = true) by decide)] at H; exact H
     clear H
     have H := H1
     clear H1
     simp only [Option.some.injEq, Prod.mk.injEq] at H
     obtain ⟨rfl, rfl, rfl, rfl, rfl, rfl⟩ := H
     have hnb84 := NB174_173.out
     have hnc84 := NB173_174.out
     have hnb85 := NB174_175.out
     have hnc85 := NB175_174.out
     have hcz86_0 := cz5 BK174.out
     have hfz86_0 := blk_frozen BK174.out
     have hnb87 := NB175_173.out
     have hnc87 := NB173_175.out
     have hcz88_0 := cz5 BK175.out
     have hfz88_0 := blk_frozen BK175.out
     go_wp2
     refine bodyPost_ret (results_ct rfl _ _ gb175 33 #[.int .i64 a1_0, .int .i64 a1_1, .int .i64 a1_2, .int .i64 a1_3, .int .i64 a1_4] (0, 0) _ rfl (bkt BK175.out) Try.underlying33 rfl (by kernel_rfl)) rfl ?_
     exact bfin (bel HB.out)

end Go.Proofs.Ytckaofgkepcibaa.P
