/- Package drive: a drive after several ticks: what it answers, and that the Go code comes to just this. -/
import Derived.Test.YtfeikhooaadlbaaNa
import Derived.Test.YtfeikhooaadlbaaP0drivea
import Derived.WalkMore
namespace Go.Proofs.Ytfeikhooaadlbaa.P
open Go.RowKit Go.Proofs.YtfeikhooaadlbaaW.PrintWords Go.Proofs.YtfeikhooaadlbaaW.PrintLast Go.Proofs.YtfeikhooaadlbaaW.PrintMore
set_option linter.unusedVariables false
set_option linter.unusedSimpArgs false
attribute [local go_sem] Oper.semAt_some

/-- How many of the first k ticks the motor runs. -/
def dmc (sp br : Int) (s : DS) : Nat → Int
  | 0 => 0
  | k + 1 => dmc sp br s k + (if dmo sp br (dst sp br s k) = true then 1 else 0)
def drive_Run.f (a0_0 : Int) (a0_1 : Int) (a0_2 : Int) (a0_3 : Int) (a0_4 : Int) (a1 : Int) (a2 : Int) (a3 : Int) : Option (Int × Int × Int × Int × Int × Int × Int) :=
  (drive_rule_checked.f 20 a1 a2 a0_0 a0_1 a0_2 a0_3 a0_4 a3).bind fun e => if e = 0 then (if 0 ≤ a3 then (dcnt a1 a2 70000 (a0_0, a0_1, a0_2, a0_3, a0_4)).map fun T =>
    ((dst a1 a2 (a0_0, a0_1, a0_2, a0_3, a0_4) (min T a3.toNat)).1, (dst a1 a2 (a0_0, a0_1, a0_2, a0_3, a0_4) (min T a3.toNat)).2.1, (dst a1 a2 (a0_0, a0_1, a0_2, a0_3, a0_4) (min T a3.toNat)).2.2.1, (dst a1 a2 (a0_0, a0_1, a0_2, a0_3, a0_4) (min T a3.toNat)).2.2.2.1, (dst a1 a2 (a0_0, a0_1, a0_2, a0_3, a0_4) (min T a3.toNat)).2.2.2.2, dmc a1 a2 (a0_0, a0_1, a0_2, a0_3, a0_4) (min T a3.toNat), 0) else none) else some (0, 0, 0, 0, 0, 0, e)

set_option maxHeartbeats 4000000 in
theorem drun_bad (a0_0 a0_1 a0_2 a0_3 a0_4 a1 a2 a3 e : Int) (w : World) (hc : drive_rule_checked.f 20 a1 a2 a0_0 a0_1 a0_2 a0_3 a0_4 a3 = some e) (he : e ≠ 0) :
    Calls Try.prog 22 #[.agg #[.int .i64 a0_0, .int .i64 a0_1, .int .i64 a0_2, .int .i64 a0_3, .int .i64 a0_4], .int .i64 a1, .int .i64 a2, .int .i64 a3] w
      fun en w' => en = .returned (.tuple #[.agg #[.int .i64 0, .int .i64 0, .int .i64 0, .int .i64 0, .int .i64 0], .int .i64 0, .int .i64 e]) ∧ Below w.heap.size w w' := by
  have HC := Aside0.mk hc
  have hb1 : (e == 0) = false := beq_eq_false_iff_ne.mpr he
  have hb2 : (e != 0) = true := bne_iff_ne.mpr he
  clear hc he
  go_enter Try.func22, Try.ntmps22
  go_wp2
  go_step3
  go_wp2_with (go_at_call 31; refine (drive_rule_checked.calls 20 a1 a2 a0_0 a0_1 a0_2 a0_3 a0_4 a3 _ _ HC.out).mono ?_; rintro e w1 ⟨rfl, hb⟩; have kz := blk_below (blk_alloc (blk_new ((w.alloc (.cells #[.int .i64 a0_0, .int .i64 a0_1, .int .i64 a0_2, .int .i64 a0_3, .int .i64 a0_4] 24)).alloc (.cells #[.int .i64 a3] 3)) (.cells #[.int .i64 0, .int .i64 0, .int .i64 0, .int .i64 0, .int .i64 0] 24)) (.cells #[.int .i64 a1, .int .i64 a2] 49)) hb; have z0 := blk_cell kz 0; have z1 := blk_cell kz 1; have z2 := blk_cell kz 2; have z3 := blk_cell kz 3; have z4 := blk_cell kz 4; have f0 := blk_frozen kz 0; have f1 := blk_frozen kz 1; have f2 := blk_frozen kz 2; have f3 := blk_frozen kz 3; have f4 := blk_frozen kz 4; simp at z0 z1 z2 z3 z4 f0 f1 f2 f3 f4; have HB := Aside0.mk (below_step (below_alloc (below_alloc (below_alloc (below_alloc (Below.refl _ _) (.cells #[.int .i64 a0_0, .int .i64 a0_1, .int .i64 a0_2, .int .i64 a0_3, .int .i64 a0_4] 24)) (.cells #[.int .i64 a3] 3)) (.cells #[.int .i64 0, .int .i64 0, .int .i64 0, .int .i64 0, .int .i64 0] 24)) (.cells #[.int .i64 a1, .int .i64 a2] 49)) hb); have hs := below_size HB.out; clear kz hb)
  all_goals
    simp only [Exit.noGoto_ret]
    refine bodyPost_ret (v := .tuple #[.agg #[.int .i64 0, .int .i64 0, .int .i64 0, .int .i64 0, .int .i64 0], .int .i64 0, .int .i64 e]) (by simp [results, Try.results22, go_sem, *]) rfl ⟨rfl, ?_⟩
    repeat first | exact HB.out | refine below_drew1 ?_ | refine below_set ?_ (by omega)
/-- Between the ticks: the caller has taken in kc of them, the iterator has made kt. -/
structure RSt (w : World) (b : Nat) (sp br : Int) (s : DS) (n : Int) (kc kt : Nat) (W : World) : Prop where
  below : Below w.heap.size w W
  le : (kc : Int) ≤ n
  size : b + 6 ≤ W.heap.size
  cg : W.heap[w.heap.size]? = some (.cells (dcells (dst sp br s kc)) 24)
  cn : W.heap[w.heap.size + 1]? = some (.cells #[.int .i64 n] 3)
  cz : W.heap[w.heap.size + 1 + 1]? = some (.cells #[.int .i64 0, .int .i64 0, .int .i64 0, .int .i64 0, .int .i64 0] 24)
  cc : W.heap[b]? = some (.cells #[.int .i64 kc, .int .i64 (dmc sp br s kc)] 56)
  trr : W.heap[b + 1]? = some (.cells #[.int .i64 sp, .int .i64 br] 49)
  td : W.heap[b + 1 + 1]? = some (.cells (dcells (dst sp br s kt)) 24)
  tst : W.heap[b + 1 + 1 + 1]? = some (.cells #[.func (.func 32) #[] #[]] 67)
section
variable {w : World} {b : Nat} {sp br n : Int} {s : DS} {kc kt : Nat} {W W2 : World}
theorem RSt.kept (h : RSt w b sp br s n kc kt W) (hk : Kept W W2 (fun k => k = b + 5)) (hbl : Below w.heap.size w W2) (hb : w.heap.size + 4 ≤ b) : RSt w b sp br s n kc kt W2 :=
  { below := hbl, le := h.le, size := Nat.le_trans h.size hk.1, cg := blk_kept h.cg hk (by omega), cn := blk_kept h.cn hk (by omega), cz := blk_kept h.cz hk (by omega), cc := blk_kept h.cc hk (by omega), trr := blk_kept h.trr hk (by omega), td := blk_kept h.td hk (by omega), tst := blk_kept h.tst hk (by omega) }
theorem RSt.step (h : RSt w b sp br s n kc kt W) (hk : Below W.heap.size W W2) (hb : w.heap.size + 4 ≤ b) : RSt w b sp br s n kc kt W2 := h.kept (Kept.of_below hk _) (below_step h.below hk) hb
theorem RSt.putl (h : RSt w b sp br s n kc kt W) (o : Obj) (hb : w.heap.size + 4 ≤ b) : RSt w b sp br s n kc kt (W.putObj (b + 5) o) := h.kept (kept_putObj _ _ _) (below_putObj h.below _ _ (by omega) h.below.size) hb
theorem RSt.store (h : RSt w b sp br s n kc kt W) (hb : w.heap.size + 4 ≤ b) :
    RSt w b sp br s n kc (kt + 1) (((((W.setCell ⟨b + 1 + 1, 0, none⟩ (.int .i64 (dst sp br s (kt + 1)).1)).setCell ⟨b + 1 + 1, 1, none⟩ (.int .i64 (dst sp br s (kt + 1)).2.1)).setCell ⟨b + 1 + 1, 2, none⟩ (.int .i64 (dst sp br s (kt + 1)).2.2.1)).setCell ⟨b + 1 + 1, 3, none⟩ (.int .i64 (dst sp br s (kt + 1)).2.2.2.1)).setCell ⟨b + 1 + 1, 4, none⟩ (.int .i64 (dst sp br s (kt + 1)).2.2.2.2)) := by
  have hk := kept_store5 W (b + 1 + 1) (.int .i64 (dst sp br s (kt + 1)).1) (.int .i64 (dst sp br s (kt + 1)).2.1) (.int .i64 (dst sp br s (kt + 1)).2.2.1) (.int .i64 (dst sp br s (kt + 1)).2.2.2.1) (.int .i64 (dst sp br s (kt + 1)).2.2.2.2)
  exact { below := below_store5 h.below (by omega) _ _ _ _ _, le := h.le, size := Nat.le_trans h.size hk.1, cg := blk_kept h.cg hk (by omega), cn := blk_kept h.cn hk (by omega), cz := blk_kept h.cz hk (by omega), cc := blk_kept h.cc hk (by omega), trr := blk_kept h.trr hk (by omega), td := blk_store5 h.td _ _ _ _ _, tst := blk_kept h.tst hk (by omega) }
theorem RSt.round (h : RSt w b sp br s n kc kt W) (hk : Kept W W2 (fun j => j = w.heap.size ∨ j = b)) (hbl : Below w.heap.size w W2) (hb : w.heap.size + 4 ≤ b) (hne : (kc : Int) ≠ n)
    (cg : W2.heap[w.heap.size]? = some (.cells (dcells (dst sp br s (kc + 1))) 24)) (cc : W2.heap[b]? = some (.cells #[.int .i64 (kc + 1 : Nat), .int .i64 (dmc sp br s (kc + 1))] 56)) : RSt w b sp br s n (kc + 1) kt W2 :=
  { below := hbl, le := by have := h.le; omega, size := Nat.le_trans h.size hk.1, cg := cg, cn := blk_kept h.cn hk (by omega), cz := blk_kept h.cz hk (by omega), cc := cc, trr := blk_kept h.trr hk (by omega), td := blk_kept h.td hk (by omega), tst := blk_kept h.tst hk (by omega) }
end
/-- Behind a round. -/
structure RPost (w : World) (b : Nat) (sp br : Int) (s : DS) (n : Int) (k : Nat) (W1 W : World) : Prop where
  st : RSt w b sp br s n (k + 1) (k + 1) W
/-- Where the range is left by 'break'. -/
structure RStop (w : World) (b : Nat) (sp br : Int) (s : DS) (n : Int) (k : Nat) (W1 : World) (c : Code) (W : World) : Prop where
  code : c = .exit 0
  st : RSt w b sp br s n k (k + 1) W
  at_ : (k : Int) = n

theorem dmc_le (sp br : Int) (s : DS) : ∀ k, 0 ≤ dmc sp br s k ∧ dmc sp br s k ≤ k
  | 0 => ⟨Int.le_refl _, Int.le_refl _⟩
  | k + 1 => by
    have := dmc_le sp br s k
    rw [dmc]
    split <;> omega
set_option maxHeartbeats 4000000 in
theorem drun_good (a0_0 a0_1 a0_2 a0_3 a0_4 a1 a2 a3 : Int) (T : Nat) (w : World) (hc : drive_rule_checked.f 20 a1 a2 a0_0 a0_1 a0_2 a0_3 a0_4 a3 = some 0) (h3 : 0 ≤ a3) (hT : dcnt a1 a2 70000 (a0_0, a0_1, a0_2, a0_3, a0_4) = some T) :
    Calls Try.prog 22 #[.agg #[.int .i64 a0_0, .int .i64 a0_1, .int .i64 a0_2, .int .i64 a0_3, .int .i64 a0_4], .int .i64 a1, .int .i64 a2, .int .i64 a3] w
      fun en w' => en = .returned (.tuple #[.agg (dcells (dst a1 a2 (a0_0, a0_1, a0_2, a0_3, a0_4) (min T a3.toNat))), .int .i64 (dmc a1 a2 (a0_0, a0_1, a0_2, a0_3, a0_4) (min T a3.toNat)), .int .i64 0]) ∧ Below w.heap.size w w' := by
  have HC := Aside0.mk hc
  have HT := Aside0.mk hT
  have hlt := dcnt_lt _ _ _ _ _ hT
  clear hc hT
  refine (callsIn_wide (n := 3)).1 ?_
  refine callsIn_of_wp_marks Try.func22 rfl trivial ?_ rfl
  simp only [Try.ntmps22, List.size_toArray, List.length_cons, List.length_nil, Nat.reduceAdd, Nat.reduceSub, Array.replicate_succ, Array.replicate_zero, List.push_toArray, List.append_toArray, List.nil_append, List.cons_append]
  repeat gi_step
  refine wpIn_wide.2 (wp_scope_straight ((wpIn_wide (n := 3)).1 ?_))
  gi_wp2_with (refine ⟨trivial, ?_⟩; gi_at_call 31; refine (callsIn_wide.2 (drive_rule_checked.calls 20 a1 a2 a0_0 a0_1 a0_2 a0_3 a0_4 a3 _ _ HC.out)).mono ?_; rintro e w1 ⟨rfl, hb⟩; have HB := Aside0.mk hb; have kd := blk_below (blk_alloc (blk_alloc (blk_alloc (blk_new w (.cells #[.int .i64 a0_0, .int .i64 a0_1, .int .i64 a0_2, .int .i64 a0_3, .int .i64 a0_4] 24)) (.cells #[.int .i64 a3] 3)) (.cells #[.int .i64 0, .int .i64 0, .int .i64 0, .int .i64 0, .int .i64 0] 24)) (.cells #[.int .i64 a1, .int .i64 a2] 49)) hb; have kn := blk_below (blk_alloc (blk_alloc (blk_new (w.alloc (.cells #[.int .i64 a0_0, .int .i64 a0_1, .int .i64 a0_2, .int .i64 a0_3, .int .i64 a0_4] 24)) (.cells #[.int .i64 a3] 3)) (.cells #[.int .i64 0, .int .i64 0, .int .i64 0, .int .i64 0, .int .i64 0] 24)) (.cells #[.int .i64 a1, .int .i64 a2] 49)) hb; have kz := blk_below (blk_alloc (blk_new ((w.alloc (.cells #[.int .i64 a0_0, .int .i64 a0_1, .int .i64 a0_2, .int .i64 a0_3, .int .i64 a0_4] 24)).alloc (.cells #[.int .i64 a3] 3)) (.cells #[.int .i64 0, .int .i64 0, .int .i64 0, .int .i64 0, .int .i64 0] 24)) (.cells #[.int .i64 a1, .int .i64 a2] 49)) hb; have kr := blk_below (blk_new (((w.alloc (.cells #[.int .i64 a0_0, .int .i64 a0_1, .int .i64 a0_2, .int .i64 a0_3, .int .i64 a0_4] 24)).alloc (.cells #[.int .i64 a3] 3)).alloc (.cells #[.int .i64 0, .int .i64 0, .int .i64 0, .int .i64 0, .int .i64 0] 24)) (.cells #[.int .i64 a1, .int .i64 a2] 49)) hb; simp only [World.size_alloc] at kn kz kr; have KD := Aside0.mk kd; have KN := Aside0.mk kn; have KZ := Aside0.mk kz; have KR := Aside0.mk kr; have d0 := fun o => blk_cell (blk_alloc kd o) 0; have d1 := fun o => blk_cell (blk_alloc kd o) 1; have d2 := fun o => blk_cell (blk_alloc kd o) 2; have d3 := fun o => blk_cell (blk_alloc kd o) 3; have d4 := fun o => blk_cell (blk_alloc kd o) 4; have r0 := fun o => blk_cell (blk_alloc kr o) 0; have r1 := fun o => blk_cell (blk_alloc kr o) 1; simp at d0 d1 d2 d3 d4 r0 r1; clear kd kn kz kr)
  refine wpIn_label ?_
  gi_wp2_with (refine ⟨trivial, ?_⟩; gi_at_call 34; refine (callsIn_wide.2 (ticks_calls _ _ _ _ _ _ _ _)).mono ?_; rintro e w2 ⟨rfl, hw2⟩)
  have hn := HB.out.size
  simp only [World.size_alloc] at hn
  have hbN : w.heap.size + 4 ≤ w1.heap.size := by omega
  have hB1 : Below w.heap.size w w1 := below_step (below_alloc (below_alloc (below_alloc (below_alloc (Below.refl _ _) _) _) _) _) HB.out
  have hsz : w2.heap.size = w1.heap.size + 4 := by rw [hw2]; simp
  have hSt : ∀ o o2, RSt w w1.heap.size a1 a2 (a0_0, a0_1, a0_2, a0_3, a0_4) a3 0 0 ((w2.alloc o).alloc o2) := fun o o2 => by
    subst hw2
    exact {
      below := below_alloc (below_alloc (below_alloc (below_alloc (below_alloc (below_alloc hB1 _) _) _) _) _) _
      le := h3
      size := by simp
      cg := blk_alloc (blk_alloc (blk_alloc (blk_alloc (blk_alloc (blk_alloc KD.out _) _) _) _) _) _
      cn := blk_alloc (blk_alloc (blk_alloc (blk_alloc (blk_alloc (blk_alloc KN.out _) _) _) _) _) _
      cz := blk_alloc (blk_alloc (blk_alloc (blk_alloc (blk_alloc (blk_alloc KZ.out _) _) _) _) _) _
      cc := blk_alloc (blk_alloc (blk_alloc (blk_alloc (blk_alloc (blk_new w1 _) _) _) _) _) _
      trr := blk_alloc (blk_alloc (blk_alloc (blk_alloc (blk_newN _ _ (by simp)) _) _) _) _
      td := blk_alloc (blk_alloc (blk_alloc (blk_newN _ _ (by simp)) _) _) _
      tst := blk_alloc (blk_alloc (blk_newN _ _ (by simp)) _) _ }
  rw [← hw2]
  clear hw2 d0 d1 d2 d3 d4 r0 r1 HC HB KD KN KZ KR hn hB1
  refine rf_law (gf := 43) (lb := #[.pointer (some ⟨w1.heap.size + 1 + 1, 0, none⟩), .pointer (some ⟨w1.heap.size + 1 + 1 + 1, 0, none⟩), .pointer (some ⟨w1.heap.size + 1, 0, none⟩)]) (encs := fun y : Nat => #[.agg (dcells (dst a1 a2 (a0_0, a0_1, a0_2, a0_3, a0_4) (y + 1))), .bool (dmo a1 a2 (dst a1 a2 (a0_0, a0_1, a0_2, a0_3, a0_4) y))]) rfl (by decide) rfl trivial (enters_of Try.func43 (by kernel_rfl) rfl) (fun _ => rfl)
    (fun y W => RSt w w1.heap.size a1 a2 (a0_0, a0_1, a0_2, a0_3, a0_4) a3 y (y + 1) W ∧ y < T)
    (fun y W1 a' W2 => a' = { tmps := #[Value.agg #[.int .i64 a0_0, .int .i64 a0_1, .int .i64 a0_2, .int .i64 a0_3, .int .i64 a0_4], .int .i64 a1, .int .i64 a2, .int .i64 a3, .pointer (some ⟨w.heap.size, 0, none⟩), undef, undef, .pointer (some ⟨w.heap.size + 1, 0, none⟩), .pointer (some ⟨w.heap.size + 1 + 1, 0, none⟩), .int .i64 0, .int .i64 0, .pointer (some ⟨w.heap.size + 1 + 1 + 1, 0, none⟩), .int .i64 0, .pointer (some ⟨w1.heap.size, 0, none⟩), .pointer (some ⟨W1.heap.size, 0, none⟩), .bool (dmo a1 a2 (dst a1 a2 (a0_0, a0_1, a0_2, a0_3, a0_4) y)), .int .i64 a1, .int .i64 a2, Value.agg #[.int .i64 a1, .int .i64 a2], Value.agg #[.int .i64 a1, .int .i64 a2], Value.agg #[.int .i64 a0_0, .int .i64 a0_1, .int .i64 a0_2, .int .i64 a0_3, .int .i64 a0_4], .int .i64 a3, .int .i64 0, .int .i64 0, .bool false, undef, undef, Value.agg #[.int .i64 a1, .int .i64 a2], Value.agg #[.int .i64 a0_0, .int .i64 a0_1, .int .i64 a0_2, .int .i64 a0_3, .int .i64 a0_4], .func (.func 43) #[] #[.pointer (some ⟨w1.heap.size + 1 + 1, 0, none⟩), .pointer (some ⟨w1.heap.size + 1 + 1 + 1, 0, none⟩), .pointer (some ⟨w1.heap.size + 1, 0, none⟩)], .agg (dcells (dst a1 a2 (a0_0, a0_1, a0_2, a0_3, a0_4) (y + 1))), .bool (dmo a1 a2 (dst a1 a2 (a0_0, a0_1, a0_2, a0_3, a0_4) y)), undef, undef, undef, undef, undef, undef, undef, undef, undef, undef, undef, undef, undef, undef, undef, undef, undef], defers := [] } ∧ W2 = W1.alloc (.cells (dcells (dst a1 a2 (a0_0, a0_1, a0_2, a0_3, a0_4) (y + 1))) 24) ∧ RSt w w1.heap.size a1 a2 (a0_0, a0_1, a0_2, a0_3, a0_4) a3 y (y + 1) W1 ∧ y < T)
    (RPost w w1.heap.size a1 a2 (a0_0, a0_1, a0_2, a0_3, a0_4) a3)
    (fun y W1 c W => RStop w w1.heap.size a1 a2 (a0_0, a0_1, a0_2, a0_3, a0_4) a3 y W1 c W ∧ y < T)
    (fun W => RSt w w1.heap.size a1 a2 (a0_0, a0_1, a0_2, a0_3, a0_4) a3 T T W) (fun c W => ∃ y W1, RStop w w1.heap.size a1 a2 (a0_0, a0_1, a0_2, a0_3, a0_4) a3 y W1 c W ∧ y < T) ?assign ?body ?iter ?done ?stop
  case assign =>
    rintro k W1 K ⟨h1, h4⟩ hK
    have hs1 := h1.size
    simp only [dcells]
    gi_wp2
    exact hK _ _ (Below.heap_alloc _ _ _ (by rw [hsz]; omega)) (Below.heap_alloc _ _ _ (by rw [hsz]; omega)) ⟨by simp [dcells], by simp [dcells], h1, h4⟩
  case body =>
    rintro k W1 a' W2 Rb ⟨rfl, rfl, h1, h4⟩
    have hlr : w2.heap.size + 1 = w1.heap.size + 5 := by rw [hsz]
    rw [hlr]
    have hs1 := h1.size
    have hX1 := (h1.step (below_alloc (Below.refl _ _) (.cells (dcells (dst a1 a2 (a0_0, a0_1, a0_2, a0_3, a0_4) (k + 1))) 24)) hbN).putl Rb hbN
    have hX3 : ((W1.alloc (.cells (dcells (dst a1 a2 (a0_0, a0_1, a0_2, a0_3, a0_4) (k + 1))) 24)).putObj (w1.heap.size + 5) Rb).heap[W1.heap.size]? = some (.cells (dcells (dst a1 a2 (a0_0, a0_1, a0_2, a0_3, a0_4) (k + 1))) 24) := (World.putObj_heap_other (by omega)).trans (blk_new _ _)
    generalize (W1.alloc (.cells (dcells (dst a1 a2 (a0_0, a0_1, a0_2, a0_3, a0_4) (k + 1))) 24)).putObj (w1.heap.size + 5) Rb = X at hX1 hX3 ⊢
    obtain ⟨c0, c1, c2, c3, c4, hcd⟩ : ∃ c0 c1 c2 c3 c4, dst a1 a2 (a0_0, a0_1, a0_2, a0_3, a0_4) k = (c0, c1, c2, c3, c4) := ⟨_, _, _, _, _, rfl⟩
    obtain ⟨b0, b1, b2, b3, b4, hbd⟩ : ∃ b0 b1 b2 b3 b4, dst a1 a2 (a0_0, a0_1, a0_2, a0_3, a0_4) (k + 1) = (b0, b1, b2, b3, b4) := ⟨_, _, _, _, _, rfl⟩
    obtain ⟨mc, hmc⟩ : ∃ mc, mc = dmc a1 a2 (a0_0, a0_1, a0_2, a0_3, a0_4) k := ⟨_, rfl⟩
    have hmb : 0 ≤ mc ∧ mc ≤ k := by rw [hmc]; exact dmc_le a1 a2 (a0_0, a0_1, a0_2, a0_3, a0_4) k
    have hg := hX1.cg
    have hcc := hX1.cc
    rw [← hmc] at hcc
    simp only [hcd, dcells] at hg
    simp only [hbd, dcells] at hX3 ⊢
    have g0 : X.cell? ⟨w.heap.size, 0, none⟩ = some (.int .i64 c0) := (blk_cell hg 0).trans rfl
    have g1 : X.cell? ⟨w.heap.size, 1, none⟩ = some (.int .i64 c1) := (blk_cell hg 1).trans rfl
    have g2 : X.cell? ⟨w.heap.size, 2, none⟩ = some (.int .i64 c2) := (blk_cell hg 2).trans rfl
    have g3 : X.cell? ⟨w.heap.size, 3, none⟩ = some (.int .i64 c3) := (blk_cell hg 3).trans rfl
    have g4 : X.cell? ⟨w.heap.size, 4, none⟩ = some (.int .i64 c4) := (blk_cell hg 4).trans rfl
    have f0 := blk_frozen hg 0
    have f1 := blk_frozen hg 1
    have f2 := blk_frozen hg 2
    have f3 := blk_frozen hg 3
    have f4 := blk_frozen hg 4
    have x0 : X.cell? ⟨W1.heap.size, 0, none⟩ = some (.int .i64 b0) := (blk_cell hX3 0).trans rfl
    have x1 : X.cell? ⟨W1.heap.size, 1, none⟩ = some (.int .i64 b1) := (blk_cell hX3 1).trans rfl
    have x2 : X.cell? ⟨W1.heap.size, 2, none⟩ = some (.int .i64 b2) := (blk_cell hX3 2).trans rfl
    have x3 : X.cell? ⟨W1.heap.size, 3, none⟩ = some (.int .i64 b3) := (blk_cell hX3 3).trans rfl
    have x4 : X.cell? ⟨W1.heap.size, 4, none⟩ = some (.int .i64 b4) := (blk_cell hX3 4).trans rfl
    have n0 : X.cell? ⟨w.heap.size + 1, 0, none⟩ = some (.int .i64 a3) := (blk_cell hX1.cn 0).trans rfl
    have k0 : X.cell? ⟨w1.heap.size, 0, none⟩ = some (.int .i64 k) := (blk_cell hcc 0).trans rfl
    have k1 : X.cell? ⟨w1.heap.size, 1, none⟩ = some (.int .i64 mc) := (blk_cell hcc 1).trans rfl
    have kf0 := blk_frozen hcc 0
    have kf1 := blk_frozen hcc 1
    have q1 : w1.heap.size ≠ w.heap.size := by omega
    have q3 : W1.heap.size ≠ w.heap.size := by have := h1.below.size; omega
    have q4 : W1.heap.size ≠ w1.heap.size := by omega
    have hwm : wrap64 (mc + 1) = mc + 1 := wsm _ (by omega) (by omega)
    have hu56 : Try.prog.underlying 56 = some (.array 2 3) := by kernel_rfl
    have HX := Aside0.mk hX1
    have HCD := Aside0.mk hcd
    have HBD := Aside0.mk hbd
    have HMC := Aside0.mk hmc
    have HMB := Aside0.mk hmb
    have HX3 := Aside0.mk hX3
    clear hSt hX1 h1 hcd hbd hmc hmb hX3
    by_cases hk : (k : Int) = a3
    · have e1 : ((k : Int) == a3) = true := beq_iff_eq.mpr hk
      have HK := Aside0.mk hk
      clear hk
      repeat gi_step
      exact ⟨rfl, rfl, fun Ra => ⟨⟨rfl, HX.out.putl Ra hbN, HK.out⟩, h4⟩⟩
    · have e1 : ((k : Int) == a3) = false := beq_eq_false_iff_ne.mpr hk
      have HK := Aside0.mk hk
      clear hk
      by_cases hm : dmo a1 a2 (dst a1 a2 (a0_0, a0_1, a0_2, a0_3, a0_4) k) = true
      · have HM : Aside0 (dmc a1 a2 (a0_0, a0_1, a0_2, a0_3, a0_4) (k + 1) = mc + 1) := ⟨by rw [dmc, if_pos hm, HMC.out]⟩
        rw [hm]
        clear hm
        repeat gi_step
        have kY := kept_store5 X w.heap.size (.int .i64 b0) (.int .i64 b1) (.int .i64 b2) (.int .i64 b3) (.int .i64 b4)
        have bY := below_store5 HX.out.below (Nat.le_refl _) (.int .i64 b0) (.int .i64 b1) (.int .i64 b2) (.int .i64 b3) (.int .i64 b4)
        have y1 := blk_store5 hg (.int .i64 b0) (.int .i64 b1) (.int .i64 b2) (.int .i64 b3) (.int .i64 b4)
        have y2 := blk_kept hcc kY q1
        generalize ((((X.setCell ⟨w.heap.size, 0, none⟩ (.int .i64 b0)).setCell ⟨w.heap.size, 1, none⟩ (.int .i64 b1)).setCell ⟨w.heap.size, 2, none⟩ (.int .i64 b2)).setCell ⟨w.heap.size, 3, none⟩ (.int .i64 b3)).setCell ⟨w.heap.size, 4, none⟩ (.int .i64 b4) = Y at kY bY y1 y2 ⊢
        have kA : Kept X (Y.setCell ⟨w1.heap.size, 0, none⟩ (.int .i64 (k + 1))) (fun j => j = w.heap.size ∨ j = w1.heap.size) := (kY.mono (fun j hj => .inl hj)).then_ (kept_cell Y w1.heap.size 0 _) (fun j hj => .inl (.inr hj))
        have bA : Below w.heap.size w (Y.setCell ⟨w1.heap.size, 0, none⟩ (.int .i64 (k + 1))) := below_set bY (by omega)
        have z1 := blk_kept y1 (kept_cell Y w1.heap.size 0 (.int .i64 (k + 1))) q1.symm
        have hXs := HX.out.size
        have kB : Kept X ((Y.setCell ⟨w1.heap.size, 0, none⟩ (.int .i64 (k + 1))).setCell ⟨w1.heap.size, 1, none⟩ (.int .i64 (mc + 1))) (fun j => j = w.heap.size ∨ j = w1.heap.size) := kA.then_ (kept_cell _ w1.heap.size 1 _) (fun j hj => .inl (.inr hj))
        have bB : Below w.heap.size w ((Y.setCell ⟨w1.heap.size, 0, none⟩ (.int .i64 (k + 1))).setCell ⟨w1.heap.size, 1, none⟩ (.int .i64 (mc + 1))) := below_set bA (by omega)
        have z2 := blk_kept z1 (kept_cell (Y.setCell ⟨w1.heap.size, 0, none⟩ (.int .i64 (k + 1))) w1.heap.size 1 (.int .i64 (mc + 1))) q1.symm
        have z3 : ((Y.setCell ⟨w1.heap.size, 0, none⟩ (.int .i64 (k + 1))).setCell ⟨w1.heap.size, 1, none⟩ (.int .i64 (mc + 1))).heap[w1.heap.size]? = some (.cells #[.int .i64 (k + 1 : Nat), .int .i64 (mc + 1)] 56) := (blk_set (blk_set y2 0 _) 1 _).trans rfl
        have hZ := HX.out.round kB bB hbN HK.out (by rw [HBD.out]; exact z2) (by rw [HM.out]; exact z3)
        exact ⟨kB.2 _ (by omega) (by omega), kB.2 _ (by omega) (by omega), fun Ra => ⟨hZ.putl Ra hbN⟩⟩
      · have HM : Aside0 (dmc a1 a2 (a0_0, a0_1, a0_2, a0_3, a0_4) (k + 1) = mc) := ⟨by rw [dmc, if_neg hm, HMC.out, Int.add_zero]⟩
        rw [Bool.not_eq_true] at hm
        rw [hm]
        clear hm
        repeat gi_step
        have kY := kept_store5 X w.heap.size (.int .i64 b0) (.int .i64 b1) (.int .i64 b2) (.int .i64 b3) (.int .i64 b4)
        have bY := below_store5 HX.out.below (Nat.le_refl _) (.int .i64 b0) (.int .i64 b1) (.int .i64 b2) (.int .i64 b3) (.int .i64 b4)
        have y1 := blk_store5 hg (.int .i64 b0) (.int .i64 b1) (.int .i64 b2) (.int .i64 b3) (.int .i64 b4)
        have y2 := blk_kept hcc kY q1
        generalize ((((X.setCell ⟨w.heap.size, 0, none⟩ (.int .i64 b0)).setCell ⟨w.heap.size, 1, none⟩ (.int .i64 b1)).setCell ⟨w.heap.size, 2, none⟩ (.int .i64 b2)).setCell ⟨w.heap.size, 3, none⟩ (.int .i64 b3)).setCell ⟨w.heap.size, 4, none⟩ (.int .i64 b4) = Y at kY bY y1 y2 ⊢
        have kA : Kept X (Y.setCell ⟨w1.heap.size, 0, none⟩ (.int .i64 (k + 1))) (fun j => j = w.heap.size ∨ j = w1.heap.size) := (kY.mono (fun j hj => .inl hj)).then_ (kept_cell Y w1.heap.size 0 _) (fun j hj => .inl (.inr hj))
        have bA : Below w.heap.size w (Y.setCell ⟨w1.heap.size, 0, none⟩ (.int .i64 (k + 1))) := below_set bY (by omega)
        have z1 := blk_kept y1 (kept_cell Y w1.heap.size 0 (.int .i64 (k + 1))) q1.symm
        have hXs := HX.out.size
        have z3 : (Y.setCell ⟨w1.heap.size, 0, none⟩ (.int .i64 (k + 1))).heap[w1.heap.size]? = some (.cells #[.int .i64 (k + 1 : Nat), .int .i64 mc] 56) := (blk_set y2 0 _).trans rfl
        have hZ := HX.out.round kA bA hbN HK.out (by rw [HBD.out]; exact z1) (by rw [HM.out]; exact z3)
        exact ⟨kA.2 _ (by omega) (by omega), kA.2 _ (by omega) (by omega), fun Ra => ⟨hZ.putl Ra hbN⟩⟩
  case iter =>
    intro R0 Rs W hW hYY
    rw [hsz] at hYY ⊢
    refine (iter_ok (w1.heap.size + 4 + 1) (w1.heap.size + 1 + 1) (w1.heap.size + 1 + 1 + 1) (w1.heap.size + 1) a1 a2 (a0_0, a0_1, a0_2, a0_3, a0_4) 70000 T HT.out
      (fun k W => RSt w w1.heap.size a1 a2 (a0_0, a0_1, a0_2, a0_3, a0_4) a3 k k W ∧ W.heap[w1.heap.size + 4 + 1]? = some R0 ∧ W.heap[w1.heap.size + 4]? = some (.deferred (some [])))
      (fun k W => RSt w w1.heap.size a1 a2 (a0_0, a0_1, a0_2, a0_3, a0_4) a3 k (k + 1) W ∧ W.heap[w1.heap.size + 4 + 1]? = some R0 ∧ W.heap[w1.heap.size + 4]? = some (.deferred (some [])))
      (fun W => ∃ c y W1, (RStop w w1.heap.size a1 a2 (a0_0, a0_1, a0_2, a0_3, a0_4) a3 y W1 c W ∧ y < T) ∧ W.heap[w1.heap.size + 4 + 1]? = some (Rs c) ∧ W.heap[w1.heap.size + 4]? = some (.deferred (some []))) ?jt ?jb ?js ?jy W ?j0).mono ?jm
    case jt =>
      rintro k W ⟨h1, _, _⟩
      exact ⟨h1.td, h1.tst, h1.trr⟩
    case jb =>
      rintro k W W' ⟨h1, h2, h3⟩ hb
      exact ⟨h1.step hb hbN, blk_below h2 hb, blk_below h3 hb⟩
    case js =>
      rintro k W hk ⟨h1, h2, h3⟩
      have hk := kept_store5 W (w1.heap.size + 1 + 1) (.int .i64 (dst a1 a2 (a0_0, a0_1, a0_2, a0_3, a0_4) (k + 1)).1) (.int .i64 (dst a1 a2 (a0_0, a0_1, a0_2, a0_3, a0_4) (k + 1)).2.1) (.int .i64 (dst a1 a2 (a0_0, a0_1, a0_2, a0_3, a0_4) (k + 1)).2.2.1) (.int .i64 (dst a1 a2 (a0_0, a0_1, a0_2, a0_3, a0_4) (k + 1)).2.2.2.1) (.int .i64 (dst a1 a2 (a0_0, a0_1, a0_2, a0_3, a0_4) (k + 1)).2.2.2.2)
      exact ⟨h1.store hbN, blk_kept h2 hk (by omega), blk_kept h3 hk (by omega)⟩
    case jy =>
      rintro k W1 hk ⟨h1, h2, h3⟩
      obtain ⟨fn, tmps, assign, body, hy, hR⟩ := hYY k W1 ⟨h1, hk⟩ h2 h3
      refine ⟨fn, tmps, assign, body, hy, hR.mono ?_⟩
      rintro e W' (⟨rfl, hp, g1, g2⟩ | ⟨rfl, c, hs, g1, g2⟩)
      · exact .inl ⟨rfl, hp.st, g1, g2⟩
      · exact .inr ⟨rfl, c, k, W1, hs, g1, g2⟩
    case j0 =>
      subst hW
      exact ⟨hSt _ _, blk_newN _ _ (by simp [hsz]), blk_alloc (blk_newN _ _ hsz.symm) _⟩
    case jm =>
      rintro e W' ⟨hv, ⟨h1, h2, h3⟩ | ⟨c, y, W1, h1, h2, h3⟩⟩
      · exact ⟨hv, h3, .inl ⟨h1, h2⟩⟩
      · exact ⟨hv, h3, .inr ⟨c, ⟨y, W1, h1⟩, h2⟩⟩
  case done =>
    intro W Rx hE hK
    have hlr : w2.heap.size + 1 = w1.heap.size + 5 := by rw [hsz]
    rw [hlr, hsz]
    have hP := hE.putl Rx hbN
    have hmin : min T a3.toNat = T := by have := hE.le; omega
    clear hE
    have hK2 : (W.putObj (w1.heap.size + 5) Rx).heap[w1.heap.size + 4]? = some (.deferred (some [])) := (World.putObj_heap_other (by omega)).trans (by rw [← hsz]; exact hK)
    generalize W.putObj (w1.heap.size + 5) Rx = X at hP hK2 ⊢
    have HMIN := Aside0.mk hmin
    clear hmin
    obtain ⟨b0, b1, b2, b3, b4, hbd⟩ : ∃ b0 b1 b2 b3 b4, dst a1 a2 (a0_0, a0_1, a0_2, a0_3, a0_4) T = (b0, b1, b2, b3, b4) := ⟨_, _, _, _, _, rfl⟩
    obtain ⟨mc, hmc⟩ : ∃ mc, mc = dmc a1 a2 (a0_0, a0_1, a0_2, a0_3, a0_4) T := ⟨_, rfl⟩
    have hg := hP.cg
    have hz := hP.cz
    have hcc := hP.cc
    rw [← hmc] at hcc
    simp only [hbd, dcells] at hg
    have HBD := Aside0.mk hbd
    have s0 : X.cell? ⟨w.heap.size, 0, none⟩ = some (.int .i64 b0) := (blk_cell hg 0).trans rfl
    have s1 : X.cell? ⟨w.heap.size, 1, none⟩ = some (.int .i64 b1) := (blk_cell hg 1).trans rfl
    have s2 : X.cell? ⟨w.heap.size, 2, none⟩ = some (.int .i64 b2) := (blk_cell hg 2).trans rfl
    have s3 : X.cell? ⟨w.heap.size, 3, none⟩ = some (.int .i64 b3) := (blk_cell hg 3).trans rfl
    have s4 : X.cell? ⟨w.heap.size, 4, none⟩ = some (.int .i64 b4) := (blk_cell hg 4).trans rfl
    have n0 : X.cell? ⟨w.heap.size + 1 + 1, 0, none⟩ = some (.int .i64 0) := (blk_cell hz 0).trans rfl
    have n1 : X.cell? ⟨w.heap.size + 1 + 1, 1, none⟩ = some (.int .i64 0) := (blk_cell hz 1).trans rfl
    have n2 : X.cell? ⟨w.heap.size + 1 + 1, 2, none⟩ = some (.int .i64 0) := (blk_cell hz 2).trans rfl
    have n3 : X.cell? ⟨w.heap.size + 1 + 1, 3, none⟩ = some (.int .i64 0) := (blk_cell hz 3).trans rfl
    have n4 : X.cell? ⟨w.heap.size + 1 + 1, 4, none⟩ = some (.int .i64 0) := (blk_cell hz 4).trans rfl
    have f0 : X.frozen? ⟨w.heap.size + 1 + 1, 0, none⟩ = false := blk_frozen hz 0
    have f1 : X.frozen? ⟨w.heap.size + 1 + 1, 1, none⟩ = false := blk_frozen hz 1
    have f2 : X.frozen? ⟨w.heap.size + 1 + 1, 2, none⟩ = false := blk_frozen hz 2
    have f3 : X.frozen? ⟨w.heap.size + 1 + 1, 3, none⟩ = false := blk_frozen hz 3
    have f4 : X.frozen? ⟨w.heap.size + 1 + 1, 4, none⟩ = false := blk_frozen hz 4
    have k1 : X.cell? ⟨w1.heap.size, 1, none⟩ = some (.int .i64 mc) := (blk_cell hcc 1).trans rfl
    have q1 : w1.heap.size ≠ w.heap.size + 1 + 1 := by omega
    have hu56 : Try.prog.underlying 56 = some (.array 2 3) := by kernel_rfl
    have HP := Aside0.mk hP
    have HK := Aside0.mk hK2
    clear hSt hP hK hK2 hsz hlr hbd
    repeat gi_step
    gi_region
    have kY := kept_store5 X (w.heap.size + 1 + 1) (.int .i64 b0) (.int .i64 b1) (.int .i64 b2) (.int .i64 b3) (.int .i64 b4)
    have bY := below_store5 HP.out.below (show w.heap.size ≤ w.heap.size + 1 + 1 by omega) (.int .i64 b0) (.int .i64 b1) (.int .i64 b2) (.int .i64 b3) (.int .i64 b4)
    have y1 := blk_store5 hz (.int .i64 b0) (.int .i64 b1) (.int .i64 b2) (.int .i64 b3) (.int .i64 b4)
    have hK := blk_kept HK.out kY (by omega)
    generalize ((((X.setCell ⟨w.heap.size + 1 + 1, 0, none⟩ (.int .i64 b0)).setCell ⟨w.heap.size + 1 + 1, 1, none⟩ (.int .i64 b1)).setCell ⟨w.heap.size + 1 + 1, 2, none⟩ (.int .i64 b2)).setCell ⟨w.heap.size + 1 + 1, 3, none⟩ (.int .i64 b3)).setCell ⟨w.heap.size + 1 + 1, 4, none⟩ (.int .i64 b4) = Y0 at kY bY y1 hK ⊢
    have bY := below_drew1 bY
    have y1 := blk_drew y1
    have hK := blk_drew hK
    generalize Y0.drew = Y at bY y1 hK ⊢
    repeat gi_step
    simp only [Exit.noGoto_ret]
    refine ⟨by simp, .inl ⟨_, _, rfl, run_takeDeferred hK, ?_⟩⟩
    have z1 : (Y.putObj (w1.heap.size + 4) (.deferred none)).heap[w.heap.size + 1 + 1]? = _ := (World.putObj_heap_other (by omega)).trans y1
    have bZ := below_putObj bY (w1.heap.size + 4) (.deferred none) (by omega) bY.size
    generalize Y.putObj (w1.heap.size + 4) (.deferred none) = Z at z1 bZ ⊢
    have g0 : Z.cell? ⟨w.heap.size + 1 + 1, 0, none⟩ = some (.int .i64 b0) := (blk_cell z1 0).trans rfl
    have g1 : Z.cell? ⟨w.heap.size + 1 + 1, 1, none⟩ = some (.int .i64 b1) := (blk_cell z1 1).trans rfl
    have g2 : Z.cell? ⟨w.heap.size + 1 + 1, 2, none⟩ = some (.int .i64 b2) := (blk_cell z1 2).trans rfl
    have g3 : Z.cell? ⟨w.heap.size + 1 + 1, 3, none⟩ = some (.int .i64 b3) := (blk_cell z1 3).trans rfl
    have g4 : Z.cell? ⟨w.heap.size + 1 + 1, 4, none⟩ = some (.int .i64 b4) := (blk_cell z1 4).trans rfl
    exact ⟨.tuple #[.agg #[.int .i64 b0, .int .i64 b1, .int .i64 b2, .int .i64 b3, .int .i64 b4], .int .i64 mc, .int .i64 0], by simp [results, Try.results22, go_sem, g0, g1, g2, g3, g4, hmc], by rw [HMIN.out, HBD.out, ← hmc]; rfl, bZ⟩
  case stop =>
    rintro c W Rx ⟨y, W1, hs, hy⟩ hK
    have hlr : w2.heap.size + 1 = w1.heap.size + 5 := by rw [hsz]
    rw [hlr, hsz, hs.code]
    have hP := hs.st.putl Rx hbN
    have hmin : min T a3.toNat = y := by have := hs.at_; omega
    clear hs
    refine wpIn_exit ?_
    have hK2 : (W.putObj (w1.heap.size + 5) Rx).heap[w1.heap.size + 4]? = some (.deferred (some [])) := (World.putObj_heap_other (by omega)).trans (by rw [← hsz]; exact hK)
    generalize W.putObj (w1.heap.size + 5) Rx = X at hP hK2 ⊢
    have HMIN := Aside0.mk hmin
    clear hmin
    obtain ⟨b0, b1, b2, b3, b4, hbd⟩ : ∃ b0 b1 b2 b3 b4, dst a1 a2 (a0_0, a0_1, a0_2, a0_3, a0_4) y = (b0, b1, b2, b3, b4) := ⟨_, _, _, _, _, rfl⟩
    obtain ⟨mc, hmc⟩ : ∃ mc, mc = dmc a1 a2 (a0_0, a0_1, a0_2, a0_3, a0_4) y := ⟨_, rfl⟩
    have hg := hP.cg
    have hz := hP.cz
    have hcc := hP.cc
    rw [← hmc] at hcc
    simp only [hbd, dcells] at hg
    have HBD := Aside0.mk hbd
    have s0 : X.cell? ⟨w.heap.size, 0, none⟩ = some (.int .i64 b0) := (blk_cell hg 0).trans rfl
    have s1 : X.cell? ⟨w.heap.size, 1, none⟩ = some (.int .i64 b1) := (blk_cell hg 1).trans rfl
    have s2 : X.cell? ⟨w.heap.size, 2, none⟩ = some (.int .i64 b2) := (blk_cell hg 2).trans rfl
    have s3 : X.cell? ⟨w.heap.size, 3, none⟩ = some (.int .i64 b3) := (blk_cell hg 3).trans rfl
    have s4 : X.cell? ⟨w.heap.size, 4, none⟩ = some (.int .i64 b4) := (blk_cell hg 4).trans rfl
    have n0 : X.cell? ⟨w.heap.size + 1 + 1, 0, none⟩ = some (.int .i64 0) := (blk_cell hz 0).trans rfl
    have n1 : X.cell? ⟨w.heap.size + 1 + 1, 1, none⟩ = some (.int .i64 0) := (blk_cell hz 1).trans rfl
    have n2 : X.cell? ⟨w.heap.size + 1 + 1, 2, none⟩ = some (.int .i64 0) := (blk_cell hz 2).trans rfl
    have n3 : X.cell? ⟨w.heap.size + 1 + 1, 3, none⟩ = some (.int .i64 0) := (blk_cell hz 3).trans rfl
    have n4 : X.cell? ⟨w.heap.size + 1 + 1, 4, none⟩ = some (.int .i64 0) := (blk_cell hz 4).trans rfl
    have f0 : X.frozen? ⟨w.heap.size + 1 + 1, 0, none⟩ = false := blk_frozen hz 0
    have f1 : X.frozen? ⟨w.heap.size + 1 + 1, 1, none⟩ = false := blk_frozen hz 1
    have f2 : X.frozen? ⟨w.heap.size + 1 + 1, 2, none⟩ = false := blk_frozen hz 2
    have f3 : X.frozen? ⟨w.heap.size + 1 + 1, 3, none⟩ = false := blk_frozen hz 3
    have f4 : X.frozen? ⟨w.heap.size + 1 + 1, 4, none⟩ = false := blk_frozen hz 4
    have k1 : X.cell? ⟨w1.heap.size, 1, none⟩ = some (.int .i64 mc) := (blk_cell hcc 1).trans rfl
    have q1 : w1.heap.size ≠ w.heap.size + 1 + 1 := by omega
    have hu56 : Try.prog.underlying 56 = some (.array 2 3) := by kernel_rfl
    have HP := Aside0.mk hP
    have HK := Aside0.mk hK2
    clear hSt hP hK hK2 hsz hlr hbd
    repeat gi_step
    gi_region
    have kY := kept_store5 X (w.heap.size + 1 + 1) (.int .i64 b0) (.int .i64 b1) (.int .i64 b2) (.int .i64 b3) (.int .i64 b4)
    have bY := below_store5 HP.out.below (show w.heap.size ≤ w.heap.size + 1 + 1 by omega) (.int .i64 b0) (.int .i64 b1) (.int .i64 b2) (.int .i64 b3) (.int .i64 b4)
    have y1 := blk_store5 hz (.int .i64 b0) (.int .i64 b1) (.int .i64 b2) (.int .i64 b3) (.int .i64 b4)
    have hK := blk_kept HK.out kY (by omega)
    generalize ((((X.setCell ⟨w.heap.size + 1 + 1, 0, none⟩ (.int .i64 b0)).setCell ⟨w.heap.size + 1 + 1, 1, none⟩ (.int .i64 b1)).setCell ⟨w.heap.size + 1 + 1, 2, none⟩ (.int .i64 b2)).setCell ⟨w.heap.size + 1 + 1, 3, none⟩ (.int .i64 b3)).setCell ⟨w.heap.size + 1 + 1, 4, none⟩ (.int .i64 b4) = Y0 at kY bY y1 hK ⊢
    have bY := below_drew1 bY
    have y1 := blk_drew y1
    have hK := blk_drew hK
    generalize Y0.drew = Y at bY y1 hK ⊢
    repeat gi_step
    simp only [Exit.noGoto_ret]
    refine ⟨by simp, .inl ⟨_, _, rfl, run_takeDeferred hK, ?_⟩⟩
    have z1 : (Y.putObj (w1.heap.size + 4) (.deferred none)).heap[w.heap.size + 1 + 1]? = _ := (World.putObj_heap_other (by omega)).trans y1
    have bZ := below_putObj bY (w1.heap.size + 4) (.deferred none) (by omega) bY.size
    generalize Y.putObj (w1.heap.size + 4) (.deferred none) = Z at z1 bZ ⊢
    have g0 : Z.cell? ⟨w.heap.size + 1 + 1, 0, none⟩ = some (.int .i64 b0) := (blk_cell z1 0).trans rfl
    have g1 : Z.cell? ⟨w.heap.size + 1 + 1, 1, none⟩ = some (.int .i64 b1) := (blk_cell z1 1).trans rfl
    have g2 : Z.cell? ⟨w.heap.size + 1 + 1, 2, none⟩ = some (.int .i64 b2) := (blk_cell z1 2).trans rfl
    have g3 : Z.cell? ⟨w.heap.size + 1 + 1, 3, none⟩ = some (.int .i64 b3) := (blk_cell z1 3).trans rfl
    have g4 : Z.cell? ⟨w.heap.size + 1 + 1, 4, none⟩ = some (.int .i64 b4) := (blk_cell z1 4).trans rfl
    exact ⟨.tuple #[.agg #[.int .i64 b0, .int .i64 b1, .int .i64 b2, .int .i64 b3, .int .i64 b4], .int .i64 mc, .int .i64 0], by simp [results, Try.results22, go_sem, g0, g1, g2, g3, g4, hmc], by rw [HMIN.out, HBD.out, ← hmc]; rfl, bZ⟩
theorem drive_Run.calls (a0_0 : Int) (a0_1 : Int) (a0_2 : Int) (a0_3 : Int) (a0_4 : Int) (a1 : Int) (a2 : Int) (a3 : Int) (r1 : Int) (r2 : Int) (r3 : Int) (r4 : Int) (r5 : Int) (r6 : Int) (r7 : Int) (w : World) (h : drive_Run.f a0_0 a0_1 a0_2 a0_3 a0_4 a1 a2 a3 = some (r1, r2, r3, r4, r5, r6, r7)) :
    Calls Try.prog 22 #[.agg #[.int .i64 a0_0, .int .i64 a0_1, .int .i64 a0_2, .int .i64 a0_3, .int .i64 a0_4], .int .i64 a1, .int .i64 a2, .int .i64 a3] w fun e w' => e = .returned (.tuple #[.agg #[.int .i64 r1, .int .i64 r2, .int .i64 r3, .int .i64 r4, .int .i64 r5], .int .i64 r6, .int .i64 r7]) ∧ Below w.heap.size w w' := by
  unfold drive_Run.f at h
  obtain ⟨e, hc, h⟩ := Option.bind_eq_some_iff.mp h
  by_cases he : e = 0
  · subst he
    rw [if_pos rfl] at h
    by_cases h3 : 0 ≤ a3
    · rw [if_pos h3] at h
      obtain ⟨T, hT, hr⟩ := Option.map_eq_some_iff.mp h
      refine (drun_good a0_0 a0_1 a0_2 a0_3 a0_4 a1 a2 a3 T w hc h3 hT).mono ?_
      rintro en w' ⟨rfl, hb⟩
      obtain ⟨rfl, rfl, rfl, rfl, rfl, rfl, rfl⟩ : _ = r1 ∧ _ = r2 ∧ _ = r3 ∧ _ = r4 ∧ _ = r5 ∧ _ = r6 ∧ 0 = r7 := by simpa using hr
      exact ⟨rfl, hb⟩
    · rw [if_neg h3] at h; cases h
  · rw [if_neg he] at h
    obtain ⟨rfl, rfl, rfl, rfl, rfl, rfl, rfl⟩ : 0 = r1 ∧ 0 = r2 ∧ 0 = r3 ∧ 0 = r4 ∧ 0 = r5 ∧ 0 = r6 ∧ e = r7 := by simpa using h
    exact drun_bad a0_0 a0_1 a0_2 a0_3 a0_4 a1 a2 a3 _ w hc he
end Go.Proofs.Ytfeikhooaadlbaa.P
