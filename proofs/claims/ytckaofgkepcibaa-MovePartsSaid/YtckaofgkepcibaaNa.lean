/- Package drive: how many ticks a drive needs: what it answers, and that the Go code comes to just this. -/
import Derived.Test.YtckaofgkepcibaaNi
namespace Go.Proofs.Ytckaofgkepcibaa.P
open Go.RowKit Go.Proofs.YtckaofgkepcibaaW.PrintWords Go.Proofs.YtckaofgkepcibaaW.PrintLast Go.Proofs.YtckaofgkepcibaaW.PrintMore
set_option linter.unusedVariables false
set_option linter.unusedSimpArgs false
attribute [local go_sem] Oper.semAt_some

def drive_rule_needs.f (a0_0 : Int) (a0_1 : Int) (a1_0 : Int) (a1_1 : Int) (a1_2 : Int) (a1_3 : Int) (a1_4 : Int) : Option (Int) :=
  (dcnt a0_0 a0_1 70000 (a1_0, a1_1, a1_2, a1_3, a1_4)).map (fun n : Nat => (n : Int))
theorem dcnt_lt (sp br : Int) : ∀ (K : Nat) (s : DS) (n : Nat), dcnt sp br K s = some n → n < K := by
  intro K
  induction K with
  | zero => intro s n h; cases h
  | succ K ih =>
    intro s n h
    rw [dcnt] at h
    by_cases h0 : s.2.2.2.1 = 0
    · rw [if_pos h0] at h; have := Option.some.inj h; omega
    · rw [if_neg h0] at h
      obtain ⟨r, hr, h⟩ := Option.bind_eq_some_iff.mp h
      obtain ⟨m, hm, rfl⟩ := Option.map_eq_some_iff.mp h
      have := ih _ _ hm
      omega
theorem blk_newN (w : World) (o : Obj) {n : Nat} (h : n = w.heap.size) : (w.alloc o).heap[n]? = some o := by subst h; exact blk_new w o
theorem kept_putObj (W : World) (l : Nat) (o : Obj) : Kept W (W.putObj l o) (fun k => k = l) := ⟨by simp [World.putObj], fun i _ hn => World.putObj_heap_other hn⟩
theorem below_putObj {n : Nat} {w W : World} (h : Below n w W) (l : Nat) (o : Obj) (hl : n ≤ l) (hn : n ≤ W.heap.size) : Below n w (W.putObj l o) := h.grown (grownBy_putObj' W l o) hn (fun k e => by cases e; omega)
theorem kept_cell (W : World) (g i : Nat) (u : Value) : Kept W (W.setCell ⟨g, i, none⟩ u) (fun k => k = g) := Kept.setCell (S := fun k => k = g) (p := ⟨g, i, none⟩) (Kept.refl W _) (Or.inl rfl) u
theorem kept_store5 (W : World) (g : Nat) (u0 u1 u2 u3 u4 : Value) : Kept W (((((W.setCell ⟨g, 0, none⟩ u0).setCell ⟨g, 1, none⟩ u1).setCell ⟨g, 2, none⟩ u2).setCell ⟨g, 3, none⟩ u3).setCell ⟨g, 4, none⟩ u4) (fun k => k = g) := by
  refine Kept.setCell (S := fun k => k = g) (p := ⟨g, 4, none⟩) ?_ (Or.inl rfl) _
  refine Kept.setCell (S := fun k => k = g) (p := ⟨g, 3, none⟩) ?_ (Or.inl rfl) _
  refine Kept.setCell (S := fun k => k = g) (p := ⟨g, 2, none⟩) ?_ (Or.inl rfl) _
  refine Kept.setCell (S := fun k => k = g) (p := ⟨g, 1, none⟩) ?_ (Or.inl rfl) _
  exact kept_cell W g 0 u0
theorem below_store5 {w W : World} {g : Nat} (h : Below w.heap.size w W) (hg : w.heap.size ≤ g) (u0 u1 u2 u3 u4 : Value) : Below w.heap.size w (((((W.setCell ⟨g, 0, none⟩ u0).setCell ⟨g, 1, none⟩ u1).setCell ⟨g, 2, none⟩ u2).setCell ⟨g, 3, none⟩ u3).setCell ⟨g, 4, none⟩ u4) :=
  below_set (below_set (below_set (below_set (below_set h hg) hg) hg) hg) hg
theorem blk_store5 {W : World} {g : Nat} {t : TypeId} {x0 x1 x2 x3 x4 : Value} (h : W.heap[g]? = some (.cells #[x0, x1, x2, x3, x4] t)) (u0 u1 u2 u3 u4 : Value) :
    (((((W.setCell ⟨g, 0, none⟩ u0).setCell ⟨g, 1, none⟩ u1).setCell ⟨g, 2, none⟩ u2).setCell ⟨g, 3, none⟩ u3).setCell ⟨g, 4, none⟩ u4).heap[g]? = some (.cells #[u0, u1, u2, u3, u4] t) := (blk_set (blk_set (blk_set (blk_set (blk_set h 0 _) 1 _) 2 _) 3 _) 4 _).trans rfl

/-- Between the ticks: the caller has counted kc of them, the iterator has made kt. -/
structure NSt (w : World) (b : Nat) (sp br : Int) (s : DS) (kc kt : Nat) (W : World) : Prop where
  below : Below w.heap.size w W
  size : b + 6 ≤ W.heap.size
  cn : W.heap[b]? = some (.cells #[.int .i64 kc] 3)
  trr : W.heap[b + 1]? = some (.cells #[.int .i64 sp, .int .i64 br] 85)
  td : W.heap[b + 1 + 1]? = some (.cells (dcells (dst sp br s kt)) 33)
  tst : W.heap[b + 1 + 1 + 1]? = some (.cells #[.func (.func 58) #[] #[]] 102)
variable {w : World} {b : Nat} {sp br : Int} {s : DS} {kc kt : Nat} {W W2 : World}
theorem NSt.kept (h : NSt w b sp br s kc kt W) (hk : Kept W W2 (fun k => k = b + 5)) (hbl : Below w.heap.size w W2) : NSt w b sp br s kc kt W2 :=
  { below := hbl, size := Nat.le_trans h.size hk.1, cn := blk_kept h.cn hk (by omega), trr := blk_kept h.trr hk (by omega), td := blk_kept h.td hk (by omega), tst := blk_kept h.tst hk (by omega) }
theorem NSt.step (h : NSt w b sp br s kc kt W) (hk : Below W.heap.size W W2) : NSt w b sp br s kc kt W2 := h.kept (Kept.of_below hk _) (below_step h.below hk)
theorem NSt.putl (h : NSt w b sp br s kc kt W) (o : Obj) (hb : w.heap.size ≤ b) : NSt w b sp br s kc kt (W.putObj (b + 5) o) := h.kept (kept_putObj _ _ _) (below_putObj h.below _ _ (by omega) h.below.size)
theorem NSt.store (h : NSt w b sp br s kc kt W) (hb : w.heap.size ≤ b) :
    NSt w b sp br s kc (kt + 1) (((((W.setCell ⟨b + 1 + 1, 0, none⟩ (.int .i64 (dst sp br s (kt + 1)).1)).setCell ⟨b + 1 + 1, 1, none⟩ (.int .i64 (dst sp br s (kt + 1)).2.1)).setCell ⟨b + 1 + 1, 2, none⟩ (.int .i64 (dst sp br s (kt + 1)).2.2.1)).setCell ⟨b + 1 + 1, 3, none⟩ (.int .i64 (dst sp br s (kt + 1)).2.2.2.1)).setCell ⟨b + 1 + 1, 4, none⟩ (.int .i64 (dst sp br s (kt + 1)).2.2.2.2)) := by
  have hk := kept_store5 W (b + 1 + 1) (.int .i64 (dst sp br s (kt + 1)).1) (.int .i64 (dst sp br s (kt + 1)).2.1) (.int .i64 (dst sp br s (kt + 1)).2.2.1) (.int .i64 (dst sp br s (kt + 1)).2.2.2.1) (.int .i64 (dst sp br s (kt + 1)).2.2.2.2)
  exact { below := below_store5 h.below (by omega) _ _ _ _ _, size := Nat.le_trans h.size hk.1, cn := blk_kept h.cn hk (by omega), trr := blk_kept h.trr hk (by omega), td := blk_store5 h.td _ _ _ _ _, tst := blk_kept h.tst hk (by omega) }
/-- Behind a round. -/
structure NPost (w : World) (b : Nat) (sp br : Int) (s : DS) (k : Nat) (W1 W : World) : Prop where
  st : NSt w b sp br s (k + 1) (k + 1) W

set_option maxHeartbeats 4000000 in
theorem drive_rule_needs.calls (a0_0 : Int) (a0_1 : Int) (a1_0 : Int) (a1_1 : Int) (a1_2 : Int) (a1_3 : Int) (a1_4 : Int) (r : Int) (w : World) (h : drive_rule_needs.f a0_0 a0_1 a1_0 a1_1 a1_2 a1_3 a1_4 = some r) :
    Calls Try.prog 51 #[.agg #[.int .i64 a0_0, .int .i64 a0_1], .agg #[.int .i64 a1_0, .int .i64 a1_1, .int .i64 a1_2, .int .i64 a1_3, .int .i64 a1_4]] w fun e w' => e = .returned (.int .i64 r) ∧ Below w.heap.size w w' := by
  obtain ⟨T, hT, rfl⟩ := Option.map_eq_some_iff.mp h
  have hlt := dcnt_lt _ _ _ _ _ hT
  clear h
  refine (callsIn_wide (n := 3)).1 ?_
  refine callsIn_of_wp_marks Try.func51 rfl trivial ?_ rfl
  simp only [Try.ntmps51, List.size_toArray, List.length_cons, List.length_nil, Nat.reduceAdd, Nat.reduceSub, Array.replicate_succ, Array.replicate_zero, List.push_toArray, List.append_toArray, List.nil_append, List.cons_append]
  gi_wp2_with (refine ⟨trivial, ?_⟩; gi_at_call 60; refine (callsIn_wide.2 (ticks_calls _ _ _ _ _ _ _ _)).mono ?_; rintro e w2 ⟨rfl, hw2⟩)
  have hbN : w.heap.size ≤ w.heap.size + 1 + 1 := by omega
  have hsz : w2.heap.size = w.heap.size + 1 + 1 + 4 := by rw [hw2]; simp
  have hSt : ∀ o o2, NSt w (w.heap.size + 1 + 1) a0_0 a0_1 (a1_0, a1_1, a1_2, a1_3, a1_4) 0 0 ((w2.alloc o).alloc o2) := fun o o2 => by
    subst hw2
    exact {
      below := below_alloc (below_alloc (below_alloc (below_alloc (below_alloc (below_alloc (below_alloc (below_alloc (Below.refl _ _) _) _) _) _) _) _) _) _
      size := by simp
      cn := blk_alloc (blk_alloc (blk_alloc (blk_alloc (blk_alloc (blk_newN _ _ (by simp)) _) _) _) _) _
      trr := blk_alloc (blk_alloc (blk_alloc (blk_alloc (blk_newN _ _ (by simp)) _) _) _) _
      td := blk_alloc (blk_alloc (blk_alloc (blk_newN _ _ (by simp)) _) _) _
      tst := blk_alloc (blk_alloc (blk_newN _ _ (by simp)) _) _ }
  rw [← hw2]
  clear hw2
  refine rf_law (gf := 67) (lb := #[.pointer (some ⟨w.heap.size + 1 + 1 + 1 + 1, 0, none⟩), .pointer (some ⟨w.heap.size + 1 + 1 + 1 + 1 + 1, 0, none⟩), .pointer (some ⟨w.heap.size + 1 + 1 + 1, 0, none⟩)])
    (encs := fun y : Nat => #[.agg (dcells (dst a0_0 a0_1 (a1_0, a1_1, a1_2, a1_3, a1_4) (y + 1))), .bool (dmo a0_0 a0_1 (dst a0_0 a0_1 (a1_0, a1_1, a1_2, a1_3, a1_4) y))]) rfl (by decide) rfl trivial (enters_of Try.func67 (by kernel_rfl) rfl) (fun _ => rfl)
    (fun y W => NSt w (w.heap.size + 1 + 1) a0_0 a0_1 (a1_0, a1_1, a1_2, a1_3, a1_4) y (y + 1) W ∧ y < T)
    (fun y W1 a' W2 => a' = { tmps := #[Value.agg #[.int .i64 a0_0, .int .i64 a0_1], Value.agg #[.int .i64 a1_0, .int .i64 a1_1, .int .i64 a1_2, .int .i64 a1_3, .int .i64 a1_4], .pointer (some ⟨w.heap.size, 0, none⟩), .pointer (some ⟨w.heap.size + 1, 0, none⟩), .int .i64 0, .pointer (some ⟨w.heap.size + 1 + 1, 0, none⟩), Value.agg #[.int .i64 a0_0, .int .i64 a0_1], Value.agg #[.int .i64 a1_0, .int .i64 a1_1, .int .i64 a1_2, .int .i64 a1_3, .int .i64 a1_4], .func (.func 67) #[] #[.pointer (some ⟨w.heap.size + 1 + 1 + 1 + 1, 0, none⟩), .pointer (some ⟨w.heap.size + 1 + 1 + 1 + 1 + 1, 0, none⟩), .pointer (some ⟨w.heap.size + 1 + 1 + 1, 0, none⟩)], .agg (dcells (dst a0_0 a0_1 (a1_0, a1_1, a1_2, a1_3, a1_4) (y + 1))), .bool (dmo a0_0 a0_1 (dst a0_0 a0_1 (a1_0, a1_1, a1_2, a1_3, a1_4) y)), undef, undef, undef], defers := [] } ∧ W2 = W1 ∧ NSt w (w.heap.size + 1 + 1) a0_0 a0_1 (a1_0, a1_1, a1_2, a1_3, a1_4) y (y + 1) W1 ∧ y < T)
    (NPost w (w.heap.size + 1 + 1) a0_0 a0_1 (a1_0, a1_1, a1_2, a1_3, a1_4))
    (fun _ _ _ _ => False) (fun W => NSt w (w.heap.size + 1 + 1) a0_0 a0_1 (a1_0, a1_1, a1_2, a1_3, a1_4) T T W) (fun _ _ => False) ?assign ?body ?iter ?done ?stop
  case assign =>
    rintro k W1 K ⟨h1, h4⟩ hK
    gi_wp2
    exact hK _ _ rfl rfl ⟨by simp, rfl, h1, h4⟩
  case body =>
    rintro k W1 a' W2 Rb ⟨rfl, rfl, h1, h4⟩
    have hlr : w2.heap.size + 1 = w.heap.size + 1 + 1 + 5 := by rw [hsz]
    rw [hlr]
    have hX1 := h1.putl Rb hbN
    generalize W2.putObj (w.heap.size + 1 + 1 + 5) Rb = X at hX1 ⊢
    have i0 : X.cell? ⟨w.heap.size + 1 + 1, 0, none⟩ = some (.int .i64 k) := (blk_cell hX1.cn 0).trans rfl
    have if0 : X.frozen? ⟨w.heap.size + 1 + 1, 0, none⟩ = false := blk_frozen hX1.cn 0
    have HX := Aside0.mk hX1
    have hXs := hX1.size
    clear hSt hX1 h1 hT
    repeat gi_step
    have kZ : Kept X (X.setCell ⟨w.heap.size + 1 + 1, 0, none⟩ (.int .i64 (k + 1))) (fun j => j = w.heap.size + 1 + 1) := kept_cell _ _ _ _
    have bZ : Below w.heap.size w (X.setCell ⟨w.heap.size + 1 + 1, 0, none⟩ (.int .i64 (k + 1))) := below_set HX.out.below (by omega)
    have x3 : (X.setCell ⟨w.heap.size + 1 + 1, 0, none⟩ (.int .i64 (k + 1))).heap[w.heap.size + 1 + 1]? = some (.cells #[.int .i64 (k + 1 : Nat)] 3) := (blk_set HX.out.cn 0 _).trans rfl
    have hZ : NSt w (w.heap.size + 1 + 1) a0_0 a0_1 (a1_0, a1_1, a1_2, a1_3, a1_4) (k + 1) (k + 1) (X.setCell ⟨w.heap.size + 1 + 1, 0, none⟩ (.int .i64 (k + 1))) := {
      below := bZ
      size := Nat.le_trans HX.out.size kZ.1
      cn := x3
      trr := blk_kept HX.out.trr kZ (by omega)
      td := blk_kept HX.out.td kZ (by omega)
      tst := blk_kept HX.out.tst kZ (by omega) }
    exact ⟨kZ.2 _ (by omega) (by omega), kZ.2 _ (by omega) (by omega), fun Ra => ⟨hZ.putl Ra hbN⟩⟩
  case iter =>
    intro R0 Rs W hW hYY
    rw [hsz] at hYY ⊢
    refine (iter_ok (w.heap.size + 1 + 1 + 4 + 1) (w.heap.size + 1 + 1 + 1 + 1) (w.heap.size + 1 + 1 + 1 + 1 + 1) (w.heap.size + 1 + 1 + 1) a0_0 a0_1 (a1_0, a1_1, a1_2, a1_3, a1_4) 70000 T hT
      (fun k W => NSt w (w.heap.size + 1 + 1) a0_0 a0_1 (a1_0, a1_1, a1_2, a1_3, a1_4) k k W ∧ W.heap[w.heap.size + 1 + 1 + 4 + 1]? = some R0 ∧ W.heap[w.heap.size + 1 + 1 + 4]? = some (.deferred (some [])))
      (fun k W => NSt w (w.heap.size + 1 + 1) a0_0 a0_1 (a1_0, a1_1, a1_2, a1_3, a1_4) k (k + 1) W ∧ W.heap[w.heap.size + 1 + 1 + 4 + 1]? = some R0 ∧ W.heap[w.heap.size + 1 + 1 + 4]? = some (.deferred (some [])))
      (fun _ => False) ?jt ?jb ?js ?jy W ?j0).mono ?jm
    case jt =>
      rintro k W ⟨h1, _, _⟩
      exact ⟨h1.td, h1.tst, h1.trr⟩
    case jb =>
      rintro k W W' ⟨h1, h2, h3⟩ hb
      exact ⟨h1.step hb, blk_below h2 hb, blk_below h3 hb⟩
    case js =>
      rintro k W hk ⟨h1, h2, h3⟩
      have hk := kept_store5 W (w.heap.size + 1 + 1 + 1 + 1) (.int .i64 (dst a0_0 a0_1 (a1_0, a1_1, a1_2, a1_3, a1_4) (k + 1)).1) (.int .i64 (dst a0_0 a0_1 (a1_0, a1_1, a1_2, a1_3, a1_4) (k + 1)).2.1) (.int .i64 (dst a0_0 a0_1 (a1_0, a1_1, a1_2, a1_3, a1_4) (k + 1)).2.2.1) (.int .i64 (dst a0_0 a0_1 (a1_0, a1_1, a1_2, a1_3, a1_4) (k + 1)).2.2.2.1) (.int .i64 (dst a0_0 a0_1 (a1_0, a1_1, a1_2, a1_3, a1_4) (k + 1)).2.2.2.2)
      exact ⟨h1.store hbN, blk_kept h2 hk (by omega), blk_kept h3 hk (by omega)⟩
    case jy =>
      rintro k W1 hk ⟨h1, h2, h3⟩
      obtain ⟨fn, tmps, assign, body, hy, hR⟩ := hYY k W1 ⟨h1, hk⟩ h2 h3
      refine ⟨fn, tmps, assign, body, hy, hR.mono ?_⟩
      rintro e W' (⟨rfl, hp, g1, g2⟩ | ⟨rfl, c, hf, _⟩)
      · exact .inl ⟨rfl, hp.st, g1, g2⟩
      · exact hf.elim
    case j0 =>
      subst hW
      exact ⟨hSt _ _, blk_newN _ _ (by simp [hsz]), blk_alloc (blk_newN _ _ hsz.symm) _⟩
    case jm =>
      rintro e W' ⟨hv, ⟨h1, h2, h3⟩ | hf⟩
      · exact ⟨hv, h3, .inl ⟨h1, h2⟩⟩
      · exact hf.elim
  case done =>
    intro W Rx hE hK
    have hlr : w2.heap.size + 1 = w.heap.size + 1 + 1 + 5 := by rw [hsz]
    rw [hlr, hsz]
    have hP := hE.putl Rx hbN
    have hK2 : (W.putObj (w.heap.size + 1 + 1 + 5) Rx).heap[w.heap.size + 1 + 1 + 4]? = some (.deferred (some [])) := (World.putObj_heap_other (by omega)).trans (by rw [← hsz]; exact hK)
    generalize W.putObj (w.heap.size + 1 + 1 + 5) Rx = X at hP hK2 ⊢
    have i0 : X.cell? ⟨w.heap.size + 1 + 1, 0, none⟩ = some (.int .i64 T) := (blk_cell hP.cn 0).trans rfl
    have HP := Aside0.mk hP
    have HK := Aside0.mk hK2
    clear hSt hP hE hK hK2 hsz hlr hT
    repeat gi_step
    refine ⟨by simp, .inl ⟨_, _, rfl, run_takeDeferred HK.out, ?_⟩⟩
    exact ⟨_, results_tmp rfl _ _ _, rfl, below_putObj HP.out.below _ _ (by omega) HP.out.below.size⟩
  case stop =>
    intro c W Rx h
    exact h.elim
end Go.Proofs.Ytckaofgkepcibaa.P
