/- Package profile: a ride's ticks and its greatest speed: what it answers, and that the Go code comes to just this. -/
import Derived.Test.YtckaofgkepcibaaPi
namespace Go.Proofs.Ytckaofgkepcibaa.P
open Go.RowKit Go.Proofs.YtckaofgkepcibaaW.PrintWords Go.Proofs.YtckaofgkepcibaaW.PrintLast Go.Proofs.YtckaofgkepcibaaW.PrintMore
set_option linter.unusedVariables false
set_option linter.unusedSimpArgs false
attribute [local go_sem] Oper.semAt_some max2_int min2_int max_two min_two

def profile_travel.f (a0 : Int) (a1 : Int) : Option (Int × Int) := (pcnt a1 70000 (0, a0)).map (fun T : Nat => ((T : Int), ppk a1 (0, a0) T))
theorem pblk_newN (w : World) (o : Obj) {n : Nat} (h : n = w.heap.size) : (w.alloc o).heap[n]? = some o := by subst h; exact blk_new w o
theorem pkept_putObj (W : World) (l : Nat) (o : Obj) : Kept W (W.putObj l o) (fun k => k = l) := ⟨by simp [World.putObj], fun i _ hn => World.putObj_heap_other hn⟩
theorem pbelow_putObj {n : Nat} {w W : World} (h : Below n w W) (l : Nat) (o : Obj) (hl : n ≤ l) (hn : n ≤ W.heap.size) : Below n w (W.putObj l o) := h.grown (grownBy_putObj' W l o) hn (fun k e => by cases e; omega)
theorem pkept_cell (W : World) (g i : Nat) (u : Value) : Kept W (W.setCell ⟨g, i, none⟩ u) (fun k => k = g) := Kept.setCell (S := fun k => k = g) (p := ⟨g, i, none⟩) (Kept.refl W _) (Or.inl rfl) u

/-- Between the ticks. -/
structure PSt (w : World) (b : Nat) (n lim : Int) (k : Nat) (W : World) : Prop where
  below : Below w.heap.size w W
  size : b + 6 ≤ W.heap.size
  ct : W.heap[b]? = some (.cells #[.int .i64 k] 3)
  cp : W.heap[b + 1]? = some (.cells #[.int .i64 (ppk lim (0, n) k)] 3)
  cn : W.heap[b + 1 + 1]? = some (.cells #[.int .i64 n] 3)
  cl : W.heap[b + 1 + 1 + 1]? = some (.cells #[.int .i64 lim] 3)
variable {w : World} {b : Nat} {n lim : Int} {k : Nat} {W W2 : World}
theorem PSt.kept (h : PSt w b n lim k W) (hk : Kept W W2 (fun k => k = b + 5)) (hbl : Below w.heap.size w W2) : PSt w b n lim k W2 :=
  { below := hbl, size := Nat.le_trans h.size hk.1, ct := blk_kept h.ct hk (by omega), cp := blk_kept h.cp hk (by omega), cn := blk_kept h.cn hk (by omega), cl := blk_kept h.cl hk (by omega) }
theorem PSt.step (h : PSt w b n lim k W) (hk : Below W.heap.size W W2) : PSt w b n lim k W2 := h.kept (Kept.of_below hk _) (below_step h.below hk)
theorem PSt.putl (h : PSt w b n lim k W) (o : Obj) (hb : w.heap.size ≤ b) : PSt w b n lim k (W.putObj (b + 5) o) := h.kept (pkept_putObj _ _ _) (pbelow_putObj h.below _ _ (by omega) h.below.size)
/-- Behind a round. -/
structure PPost (w : World) (b : Nat) (n lim : Int) (k : Nat) (W1 W : World) : Prop where
  st : PSt w b n lim (k + 1) W

set_option maxHeartbeats 4000000 in
theorem profile_travel.calls (a0 : Int) (a1 : Int) (r1 : Int) (r2 : Int) (w : World) (h : profile_travel.f a0 a1 = some (r1, r2)) :
    Calls Try.prog 34 #[.int .i64 a0, .int .i64 a1] w fun e w' => e = .returned (.tuple #[.int .i64 r1, .int .i64 r2]) ∧ Below w.heap.size w w' := by
  obtain ⟨T, hT, hr⟩ := Option.map_eq_some_iff.mp h
  have hlt := pcnt_lt _ _ _ _ hT
  obtain ⟨hr1, hr2⟩ := Prod.mk.inj hr
  subst hr1
  subst hr2
  clear h hr
  refine (callsIn_wide (n := 3)).1 ?_
  refine callsIn_of_wp_marks Try.func34 rfl trivial ?_ rfl
  simp only [Try.ntmps34, List.size_toArray, List.length_cons, List.length_nil, Nat.reduceAdd, Nat.reduceSub, Array.replicate_succ, Array.replicate_zero, List.push_toArray, List.append_toArray, List.nil_append, List.cons_append]
  gi_wp2_with (refine ⟨trivial, ?_⟩; gi_at_call 48; refine (callsIn_wide.2 (ride_calls _ _ _)).mono ?_; rintro e w2 ⟨rfl, hw2⟩)
  have hsz : w2.heap.size = w.heap.size + 4 := by rw [hw2]; simp
  have hSt : ∀ o o2, PSt w w.heap.size a0 a1 0 ((w2.alloc o).alloc o2) := fun o o2 => by
    subst hw2
    exact {
      below := below_alloc (below_alloc (below_alloc (below_alloc (below_alloc (below_alloc (Below.refl _ _) _) _) _) _) _) _
      size := by simp
      ct := blk_alloc (blk_alloc (blk_alloc (blk_alloc (blk_alloc (pblk_newN _ _ (by simp)) _) _) _) _) _
      cp := blk_alloc (blk_alloc (blk_alloc (blk_alloc (pblk_newN _ _ (by simp)) _) _) _) _
      cn := blk_alloc (blk_alloc (blk_alloc (pblk_newN _ _ (by simp)) _) _) _
      cl := blk_alloc (blk_alloc (pblk_newN _ _ (by simp)) _) _ }
  rw [← hw2]
  clear hw2
  refine rf_law (gf := 56) (lb := #[.pointer (some ⟨w.heap.size + 1 + 1, 0, none⟩), .pointer (some ⟨w.heap.size + 1 + 1 + 1, 0, none⟩)]) (encs := fun y : Nat => #[.int .i64 (pst a1 (0, a0) (y + 1)).1]) rfl (by decide) rfl trivial (enters_of Try.func56 (by kernel_rfl) rfl) (fun _ => rfl)
    (fun y W => PSt w w.heap.size a0 a1 y W ∧ y < T)
    (fun y W1 a' W2 => a' = { tmps := #[Value.int .i64 a0, .int .i64 a1, undef, undef, .pointer (some ⟨w.heap.size, 0, none⟩), .pointer (some ⟨w.heap.size + 1, 0, none⟩), .int .i64 (pst a1 (0, a0) (y + 1)).1, .int .i64 a0, .int .i64 a1, .func (.func 56) #[] #[.pointer (some ⟨w.heap.size + 1 + 1, 0, none⟩), .pointer (some ⟨w.heap.size + 1 + 1 + 1, 0, none⟩)], .int .i64 (pst a1 (0, a0) (y + 1)).1, undef, undef, undef, undef, undef, undef, undef], defers := [] } ∧ W2 = W1 ∧ PSt w w.heap.size a0 a1 y W1 ∧ y < T)
    (PPost w w.heap.size a0 a1)
    (fun _ _ _ _ => False) (fun W => PSt w w.heap.size a0 a1 T W) (fun _ _ => False) ?assign ?body ?iter ?done ?stop
  case assign =>
    rintro k W1 K ⟨h1, h4⟩ hK
    gi_wp2
    exact hK _ _ rfl rfl ⟨by simp, rfl, h1, h4⟩
  case body =>
    rintro k W1 a' W2 Rb ⟨rfl, rfl, h1, h4⟩
    have hlr : w2.heap.size + 1 = w.heap.size + 5 := by rw [hsz]
    rw [hlr]
    have hX1 := h1.putl Rb (Nat.le_refl _)
    generalize W2.putObj (w.heap.size + 5) Rb = X at hX1 ⊢
    obtain ⟨p, hp⟩ : ∃ p, p = ppk a1 (0, a0) k := ⟨_, rfl⟩
    obtain ⟨v, hv⟩ : ∃ v, v = (pst a1 (0, a0) (k + 1)).1 := ⟨_, rfl⟩
    have hcp := hX1.cp
    rw [← hp] at hcp
    rw [← hv]
    have i0 : X.cell? ⟨w.heap.size, 0, none⟩ = some (.int .i64 k) := (blk_cell hX1.ct 0).trans rfl
    have if0 : X.frozen? ⟨w.heap.size, 0, none⟩ = false := blk_frozen hX1.ct 0
    have p0 : X.cell? ⟨w.heap.size + 1, 0, none⟩ = some (.int .i64 p) := (blk_cell hcp 0).trans rfl
    have pf0 : X.frozen? ⟨w.heap.size + 1, 0, none⟩ = false := blk_frozen hcp 0
    have hm : ppk a1 (0, a0) (k + 1) = (if p < v then v else p) := by
      rw [ppk, ← hp, ← hv, Int.max_def]
      split <;> split <;> omega
    have HX := Aside0.mk hX1
    have HM := Aside0.mk hm
    clear hSt hX1 h1 hT hp hv hm
    repeat gi_step
    have kY : Kept X (X.setCell ⟨w.heap.size, 0, none⟩ (.int .i64 (k + 1))) (fun j => j = w.heap.size) := pkept_cell _ _ _ _
    have bY : Below w.heap.size w (X.setCell ⟨w.heap.size, 0, none⟩ (.int .i64 (k + 1))) := below_set HX.out.below (Nat.le_refl _)
    have y1 : (X.setCell ⟨w.heap.size, 0, none⟩ (.int .i64 (k + 1))).heap[w.heap.size]? = some (.cells #[.int .i64 (k + 1 : Nat)] 3) := (blk_set HX.out.ct 0 _).trans rfl
    have y2 := blk_kept hcp kY (by omega)
    have y3 := blk_kept HX.out.cn kY (by omega)
    have y4 := blk_kept HX.out.cl kY (by omega)
    have ys := Nat.le_trans HX.out.size kY.1
    generalize X.setCell ⟨w.heap.size, 0, none⟩ (.int .i64 (k + 1)) = Y at kY bY y1 y2 y3 y4 ys ⊢
    have kZ := pkept_cell Y (w.heap.size + 1) 0 (.int .i64 (if p < v then v else p))
    have bZ : Below w.heap.size w (Y.setCell ⟨w.heap.size + 1, 0, none⟩ (.int .i64 (if p < v then v else p))) := below_set bY (by omega)
    have hZ : PSt w w.heap.size a0 a1 (k + 1) (Y.setCell ⟨w.heap.size + 1, 0, none⟩ (.int .i64 (if p < v then v else p))) := {
      below := bZ
      size := Nat.le_trans ys kZ.1
      ct := blk_kept y1 kZ (by omega)
      cp := by rw [HM.out]; exact (blk_set y2 0 _).trans rfl
      cn := blk_kept y3 kZ (by omega)
      cl := blk_kept y4 kZ (by omega) }
    have hXs := HX.out.size
    have e1 : ∀ j, j ≠ w.heap.size → j ≠ w.heap.size + 1 → j < X.heap.size → (Y.setCell ⟨w.heap.size + 1, 0, none⟩ (.int .i64 (if p < v then v else p))).heap[j]? = X.heap[j]? := fun j h1 h2 h3 =>
      (kZ.2 j (Nat.lt_of_lt_of_le h3 kY.1) h2).trans (kY.2 j h3 h1)
    exact ⟨e1 _ (by omega) (by omega) (by omega), e1 _ (by omega) (by omega) (by omega), fun Ra => ⟨hZ.putl Ra (Nat.le_refl _)⟩⟩
  case iter =>
    intro R0 Rs W hW hYY
    rw [hsz] at hYY ⊢
    refine (ride_ok (w.heap.size + 4 + 1) (w.heap.size + 1 + 1) (w.heap.size + 1 + 1 + 1) a0 a1 70000 T hT
      (fun k W => PSt w w.heap.size a0 a1 k W ∧ W.heap[w.heap.size + 4 + 1]? = some R0 ∧ W.heap[w.heap.size + 4]? = some (.deferred (some [])))
      (fun _ => False) ?jt ?jb ?jy W ?j0).mono ?jm
    case jt =>
      rintro k W ⟨h1, _, _⟩
      exact ⟨h1.cl, h1.cn⟩
    case jb =>
      rintro k W W' ⟨h1, h2, h3⟩ hb
      exact ⟨h1.step hb, blk_below h2 hb, blk_below h3 hb⟩
    case jy =>
      rintro k W1 hk ⟨h1, h2, h3⟩
      obtain ⟨fn, tmps, assign, body, hy, hR⟩ := hYY k W1 ⟨h1, hk⟩ h2 h3
      refine ⟨fn, tmps, assign, body, hy, hR.mono ?_⟩
      rintro e W' (⟨rfl, hp, g1, g2⟩ | ⟨rfl, c, hf, _⟩)
      · exact .inl ⟨rfl, hp.st, g1, g2⟩
      · exact hf.elim
    case j0 =>
      subst hW
      exact ⟨hSt _ _, pblk_newN _ _ (by simp [hsz]), blk_alloc (pblk_newN _ _ hsz.symm) _⟩
    case jm =>
      rintro e W' ⟨hv, ⟨h1, h2, h3⟩ | hf⟩
      · exact ⟨hv, h3, .inl ⟨h1, h2⟩⟩
      · exact hf.elim
  case done =>
    intro W Rx hE hK
    have hlr : w2.heap.size + 1 = w.heap.size + 5 := by rw [hsz]
    rw [hlr, hsz]
    have hP := hE.putl Rx (Nat.le_refl _)
    have hK2 : (W.putObj (w.heap.size + 5) Rx).heap[w.heap.size + 4]? = some (.deferred (some [])) := (World.putObj_heap_other (by omega)).trans (by rw [← hsz]; exact hK)
    generalize W.putObj (w.heap.size + 5) Rx = X at hP hK2 ⊢
    obtain ⟨p, hp⟩ : ∃ p, p = ppk a1 (0, a0) T := ⟨_, rfl⟩
    have hcp := hP.cp
    rw [← hp] at hcp
    have i0 : X.cell? ⟨w.heap.size, 0, none⟩ = some (.int .i64 T) := (blk_cell hP.ct 0).trans rfl
    have if0 : X.frozen? ⟨w.heap.size, 0, none⟩ = false := blk_frozen hP.ct 0
    have p0 : X.cell? ⟨w.heap.size + 1, 0, none⟩ = some (.int .i64 p) := (blk_cell hcp 0).trans rfl
    have pf0 : X.frozen? ⟨w.heap.size + 1, 0, none⟩ = false := blk_frozen hcp 0
    have hcp2 := hcp
    have HP := Aside0.mk hP
    have HK := Aside0.mk hK2
    have HPK := Aside0.mk hp
    clear hSt hP hE hK hK2 hsz hlr hT hp
    repeat gi_step
    gi_region
    have kY : Kept X (X.setCell ⟨w.heap.size, 0, none⟩ (.int .i64 T)) (fun j => j = w.heap.size) := pkept_cell _ _ _ _
    have bY : Below w.heap.size w (X.setCell ⟨w.heap.size, 0, none⟩ (.int .i64 T)) := below_set HP.out.below (Nat.le_refl _)
    have y1 : (X.setCell ⟨w.heap.size, 0, none⟩ (.int .i64 T)).heap[w.heap.size]? = some (.cells #[.int .i64 T] 3) := (blk_set HP.out.ct 0 _).trans rfl
    have y2 := blk_kept hcp2 kY (by omega)
    have y3 := blk_kept HK.out kY (by omega)
    generalize X.setCell ⟨w.heap.size, 0, none⟩ (.int .i64 T) = Y at kY bY y1 y2 y3 ⊢
    have kZ := pkept_cell Y (w.heap.size + 1) 0 (.int .i64 p)
    have bZ : Below w.heap.size w (Y.setCell ⟨w.heap.size + 1, 0, none⟩ (.int .i64 p)) := below_set bY (by omega)
    have z1 := blk_kept y1 kZ (by omega)
    have z2 : (Y.setCell ⟨w.heap.size + 1, 0, none⟩ (.int .i64 p)).heap[w.heap.size + 1]? = some (.cells #[.int .i64 p] 3) := (blk_set y2 0 _).trans rfl
    have z3 := blk_kept y3 kZ (by omega)
    generalize Y.setCell ⟨w.heap.size + 1, 0, none⟩ (.int .i64 p) = Z0 at kZ bZ z1 z2 z3 ⊢
    have bZ := below_drew1 bZ
    have z1 := blk_drew z1
    have z2 := blk_drew z2
    have z3 := blk_drew z3
    generalize Z0.drew = Z at bZ z1 z2 z3 ⊢
    repeat gi_step
    refine ⟨by simp, .inl ⟨_, _, rfl, run_takeDeferred z3, ?_⟩⟩
    have bV := pbelow_putObj bZ (w.heap.size + 4) (.deferred none) (by omega) bZ.size
    have v1 : (Z.putObj (w.heap.size + 4) (.deferred none)).heap[w.heap.size]? = _ := (World.putObj_heap_other (by omega)).trans z1
    have v2 : (Z.putObj (w.heap.size + 4) (.deferred none)).heap[w.heap.size + 1]? = _ := (World.putObj_heap_other (by omega)).trans z2
    generalize Z.putObj (w.heap.size + 4) (.deferred none) = V at bV v1 v2 ⊢
    have g0 : V.cell? ⟨w.heap.size, 0, none⟩ = some (.int .i64 T) := (blk_cell v1 0).trans rfl
    have g1 : V.cell? ⟨w.heap.size + 1, 0, none⟩ = some (.int .i64 p) := (blk_cell v2 0).trans rfl
    exact ⟨.tuple #[.int .i64 T, .int .i64 p], by simp [results, Try.results34, go_sem, g0, g1], by rw [HPK.out], bV⟩
  case stop =>
    intro c W Rx h
    exact h.elim
end Go.Proofs.Ytckaofgkepcibaa.P
