/- Package door: what holds between the ticks of a run: the caller has taken in kc ticks, the iterator has made kt. -/
import Derived.Test.YtofffhnhinolnaaRi
namespace Go.Proofs.Ytofffhnhinolnaa.P
open Go.RowKit Go.Proofs.YtofffhnhinolnaaW.PrintWords Go.Proofs.YtofffhnhinolnaaW.PrintLast Go.Proofs.YtofffhnhinolnaaW.PrintMore
set_option linter.unusedVariables false
set_option linter.unusedSimpArgs false

theorem own_kept {base e size n : Nat} {v : Value} {xs : List Value} {W W2 : World} {S : Nat → Prop} (h : W.ownsRow base e size v n xs) (hk : Kept W W2 S) (hS : ∀ k, base ≤ k → ¬ S k) : W2.ownsRow base e size v n xs :=
  ⟨h.1, h.2.imp id fun ⟨g, cap, cur, h1, h2, h3, r⟩ => ⟨g, cap, cur, h1, h2, blk_kept h3 hk (hS g h2), r⟩⟩
theorem own_base {base base2 e size n : Nat} {v : Value} {xs : List Value} {W : World} (h : W.ownsRow base e size v n xs) (hb : base2 ≤ base) : W.ownsRow base2 e size v n xs :=
  ⟨h.1, h.2.imp id fun ⟨g, cap, cur, h1, h2, r⟩ => ⟨g, cap, cur, h1, Nat.le_trans hb h2, r⟩⟩

structure RunSt (w : World) (b : Nat) (q : Int × Int × Int × Int) (wd dw rt : Int) (A2 : Option Addr) (c2 : Nat) (l2 : List Bool) (kc kt : Nat) (W : World) : Prop where
  below : Below w.heap.size w W
  size : b + 7 ≤ W.heap.size
  cg : W.heap[w.heap.size]? = some (.cells #[.int .i64 (dqs q wd dw rt l2 kc).1, .int .i64 (dqs q wd dw rt l2 kc).2.1, .int .i64 (dqs q wd dw rt l2 kc).2.2.1, .int .i64 (dqs q wd dw rt l2 kc).2.2.2] 23)
  cz : W.heap[w.heap.size + 1 + 1]? = some (.cells #[.int .i64 0, .int .i64 0, .int .i64 0, .int .i64 0] 23)
  co : ∃ v, W.heap[b]? = some (.cells #[v] 41) ∧ W.ownsRow (b + 7) 3 1 v (dls q wd dw rt l2 kc).length ((dls q wd dw rt l2 kc).map (Value.int .i64))
  ci : W.heap[b + 1]? = some (.cells #[.int .i64 kc] 3)
  td : W.heap[b + 1 + 1]? = some (.cells #[.int .i64 (dqs q wd dw rt l2 kt).1, .int .i64 (dqs q wd dw rt l2 kt).2.1, .int .i64 (dqs q wd dw rt l2 kt).2.2.1, .int .i64 (dqs q wd dw rt l2 kt).2.2.2] 23)
  tr : W.heap[b + 1 + 1 + 1]? = some (.cells #[.int .i64 wd, .int .i64 dw, .int .i64 rt] 25)
  ts : W.heap[b + 1 + 1 + 2]? = some (.cells #[.slice A2 l2.length c2] 40)

variable {w : World} {b : Nat} {q : Int × Int × Int × Int} {wd dw rt : Int} {A2 : Option Addr} {c2 : Nat} {l2 : List Bool} {kc kt : Nat} {W W2 : World}

theorem RunSt.kept (h : RunSt w b q wd dw rt A2 c2 l2 kc kt W) (hk : Kept W W2 (fun k => k = b + 6)) (hbl : Below w.heap.size w W2) (hb : w.heap.size + 3 ≤ b) : RunSt w b q wd dw rt A2 c2 l2 kc kt W2 := by
  obtain ⟨v, hv1, hv2⟩ := h.co
  exact {
    below := hbl
    size := Nat.le_trans h.size hk.1
    cg := blk_kept h.cg hk (by omega)
    cz := blk_kept h.cz hk (by omega)
    co := ⟨v, blk_kept hv1 hk (by omega), own_kept hv2 hk (by intro k hk2 hk3; omega)⟩
    ci := blk_kept h.ci hk (by omega)
    td := blk_kept h.td hk (by omega)
    tr := blk_kept h.tr hk (by omega)
    ts := blk_kept h.ts hk (by omega) }
theorem kept_putObj (W : World) (l : Nat) (o : Obj) : Kept W (W.putObj l o) (fun k => k = l) := ⟨by simp [World.putObj], fun i _ hn => World.putObj_heap_other hn⟩
theorem below_putObj {n : Nat} {w W : World} (h : Below n w W) (l : Nat) (o : Obj) (hl : n ≤ l) (hn : n ≤ W.heap.size) : Below n w (W.putObj l o) := h.grown (grownBy_putObj' W l o) hn (fun k e => by cases e; omega)
theorem RunSt.step (h : RunSt w b q wd dw rt A2 c2 l2 kc kt W) (hk : Below W.heap.size W W2) (hb : w.heap.size + 3 ≤ b) : RunSt w b q wd dw rt A2 c2 l2 kc kt W2 := h.kept (Kept.of_below hk _) (below_step h.below hk) hb
theorem RunSt.putl (h : RunSt w b q wd dw rt A2 c2 l2 kc kt W) (o : Obj) (hb : w.heap.size + 3 ≤ b) : RunSt w b q wd dw rt A2 c2 l2 kc kt (W.putObj (b + 6) o) := h.kept (kept_putObj _ _ _) (below_putObj h.below _ _ (by omega) h.below.size) hb
theorem kept_cell (W : World) (g i : Nat) (u : Value) : Kept W (W.setCell ⟨g, i, none⟩ u) (fun k => k = g) := Kept.setCell (S := fun k => k = g) (p := ⟨g, i, none⟩) (Kept.refl W _) (Or.inl rfl) u
theorem kept_store (W : World) (g : Nat) (u0 u1 u2 u3 : Value) : Kept W ((((W.setCell ⟨g, 0, none⟩ u0).setCell ⟨g, 1, none⟩ u1).setCell ⟨g, 2, none⟩ u2).setCell ⟨g, 3, none⟩ u3) (fun k => k = g) := by
  refine Kept.setCell (S := fun k => k = g) (p := ⟨g, 3, none⟩) ?_ (Or.inl rfl) _
  refine Kept.setCell (S := fun k => k = g) (p := ⟨g, 2, none⟩) ?_ (Or.inl rfl) _
  refine Kept.setCell (S := fun k => k = g) (p := ⟨g, 1, none⟩) ?_ (Or.inl rfl) _
  refine Kept.setCell (S := fun k => k = g) (p := ⟨g, 0, none⟩) ?_ (Or.inl rfl) _
  exact Kept.refl W _
theorem below_store {w W : World} {g : Nat} (h : Below w.heap.size w W) (hg : w.heap.size ≤ g) (u0 u1 u2 u3 : Value) : Below w.heap.size w ((((W.setCell ⟨g, 0, none⟩ u0).setCell ⟨g, 1, none⟩ u1).setCell ⟨g, 2, none⟩ u2).setCell ⟨g, 3, none⟩ u3) :=
  below_set (below_set (below_set (below_set h hg) hg) hg) hg
theorem blk_store {W : World} {g : Nat} {t : TypeId} {x0 x1 x2 x3 : Value} (h : W.heap[g]? = some (.cells #[x0, x1, x2, x3] t)) (u0 u1 u2 u3 : Value) :
    ((((W.setCell ⟨g, 0, none⟩ u0).setCell ⟨g, 1, none⟩ u1).setCell ⟨g, 2, none⟩ u2).setCell ⟨g, 3, none⟩ u3).heap[g]? = some (.cells #[u0, u1, u2, u3] t) := (blk_set (blk_set (blk_set (blk_set h 0 _) 1 _) 2 _) 3 _).trans rfl
/-- The iterator takes the next tick in. -/
theorem RunSt.store (h : RunSt w b q wd dw rt A2 c2 l2 kc kt W) (hb : w.heap.size + 3 ≤ b) :
    RunSt w b q wd dw rt A2 c2 l2 kc (kt + 1) ((((W.setCell ⟨b + 1 + 1, 0, none⟩ (.int .i64 (dqs q wd dw rt l2 (kt + 1)).1)).setCell ⟨b + 1 + 1, 1, none⟩ (.int .i64 (dqs q wd dw rt l2 (kt + 1)).2.1)).setCell ⟨b + 1 + 1, 2, none⟩ (.int .i64 (dqs q wd dw rt l2 (kt + 1)).2.2.1)).setCell ⟨b + 1 + 1, 3, none⟩ (.int .i64 (dqs q wd dw rt l2 (kt + 1)).2.2.2)) := by
  have hk := kept_store W (b + 1 + 1) (.int .i64 (dqs q wd dw rt l2 (kt + 1)).1) (.int .i64 (dqs q wd dw rt l2 (kt + 1)).2.1) (.int .i64 (dqs q wd dw rt l2 (kt + 1)).2.2.1) (.int .i64 (dqs q wd dw rt l2 (kt + 1)).2.2.2)
  obtain ⟨v, hv1, hv2⟩ := h.co
  exact {
    below := below_store h.below (by omega) _ _ _ _
    size := Nat.le_trans h.size hk.1
    cg := blk_kept h.cg hk (by omega)
    cz := blk_kept h.cz hk (by omega)
    co := ⟨v, blk_kept hv1 hk (by omega), own_kept hv2 hk (by intro k hk2 hk3; omega)⟩
    ci := blk_kept h.ci hk (by omega)
    td := blk_store h.td _ _ _ _
    tr := blk_kept h.tr hk (by omega)
    ts := blk_kept h.ts hk (by omega) }
theorem own_ge {base e size n : Nat} {v : Value} {xs : List Value} {W : World} (h : W.ownsRow base e size v n xs) : ∀ r, v.ownBlock = some r → base ≤ r := by
  intro r hr
  rcases h.2 with ⟨rfl, _⟩ | ⟨g, cap, cur, rfl, h2, _⟩
  · cases hr
  · cases hr; exact h2
theorem own_ne {base e size n g : Nat} {v : Value} {xs : List Value} {W : World} {cs : Array Value} {t : TypeId} (h : W.ownsRow base e size v n xs) (hg : W.heap[g]? = some (.cells cs t (0, 0))) (ht : t ≠ e) : v.ownBlock ≠ some g := by
  intro hr
  rcases h.2 with ⟨rfl, _⟩ | ⟨g', cap, cur, rfl, h2, h3, _⟩
  · cases hr
  · cases hr; exact blk_ne hg h3 ht rfl
theorem dls_len (q : Int × Int × Int × Int) (w dw rt : Int) (l : List Bool) : ∀ k, (dls q w dw rt l k).length ≤ k
  | 0 => Nat.le_refl _
  | k + 1 => by
    have := dls_len q w dw rt l k
    rw [dls, List.length_append]
    split
    · simp; omega
    · simp; omega
/-- The caller takes a tick in. -/
theorem RunSt.round {nb : Nat} (h : RunSt w b q wd dw rt A2 c2 l2 kc kt W) (hk : Kept W W2 (fun j => j = w.heap.size ∨ j = b ∨ j = b + 1 ∨ (b + 7 ≤ j ∧ j ≠ nb))) (hbl : Below w.heap.size w W2) (hb : w.heap.size + 3 ≤ b)
    (cg : W2.heap[w.heap.size]? = some (.cells #[.int .i64 (dqs q wd dw rt l2 (kc + 1)).1, .int .i64 (dqs q wd dw rt l2 (kc + 1)).2.1, .int .i64 (dqs q wd dw rt l2 (kc + 1)).2.2.1, .int .i64 (dqs q wd dw rt l2 (kc + 1)).2.2.2] 23))
    (co : ∃ v, W2.heap[b]? = some (.cells #[v] 41) ∧ W2.ownsRow (b + 7) 3 1 v (dls q wd dw rt l2 (kc + 1)).length ((dls q wd dw rt l2 (kc + 1)).map (Value.int .i64)))
    (ci : W2.heap[b + 1]? = some (.cells #[.int .i64 (kc + 1 : Nat)] 3)) : RunSt w b q wd dw rt A2 c2 l2 (kc + 1) kt W2 :=
  {
    below := hbl
    size := Nat.le_trans h.size hk.1
    cg := cg
    cz := blk_kept h.cz hk (by omega)
    co := co
    ci := ci
    td := blk_kept h.td hk (by omega)
    tr := blk_kept h.tr hk (by omega)
    ts := blk_kept h.ts hk (by omega) }
/-- Behind a round. -/
structure RunPost (w : World) (b : Nat) (q : Int × Int × Int × Int) (wd dw rt : Int) (A2 : Option Addr) (c2 : Nat) (l2 : List Bool) (y : Nat × Nat) (W1 W : World) : Prop where
  st : RunSt w b q wd dw rt A2 c2 l2 (y.1 + 1) y.1 W
  nb : W.heap[y.2]? = some (.cells #[.int .i64 (dqs q wd dw rt l2 (y.1 + 1)).1, .int .i64 (dqs q wd dw rt l2 (y.1 + 1)).2.1, .int .i64 (dqs q wd dw rt l2 (y.1 + 1)).2.2.1, .int .i64 (dqs q wd dw rt l2 (y.1 + 1)).2.2.2] 23)
end Go.Proofs.Ytofffhnhinolnaa.P
