/- Package cycle: a run in memory: a tick of it, whose panel is kept by a deferred closure; and the iterator over its ticks. -/
import Derived.Test.YtmjmdnpenpdmhaaP1cycle
import Derived.Test.YtmjmdnpenpdmhaaDoorQ
import Derived.Test.YtmjmdnpenpdmhaaRf
import Derived.Shelf.Abstract
import Derived.Shelf.RegionOpen
import Derived.OwnWalkIn
import Derived.TacticsInMore
import Derived.LoopNIn
import Derived.LoopIn
import Derived.Defers
import Derived.Deep.RegionHeld3
import Derived.Deep.AppendLies
import Derived.Deep.RegionLaw
namespace Go.Proofs.Ytmjmdnpenpdmhaa.P
open Go.RowKit Go.Proofs.YtmjmdnpenpdmhaaW.PrintWords Go.Proofs.YtmjmdnpenpdmhaaW.PrintLast Go.Proofs.YtmjmdnpenpdmhaaW.PrintMore
set_option linter.unusedVariables false
set_option linter.unusedSimpArgs false

theorem own_kept {base e size n : Nat} {v : Value} {xs : List Value} {W W2 : World} {S : Nat → Prop} (h : W.ownsRow base e size v n xs) (hk : Kept W W2 S) (hS : ∀ k, base ≤ k → ¬ S k) : W2.ownsRow base e size v n xs :=
  ⟨h.1, h.2.imp id fun ⟨g, cap, cur, h1, h2, h3, r⟩ => ⟨g, cap, cur, h1, h2, blk_kept h3 hk (hS g h2), r⟩⟩
theorem own_ge {base e size n : Nat} {v : Value} {xs : List Value} {W : World} (h : W.ownsRow base e size v n xs) : ∀ r, v.ownBlock = some r → base ≤ r := by
  intro r hr
  rcases h.2 with ⟨rfl, _⟩ | ⟨g, cap, cur, rfl, h2, _⟩
  · cases hr
  · cases hr; exact h2
theorem blk_newN (w : World) (o : Obj) {n : Nat} (h : n = w.heap.size) : (w.alloc o).heap[n]? = some o := by subst h; exact blk_new w o
theorem kept_putObj (W : World) (l : Nat) (o : Obj) : Kept W (W.putObj l o) (fun k => k = l) := ⟨by simp [World.putObj], fun i _ hn => World.putObj_heap_other hn⟩
theorem below_putObj {n : Nat} {w W : World} (h : Below n w W) (l : Nat) (o : Obj) (hl : n ≤ l) (hn : n ≤ W.heap.size) : Below n w (W.putObj l o) := h.grown (grownBy_putObj' W l o) hn (fun k e => by cases e; omega)
theorem kept_cell (W : World) (g i : Nat) (u : Value) : Kept W (W.setCell ⟨g, i, none⟩ u) (fun k => k = g) := Kept.setCell (S := fun k => k = g) (p := ⟨g, i, none⟩) (Kept.refl W _) (Or.inl rfl) u

theorem own_ne {base e size n g : Nat} {v : Value} {xs : List Value} {W : World} {cs : Array Value} {t : TypeId} (h : W.ownsRow base e size v n xs) (hg : W.heap[g]? = some (.cells cs t (0, 0))) (ht : t ≠ e) : v.ownBlock ≠ some g := by
  intro hr
  rcases h.2 with ⟨rfl, _⟩ | ⟨g', cap, cur, rfl, h2, h3, _⟩
  · cases hr
  · cases hr; exact blk_ne hg h3 ht rfl
set_option maxHeartbeats 4000000 in
/-- The deferred closure: it appends the panel. -/
theorem tick1_calls (bo bc so rb : Nat) (c0 c2 c3 c4 c5 c6 c7 c8 : Value) (x : Int) (v : Value) (n base : Nat) (xs : List Int) (u : FrameMode) (w : World)
    (ho : w.heap[bo]? = some (.cells #[.pointer (some ⟨so, 0, none⟩)] 77)) (hc : w.heap[bc]? = some (.cells #[.pointer (some ⟨rb, 0, none⟩)] 70))
    (hr : w.heap[rb]? = some (.cells #[c0, .int .i64 x, c2, c3, c4, c5, c6, c7, c8] 72)) (hs : w.heap[so]? = some (.cells #[v] 27))
    (own : w.ownsRow base 3 1 v n (xs.map (Value.int .i64))) (hn : n ≤ 1000000) (hbase : base ≤ w.heap.size) (hso : so < base) (hrb : rb < base) (hrs : rb ≠ so) (hbo : bo ≠ so) (hbc : bc ≠ so) :
    CallsD Try.prog 61 #[.pointer (some ⟨bo, 0, none⟩), .pointer (some ⟨bc, 0, none⟩)] u w fun e u' w' => u' = u ∧ (e = .returned (.tuple #[]) ∧
      ∃ v', w'.heap[so]? = some (.cells #[v'] 27) ∧ w'.ownsRow base 3 1 v' (n + 1) ((xs ++ [x]).map (Value.int .i64)) ∧ Kept w w' (fun k => k = so ∨ base ≤ k) ∧ Below so w w') := by
  have e1 : w.cell? ⟨bo, 0, none⟩ = some (.pointer (some ⟨so, 0, none⟩)) := (blk_cell ho 0).trans rfl
  have e2 : w.cell? ⟨bc, 0, none⟩ = some (.pointer (some ⟨rb, 0, none⟩)) := (blk_cell hc 0).trans rfl
  have e3 : w.cell? ⟨rb, 1, none⟩ = some (.int .i64 x) := (blk_cell hr 1).trans rfl
  have e4 : w.cell? ⟨so, 0, none⟩ = some v := (blk_cell hs 0).trans rfl
  have e5 : w.frozen? ⟨so, 0, none⟩ = false := blk_frozen hs 0
  have a1 : ∀ o, (w.alloc o).cell? ⟨bo, 0, none⟩ = some (.pointer (some ⟨so, 0, none⟩)) := fun o => (blk_cell (blk_alloc ho o) 0).trans rfl
  have a2 : ∀ o, (w.alloc o).cell? ⟨bc, 0, none⟩ = some (.pointer (some ⟨rb, 0, none⟩)) := fun o => (blk_cell (blk_alloc hc o) 0).trans rfl
  have a3 : ∀ o, (w.alloc o).cell? ⟨rb, 1, none⟩ = some (.int .i64 x) := fun o => (blk_cell (blk_alloc hr o) 1).trans rfl
  have a4 : ∀ o, (w.alloc o).cell? ⟨so, 0, none⟩ = some v := fun o => (blk_cell (blk_alloc hs o) 0).trans rfl
  have a5 : ∀ o, (w.alloc o).frozen? ⟨so, 0, none⟩ = false := fun o => blk_frozen (blk_alloc hs o) 0
  obtain ⟨ii, hii, hz0, hz1, hz2⟩ := info_parts info3
  have n1 := own_ne own ho (by decide)
  have n2 := own_ne own hc (by decide)
  have n3 := own_ne own hr (by decide)
  have n4 := own_ne own hs (by decide)
  have n1 := Aside0.mk n1
  have n2 := Aside0.mk n2
  have n3 := Aside0.mk n3
  have n4 := Aside0.mk n4
  go_enter_d Try.func61, Try.ntmps61
  go_wp2
  go_region_law ((refine step_append_lies _ (by rfl) _ _ 27 (by rfl) base 3 ii (.int .i64 0) 1 8 Try.underlying27 hii hz0 hz1 hz2 (by rfl) (by decide) v n (xs.map (Value.int .i64)) (by rfl) ((show w.drew.ownsRow base 3 1 v n (xs.map (Value.int .i64)) from own).alloc _) ⟨w.heap.size, 0, none⟩ 1 1 [.int .i64 x] (by rfl) (by rfl) (cell_one_new _ _ _) (by simp [Value.oneCell']) (by decide) (by simp [maxLen]; omega) (by omega) (by simp; omega) (w.heap.size + 1) (by simp) ?_; intro g cap w1 hown1 hgrow hat hlt; have z4 := blk_grown (blk_alloc (blk_drew hs) _) hgrow (fun e => n4.out e.symm); have k1 : w1.cell? ⟨bo, 0, none⟩ = some (.pointer (some ⟨so, 0, none⟩)) := (blk_cell (blk_grown (blk_alloc (blk_drew ho) _) hgrow (fun e => n1.out e.symm)) 0).trans rfl; have k2 : w1.cell? ⟨so, 0, none⟩ = some v := (blk_cell z4 0).trans rfl; have k3 : w1.frozen? ⟨so, 0, none⟩ = false := blk_frozen z4 0))
  all_goals
    go_end0
    have hge := own_ge own
    have hsz : so ≤ w.heap.size := by omega
    have kw : Kept w w1 (fun k => k = so ∨ base ≤ k) := Kept.of_grown hgrow (((Kept.refl w _).alloc _).drew) (fun k e => .inl (.inr (hge k e)))
    refine ⟨rfl, _, (blk_set z4 0 _).trans rfl, ?_, kw.setCell (p := ⟨so, 0, none⟩) (.inl (.inl rfl)) _, ?_⟩
    · rw [List.map_append]
      exact own_kept hown1 (kept_cell w1 so 0 _) (fun k hk e => by have : k = so := e; omega)
    · exact (((((Below.refl so w).alloc hsz _).drew).grown hgrow (by simp; omega) (fun k e => by have := hge k e; omega))).setCell (Nat.le_refl _) _
end Go.Proofs.Ytmjmdnpenpdmhaa.P
