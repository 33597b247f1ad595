/- Package cycle: a run in memory: a tick of it, whose panel is kept by a deferred closure; and the iterator over its ticks. -/
import Derived.Test.YtmjmdnpenpdmhaaP1cycle
import Derived.Test.YtmjmdnpenpdmhaaDoorQ
import Derived.Test.YtmjmdnpenpdmhaaRo
import Derived.Test.YtmjmdnpenpdmhaaP0cycle
import Derived.Shelf.Abstract
import Derived.Shelf.RegionOpen
import Derived.OwnWalkIn
import Derived.TacticsInMore
import Derived.LoopNIn
import Derived.LoopIn
import Derived.Defers
import Derived.Deep.RegionHeld3
import Derived.Deep.AppendLies
import Derived.Deep.RegionLaw
namespace Go.Proofs.Ytmjmdnpenpdmhaa.P
open Go.RowKit Go.Proofs.YtmjmdnpenpdmhaaW.PrintWords Go.Proofs.YtmjmdnpenpdmhaaW.PrintLast Go.Proofs.YtmjmdnpenpdmhaaW.PrintMore
set_option linter.unusedVariables false
set_option linter.unusedSimpArgs false

theorem own_kept {base e size n : Nat} {v : Value} {xs : List Value} {W W2 : World} {S : Nat → Prop} (h : W.ownsRow base e size v n xs) (hk : Kept W W2 S) (hS : ∀ k, base ≤ k → ¬ S k) : W2.ownsRow base e size v n xs :=
  ⟨h.1, h.2.imp id fun ⟨g, cap, cur, h1, h2, h3, r⟩ => ⟨g, cap, cur, h1, h2, blk_kept h3 hk (hS g h2), r⟩⟩
theorem own_ge {base e size n : Nat} {v : Value} {xs : List Value} {W : World} (h : W.ownsRow base e size v n xs) : ∀ r, v.ownBlock = some r → base ≤ r := by
  intro r hr
  rcases h.2 with ⟨rfl, _⟩ | ⟨g, cap, cur, rfl, h2, _⟩
  · cases hr
  · cases hr; exact h2
theorem blk_newN (w : World) (o : Obj) {n : Nat} (h : n = w.heap.size) : (w.alloc o).heap[n]? = some o := by subst h; exact blk_new w o
theorem kept_putObj (W : World) (l : Nat) (o : Obj) : Kept W (W.putObj l o) (fun k => k = l) := ⟨by simp [World.putObj], fun i _ hn => World.putObj_heap_other hn⟩
theorem below_putObj {n : Nat} {w W : World} (h : Below n w W) (l : Nat) (o : Obj) (hl : n ≤ l) (hn : n ≤ W.heap.size) : Below n w (W.putObj l o) := h.grown (grownBy_putObj' W l o) hn (fun k e => by cases e; omega)
theorem kept_cell (W : World) (g i : Nat) (u : Value) : Kept W (W.setCell ⟨g, i, none⟩ u) (fun k => k = g) := Kept.setCell (S := fun k => k = g) (p := ⟨g, i, none⟩) (Kept.refl W _) (Or.inl rfl) u

theorem own_ne {base e size n g : Nat} {v : Value} {xs : List Value} {W : World} {cs : Array Value} {t : TypeId} (h : W.ownsRow base e size v n xs) (hg : W.heap[g]? = some (.cells cs t (0, 0))) (ht : t ≠ e) : v.ownBlock ≠ some g := by
  intro hr
  rcases h.2 with ⟨rfl, _⟩ | ⟨g', cap, cur, rfl, h2, h3, _⟩
  · cases hr
  · cases hr; exact blk_ne hg h3 ht rfl
set_option maxHeartbeats 4000000 in
/-- The deferred closure: it appends the panel. -/
theorem tick1_calls (bo bc so rb : Nat) (c0 c2 c3 c4 c5 c6 c7 c8 : Value) (x : Int) (v : Value) (n base : Nat) (xs : List Int) (u : FrameMode) (w : World)
    (ho : w.heap[bo]? = some (.cells #[.pointer (some ⟨so, 0, none⟩)] 77)) (hc : w.heap[bc]? = some (.cells #[.pointer (some ⟨rb, 0, none⟩)] 70))
    (hr : w.heap[rb]? = some (.cells #[c0, .int .i64 x, c2, c3, c4, c5, c6, c7, c8] 72)) (hs : w.heap[so]? = some (.cells #[v] 27))
    (own : w.ownsRow base 3 1 v n (xs.map (Value.int .i64))) (hn : n ≤ 1000000) (hbase : base ≤ w.heap.size) (hso : so < base) (hrb : rb < base) (hrs : rb ≠ so) (hbo : bo ≠ so) (hbc : bc ≠ so) :
    CallsD Try.prog 61 #[.pointer (some ⟨bo, 0, none⟩), .pointer (some ⟨bc, 0, none⟩)] u w fun e u' w' => u' = u ∧ (e = .returned (.tuple #[]) ∧
      ∃ v', w'.heap[so]? = some (.cells #[v'] 27) ∧ w'.ownsRow base 3 1 v' (n + 1) ((xs ++ [x]).map (Value.int .i64)) ∧ Kept w w' (fun k => k = so ∨ base ≤ k) ∧ Below so w w') := by
  have e1 : w.cell? ⟨bo, 0, none⟩ = some (.pointer (some ⟨so, 0, none⟩)) := (blk_cell ho 0).trans rfl
  have e2 : w.cell? ⟨bc, 0, none⟩ = some (.pointer (some ⟨rb, 0, none⟩)) := (blk_cell hc 0).trans rfl
  have e3 : w.cell? ⟨rb, 1, none⟩ = some (.int .i64 x) := (blk_cell hr 1).trans rfl
  have e4 : w.cell? ⟨so, 0, none⟩ = some v := (blk_cell hs 0).trans rfl
  have e5 : w.frozen? ⟨so, 0, none⟩ = false := blk_frozen hs 0
  have a1 : ∀ o, (w.alloc o).cell? ⟨bo, 0, none⟩ = some (.pointer (some ⟨so, 0, none⟩)) := fun o => (blk_cell (blk_alloc ho o) 0).trans rfl
  have a2 : ∀ o, (w.alloc o).cell? ⟨bc, 0, none⟩ = some (.pointer (some ⟨rb, 0, none⟩)) := fun o => (blk_cell (blk_alloc hc o) 0).trans rfl
  have a3 : ∀ o, (w.alloc o).cell? ⟨rb, 1, none⟩ = some (.int .i64 x) := fun o => (blk_cell (blk_alloc hr o) 1).trans rfl
  have a4 : ∀ o, (w.alloc o).cell? ⟨so, 0, none⟩ = some v := fun o => (blk_cell (blk_alloc hs o) 0).trans rfl
  have a5 : ∀ o, (w.alloc o).frozen? ⟨so, 0, none⟩ = false := fun o => blk_frozen (blk_alloc hs o) 0
  obtain ⟨ii, hii, hz0, hz1, hz2⟩ := info_parts info3
  have n1 := own_ne own ho (by decide)
  have n2 := own_ne own hc (by decide)
  have n3 := own_ne own hr (by decide)
  have n4 := own_ne own hs (by decide)
  have n1 := Aside0.mk n1
  have n2 := Aside0.mk n2
  have n3 := Aside0.mk n3
  have n4 := Aside0.mk n4
  go_enter_d Try.func61, Try.ntmps61
  go_wp2
  go_region_law ((refine step_append_lies _ (by rfl) _ _ 27 (by rfl) base 3 ii (.int .i64 0) 1 8 Try.underlying27 hii hz0 hz1 hz2 (by rfl) (by decide) v n (xs.map (Value.int .i64)) (by rfl) ((show w.drew.ownsRow base 3 1 v n (xs.map (Value.int .i64)) from own).alloc _) ⟨w.heap.size, 0, none⟩ 1 1 [.int .i64 x] (by rfl) (by rfl) (cell_one_new _ _ _) (by simp [Value.oneCell']) (by decide) (by simp [maxLen]; omega) (by omega) (by simp; omega) (w.heap.size + 1) (by simp) ?_; intro g cap w1 hown1 hgrow hat hlt; have z4 := blk_grown (blk_alloc (blk_drew hs) _) hgrow (fun e => n4.out e.symm); have k1 : w1.cell? ⟨bo, 0, none⟩ = some (.pointer (some ⟨so, 0, none⟩)) := (blk_cell (blk_grown (blk_alloc (blk_drew ho) _) hgrow (fun e => n1.out e.symm)) 0).trans rfl; have k2 : w1.cell? ⟨so, 0, none⟩ = some v := (blk_cell z4 0).trans rfl; have k3 : w1.frozen? ⟨so, 0, none⟩ = false := blk_frozen z4 0))
  all_goals
    go_end0
    have hge := own_ge own
    have hsz : so ≤ w.heap.size := by omega
    have kw : Kept w w1 (fun k => k = so ∨ base ≤ k) := Kept.of_grown hgrow (((Kept.refl w _).alloc _).drew) (fun k e => .inl (.inr (hge k e)))
    refine ⟨rfl, _, (blk_set z4 0 _).trans rfl, ?_, kw.setCell (p := ⟨so, 0, none⟩) (.inl (.inl rfl)) _, ?_⟩
    · rw [List.map_append]
      exact own_kept hown1 (kept_cell w1 so 0 _) (fun k hk e => by have : k = so := e; omega)
    · exact (((((Below.refl so w).alloc hsz _).drew).grown hgrow (by simp; omega) (fun k e => by have := hge k e; omega))).setCell (Nat.le_refl _) _

/-- Whether a door becomes open in a tick. -/
def dop (p x w : Int) : Bool := decide (p = 1 ∧ x + 1 = w)
theorem dop_eq {p x l t w dw rt : Int} (o : Bool) (hp : p = 1) : ((dtk p x l t w dw rt o).1 == 2) = dop p x w := by
  subst hp
  unfold dtk dop
  by_cases q : x + 1 = w
  · simp [q]
  · simp [q]
theorem door_Step_eq (k : Nat) (p x l t w dw rt : Int) (o : Bool) : door_Step.f (k + 2) p x l t w dw rt o =
    some (if dchk p x l t w dw rt = 0 then ((dtk p x l t w dw rt o).1, (dtk p x l t w dw rt o).2.1, (dtk p x l t w dw rt o).2.2.1, (dtk p x l t w dw rt o).2.2.2, dop p x w, 0) else (0, 0, 0, 0, false, dchk p x l t w dw rt)) := by
  unfold door_Step.f
  rw [door_Check_eq, Option.bind_some]
  by_cases h : dchk p x l t w dw rt = 0
  · rw [if_pos h, if_pos h, door_tick_eq p x l t w dw rt o (dchk_zero.1 h), Option.bind_some]
    by_cases hp : p = 1
    · rw [if_pos hp, dop_eq o hp]
    · rw [if_neg hp, show dop p x w = false from decide_eq_false (fun q => hp q.1)]
  · rw [if_neg h, if_neg h]
theorem Open_closed (k : Nat) (w dw rt : Int) (h : dRule w dw rt) : door_Open.f (k + 2) 0 0 0 0 w dw rt = some (1, 0, 0, 0, 0) := by
  have hV : dV 0 0 0 0 w dw rt := ⟨h, by omega, by omega, by omega⟩
  unfold door_Open.f
  rw [door_Check_eq, dchk_zero.2 hV, Option.bind_some, if_pos rfl, door_Open.j0]
  rfl
/-- A door that is forced. -/
def dfc (p x l t : Int) : Int × Int × Int × Int := if x = 0 then (0, 0, 0, 0) else (5, x, 0, 0)
theorem dfc_ok {p x l t w dw rt : Int} (h : dV p x l t w dw rt) : dV (dfc p x l t).1 (dfc p x l t).2.1 (dfc p x l t).2.2.1 (dfc p x l t).2.2.2 w dw rt := by
  obtain ⟨h1, h2, h3, h4⟩ := h
  unfold dfc
  split
  all_goals refine ⟨h1, ?_, ?_, ?_⟩ <;> dsimp only <;> omega
theorem Force_ok (k : Nat) {p x l t w dw rt : Int} (h : dV p x l t w dw rt) : door_Force.f (k + 2) p x l t w dw rt = some ((dfc p x l t).1, (dfc p x l t).2.1, (dfc p x l t).2.2.1, (dfc p x l t).2.2.2, 0) := by
  unfold door_Force.f dfc
  rw [door_Check_eq, dchk_zero.2 h, Option.bind_some, if_pos rfl]
  by_cases c : x = 0
  · rw [if_pos c, if_pos c]
  · rw [if_neg c, if_neg c]
theorem forced_ok (k : Nat) {p x l t w dw rt : Int} (a : Int) (ps : Bool) (h : dV p x l t w dw rt) : cycle_forced.f (k + 2) p x l t a ps w dw rt = some ((dfc p x l t).1, (dfc p x l t).2.1, (dfc p x l t).2.2.1, (dfc p x l t).2.2.2, a, if (dfc p x l t).1 = 0 then true else ps) := by
  unfold cycle_forced.f
  rw [Force_ok k h, Option.bind_some]
  dsimp only
  by_cases c : (dfc p x l t).1 = 0
  · rw [if_pos c, if_pos c]
  · rw [if_neg c, if_neg c]
theorem ctick_ok (k : Nat) {p x l t w dw rt : Int} (a : Int) (ps o : Bool) (h : dV p x l t w dw rt) (ha : 0 ≤ a ∧ a ≤ 100000) :
    cycle_tick.f (k + 2) p x l t a ps w dw rt o = some ((dtk p x l t w dw rt o).1, (dtk p x l t w dw rt o).2.1, (dtk p x l t w dw rt o).2.2.1, (dtk p x l t w dw rt o).2.2.2, a + 1, ps, dop p x w) := by
  unfold cycle_tick.f
  rw [door_Step_eq, if_pos (dchk_zero.2 h), Option.bind_some, wsm (a + 1) (by omega) (by omega)]
/-- How many ticks a rule's cycle takes. -/
def cwst (w dw rt : Int) : Int := 2 * w + dw + rt * (2 * w - 1 + dw)
theorem cwst_bound {w dw rt : Int} (h : dRule w dw rt) : 3 ≤ cwst w dw rt ∧ cwst w dw rt ≤ 600 := by
  have b : 0 ≤ rt * (2 * w - 1 + dw) ∧ rt * (2 * w - 1 + dw) ≤ 445 := by
    constructor
    · exact Int.mul_nonneg (by omega) (by omega)
    · exact Int.le_trans (Int.mul_le_mul (show rt ≤ 5 by omega) (show 2 * w - 1 + dw ≤ 89 by omega) (by omega) (by omega)) (by decide)
  unfold cwst
  omega
theorem worst_eq (w dw rt : Int) : cycle_worst.f w dw rt = some (if dRule w dw rt then (cwst w dw rt, 0) else (0, 2)) := by
  unfold cycle_worst.f door_Worst.f
  rw [Rule_eq, Option.bind_some]
  by_cases h : dRule w dw rt
  · rw [if_pos h, if_pos rfl, Option.bind_some, if_pos rfl, Worst_in w dw rt h, if_pos h]
    rfl
  · rw [if_neg h, if_neg (by decide), if_neg h]
theorem Begin_ok (k : Nat) (w dw rt : Int) (h : dRule w dw rt) (b : Bool) : cycle_Begin.f (k + 2) w dw rt b = some (if b = true then (1, 0, 0, 0, 0, false, 0) else (0, 0, 0, 0, 0, true, 0)) := by
  unfold cycle_Begin.f
  rw [worst_eq, if_pos h, Option.bind_some, if_pos rfl, Open_closed k w dw rt h]
  cases b
  · rfl
  · rfl

/-- The door in tick k, before it: forced, if it is to be. -/
def cfo (q : Int × Int × Int × Int) (c : Bool) : Int × Int × Int × Int := if c = true then dfc q.1 q.2.1 q.2.2.1 q.2.2.2 else q
/-- The door after k ticks of a cycle that opens, and its panels. -/
def cst (w dw rt : Int) (l : List Bool) (at_ : Int) (f : Bool) : Nat → Int × Int × Int × Int
  | 0 => (1, 0, 0, 0)
  | k + 1 => dtk (cfo (cst w dw rt l at_ f k) (f && ((k : Int) == at_))).1 (cfo (cst w dw rt l at_ f k) (f && ((k : Int) == at_))).2.1 (cfo (cst w dw rt l at_ f k) (f && ((k : Int) == at_))).2.2.1 (cfo (cst w dw rt l at_ f k) (f && ((k : Int) == at_))).2.2.2 w dw rt (rdOf false l k)
def cpl (w dw rt : Int) (l : List Bool) (at_ : Int) (f : Bool) : Nat → List Int
  | 0 => []
  | k + 1 => cpl w dw rt l at_ f k ++ [(cst w dw rt l at_ f (k + 1)).2.1]
theorem cfo_ok {q : Int × Int × Int × Int} {w dw rt : Int} (c : Bool) (h : dV q.1 q.2.1 q.2.2.1 q.2.2.2 w dw rt) : dV (cfo q c).1 (cfo q c).2.1 (cfo q c).2.2.1 (cfo q c).2.2.2 w dw rt := by
  unfold cfo
  split
  · exact dfc_ok h
  · exact h
theorem cst_ok {w dw rt : Int} (h : dRule w dw rt) (l : List Bool) (at_ : Int) (f : Bool) : ∀ k, dV (cst w dw rt l at_ f k).1 (cst w dw rt l at_ f k).2.1 (cst w dw rt l at_ f k).2.2.1 (cst w dw rt l at_ f k).2.2.2 w dw rt
  | 0 => by
    show dV 1 0 0 0 w dw rt
    exact ⟨h, by omega, by omega, by omega⟩
  | k + 1 => dtk_ok _ (cfo_ok _ (cst_ok h l at_ f k))
theorem cpl_len (w dw rt : Int) (l : List Bool) (at_ : Int) (f : Bool) : ∀ k, (cpl w dw rt l at_ f k).length = k
  | 0 => rfl
  | k + 1 => by rw [cpl, List.length_append, cpl_len w dw rt l at_ f k]; rfl
def cycle_panels.f (a0_0 : Int) (a0_1 : Int) (a0_2 : Int) (l1 : List Bool) (a2 : Int) (a3 : Bool) : Option (List Int × Int) :=
  if dRule a0_0 a0_1 a0_2 then
    (if (l1.length : Int) > cwst a0_0 a0_1 a0_2 then (if l1.length < 1000000000000000000 then some ([], 4) else none)
     else if a3 = true ∧ (a2 < 0 ∨ a2 ≥ cwst a0_0 a0_1 a0_2) then some ([], 2)
     else some (cpl a0_0 a0_1 a0_2 l1 a2 a3 (cwst a0_0 a0_1 a0_2).toNat, 0))
  else some ([], 2)
end Go.Proofs.Ytmjmdnpenpdmhaa.P
