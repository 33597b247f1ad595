/- Package door: how long a door takes, with a table of what is known, written by a closure that calls itself: what it answers, and that the Go code comes to just this. -/
import Derived.Test.YtmjmdnpenpdmhaaDoorQ
import Derived.Maps.OwnOps
import Derived.DeepKeys5
import Derived.Deep.RegionHeld3
namespace Go.Proofs.Ytmjmdnpenpdmhaa.P
open Go.RowKit Go.Proofs.YtmjmdnpenpdmhaaW.PrintWords Go.Proofs.YtmjmdnpenpdmhaaW.PrintLast Go.Proofs.YtmjmdnpenpdmhaaW.PrintMore
open Go.Maps (Keyed)
attribute [local go_sem] max2_int min2_int max_two min_two
set_option linter.unusedVariables false
set_option linter.unusedSimpArgs false

/-- A door as a value. -/
def dval (p x l t : Int) : Value := .agg #[.int .i64 p, .int .i64 x, .int .i64 l, .int .i64 t]
theorem dval_inj {p x l t p2 x2 l2 t2 : Int} (h : dval p x l t = dval p2 x2 l2 t2) : p = p2 ∧ x = x2 ∧ l = l2 ∧ t = t2 := by
  simp [dval] at h; exact h

theorem door_laid : laidOutB Try.prog = true := by kernel_rfl
theorem door_keyed : Keyed Try.prog 37 := Keyed.of_law (deep_law_gate door_laid (Nat.le_of_ble_eq_true (by kernel_rfl)) (Nat.le_of_ble_eq_true (by kernel_rfl)) (by kernel_rfl) (by kernel_rfl))
theorem door_key0 : Try.prog.keyType 37 = true := by kernel_rfl
theorem door_cells : Try.prog.cellsOf 37 = 4 := by kernel_rfl
theorem int_cells : Try.prog.cellsOf 3 = 1 := by kernel_rfl
theorem door_size : ∃ m, Try.prog.types.size = m + 1 := ⟨Try.prog.types.size - 1, by kernel_rfl⟩

theorem dval_key (p x l t : Int) (hp : 0 ≤ p ∧ p ≤ 1000) (hx : 0 ≤ x ∧ x ≤ 1000) (hl : 0 ≤ l ∧ l ≤ 1000) (ht : 0 ≤ t ∧ t ≤ 1000) : ∃ kl, keyOf Try.prog 37 (dval p x l t) = some kl := by
  have hw : ∀ z : Int, 0 ≤ z ∧ z ≤ 1000 → (Lit.int .i64 z).wf = true := fun z hz => WalkArith.wf_i64 (by omega)
  unfold keyOf dval
  simp only [Try.underlying37, door_key0, Value.formed, door_cells, List.size_toArray, List.length_cons, List.length_nil, Bool.true_and]
  obtain ⟨m, hm⟩ := door_size
  rw [hm]
  simp [Program.keyLits, Try.underlying37, Try.underlying3, door_cells, int_cells, Value.cells, hw p hp, hw x hx, hw l hl, hw t ht]

theorem dV_key {p x l t wd dw rt : Int} (h : dV p x l t wd dw rt) : ∃ kl, keyOf Try.prog 37 (dval p x l t) = some kl := by
  obtain ⟨h1, h2, h3, h4⟩ := h
  exact dval_key p x l t (by omega) (by omega) (by omega) (by omega)

/-- The table of what is known. -/
def Memo (W : World) (mb : Nat) (wd dw rt : Int) : Prop :=
  ∃ es clock, W.heap[mb]? = some (.map es clock) ∧ (∀ e ∈ es.toList, ∃ p x l t, dV p x l t wd dw rt ∧ e.key = dval p x l t ∧ e.val = .int .i64 (dmost p x l t wd dw rt)) ∧ ∃ e ∈ es.toList, e.key = dval 0 0 0 0

theorem Memo.move {W W' : World} {mb : Nat} {wd dw rt : Int} (h : Memo W mb wd dw rt) (he : W'.heap[mb]? = W.heap[mb]?) : Memo W' mb wd dw rt := by
  obtain ⟨es, c, h1, h2⟩ := h
  exact ⟨es, c, he.trans h1, h2⟩

theorem memo_look {W : World} {mb : Nat} {p x l t wd dw rt : Int} (hM : Memo W mb wd dw rt) (hV : dV p x l t wd dw rt) :
    (∀ W', W'.heap[mb]? = W.heap[mb]? → (Instr.lookup 78 (.map (some mb)) (dval p x l t) true).run Try.prog W' = .ok (.tuple #[.int .i64 (dmost p x l t wd dw rt), .bool true]) W') ∨
    p ≠ 0 ∧ (∀ W', W'.heap[mb]? = W.heap[mb]? → (Instr.lookup 78 (.map (some mb)) (dval p x l t) true).run Try.prog W' = .ok (.tuple #[.int .i64 0, .bool false]) W') := by
  obtain ⟨es, c, h1, h2, h3⟩ := hM
  obtain ⟨kl, hk⟩ := dV_key hV
  have hz : ∀ W', (zeroValue 3).run Try.prog W' = .ok (.int .i64 0) W' := fun W' => Try.zeroValue3 W'
  have hkeys : ∀ e ∈ es.toList, ∃ l, keyOf Try.prog 37 e.key = some l := fun e he => by
    obtain ⟨p', x', l', t', hv, e1, _⟩ := h2 e he
    rw [e1]; exact dV_key hv
  by_cases hin : ∃ e ∈ es.toList, e.key = dval p x l t
  · refine .inl fun W' hW => ?_
    rcases door_keyed.find W' hk es.toList hkeys with ⟨g1, g2⟩ | ⟨i, e0, g1, g2, g3⟩
    · obtain ⟨e, he, e1⟩ := hin
      exact absurd e1 (g2 e he)
    · obtain ⟨p', x', l', t', hv, e1, e2⟩ := h2 e0 (List.mem_of_getElem? g2)
      rw [g3] at e1
      obtain ⟨rfl, rfl, rfl, rfl⟩ := dval_inj e1
      rw [e2] at g1
      simp [Instr.lookup, run_underlying Try.underlying78, MapKept.run_getObj_map (hW.trans h1), door_keyed.check W' _ hk, g1, Result.andThen]
  · refine .inr ⟨fun hp => hin ?_, fun W' hW => ?_⟩
    · obtain ⟨q1, q2, q3, q4⟩ := hV
      obtain ⟨e, he, e1⟩ := h3
      refine ⟨e, he, e1.trans ?_⟩
      rw [show p = 0 by omega, show x = 0 by omega, show l = 0 by omega, show t = 0 by omega]
    rcases door_keyed.find W' hk es.toList hkeys with ⟨g1, g2⟩ | ⟨i, e0, g1, g2, g3⟩
    · simp [Instr.lookup, run_underlying Try.underlying78, MapKept.run_getObj_map (hW.trans h1), door_keyed.check W' _ hk, g1, hz, Result.andThen]
    · exact absurd ⟨e0, List.mem_of_getElem? g2, g3⟩ hin

theorem memo_put {W : World} {mb : Nat} {p x l t wd dw rt : Int} (hM : Memo W mb wd dw rt) (hV : dV p x l t wd dw rt) :
    ∃ W', (Instr.mapUpdate 78 (.map (some mb)) (dval p x l t) (.int .i64 (dmost p x l t wd dw rt))).run Try.prog W = .ok () W' ∧ Memo W' mb wd dw rt ∧ W.grownBy W' (some mb) := by
  obtain ⟨es, c, h1, h2, h3⟩ := hM
  obtain ⟨kl, hk⟩ := dV_key hV
  have hkeys : ∀ e ∈ es.toList, ∃ l, keyOf Try.prog 37 e.key = some l := fun e he => by
    obtain ⟨p', x', l', t', hv, e1, _⟩ := h2 e he
    rw [e1]; exact dV_key hv
  have hlt : mb < W.heap.size := (Array.getElem?_eq_some_iff.1 h1).1
  have hset : ∀ o : Obj, W.grownBy { W with heap := W.heap.setIfInBounds mb o } (some mb) := fun o =>
    ⟨rfl, rfl, rfl, by simp, fun k _ hne => by
      have : ¬ mb = k := fun e => hne (by rw [e])
      simp [Array.getElem?_setIfInBounds, this]⟩
  rcases door_keyed.find W hk es.toList hkeys with ⟨g1, g2⟩ | ⟨i, e0, g1, g2, g3⟩
  · refine ⟨{ W with heap := W.heap.setIfInBounds mb (.map (es.push ⟨dval p x l t, .int .i64 (dmost p x l t wd dw rt), c⟩) (c + 1)) }, ?_, ⟨_, _, by simp [Array.getElem?_setIfInBounds, hlt]; exact ⟨rfl, rfl⟩, ?_, ?_⟩, hset _⟩
    · simp [Instr.mapUpdate, run_underlying Try.underlying78, MapKept.run_getObj_map h1, door_keyed.check W false hk, g1, MapKept.run_setObj_map _ h1, Result.andThen]
    · intro e he
      simp only [Array.toList_push, List.mem_append, List.mem_singleton] at he
      rcases he with he | rfl
      · exact h2 e he
      · exact ⟨p, x, l, t, hV, rfl, rfl⟩
    · obtain ⟨e, he, e1⟩ := h3
      exact ⟨e, by simp at he ⊢; exact .inl he, e1⟩
  · have hst := door_keyed.stays W hk
    have hi : i < es.size := by
      have := (List.getElem?_eq_some_iff.1 g2).1
      simpa using this
    have gi : es[i]? = some e0 := by rw [← Array.getElem?_toList]; exact g2
    refine ⟨{ W with heap := W.heap.setIfInBounds mb (.map (es.modify i fun e => { e with key := dval p x l t, val := .int .i64 (dmost p x l t wd dw rt) }) c) }, ?_, ⟨_, _, by simp [Array.getElem?_setIfInBounds, hlt]; exact ⟨rfl, rfl⟩, ?_, ?_⟩, hset _⟩
    · simp [Instr.mapUpdate, run_underlying Try.underlying78, MapKept.run_getObj_map h1, door_keyed.check W false hk, g1, gi, g3, hst, MapKept.run_setObj_map _ h1, Result.andThen]
    · intro e he
      obtain ⟨j, hj, e1⟩ := List.mem_iff_getElem.1 he
      simp only [Array.getElem_toList, Array.getElem_modify] at e1
      split at e1
      · subst e1
        exact ⟨p, x, l, t, hV, rfl, rfl⟩
      · subst e1
        exact h2 _ (by simp)
    · obtain ⟨e, he, e1⟩ := h3
      obtain ⟨j, hj, e2⟩ := List.mem_iff_getElem.1 he
      simp only [Array.length_toList, Array.getElem_toList] at hj e2
      refine ⟨(es.modify i fun e => { e with key := dval p x l t, val := .int .i64 (dmost p x l t wd dw rt) })[j]'(by simpa using hj), Array.mem_toList_iff.2 (Array.getElem_mem _), ?_⟩
      rw [Array.getElem_modify]
      split
      · rename_i hij
        subst hij
        have : es[i] = e0 := by rw [Array.getElem?_eq_getElem hi] at gi; exact Option.some.inj gi
        rw [← e1, ← e2, this]
        exact g3.symm
      · rw [e2]; exact e1

theorem memo_first {W : World} {mb c : Nat} (wd dw rt : Int) (h1 : W.heap[mb]? = some (.map #[] c)) (hR : dRule wd dw rt) :
    ∃ W', (Instr.mapUpdate 78 (.map (some mb)) (dval 0 0 0 0) (.int .i64 0)).run Try.prog W = .ok () W' ∧ Memo W' mb wd dw rt ∧ W.grownBy W' (some mb) := by
  have hV : dV 0 0 0 0 wd dw rt := ⟨hR, by omega, by omega, by omega⟩
  obtain ⟨kl, hk⟩ := dV_key hV
  have hlt : mb < W.heap.size := (Array.getElem?_eq_some_iff.1 h1).1
  rcases door_keyed.find W hk (#[] : Array MapEntry).toList (fun e he => by simp at he) with ⟨g1, g2⟩ | ⟨i, e0, g1, g2, g3⟩
  · refine ⟨{ W with heap := W.heap.setIfInBounds mb (.map (#[].push ⟨dval 0 0 0 0, .int .i64 0, c⟩) (c + 1)) }, ?_, ⟨_, _, by simp [Array.getElem?_setIfInBounds, hlt]; exact ⟨rfl, rfl⟩, ?_, ?_⟩, ?_⟩
    · simp [Instr.mapUpdate, run_underlying Try.underlying78, MapKept.run_getObj_map h1, door_keyed.check W false hk, g1, MapKept.run_setObj_map _ h1, Result.andThen]
    · intro e he
      simp at he
      subst he
      exact ⟨0, 0, 0, 0, hV, rfl, rfl⟩
    · exact ⟨⟨dval 0 0 0 0, .int .i64 0, c⟩, by simp, rfl⟩
    · exact ⟨rfl, rfl, rfl, by simp, fun k _ hne => by
        have : ¬ mb = k := fun e => hne (by rw [e])
        simp [Array.getElem?_setIfInBounds, this]⟩
  · simp at g2

theorem wpList_lookup_run {P : Program} {w : World} {ops : Array Oper} {rest : List Oper} {o : Oper} {a : Act} {Q : Exit → Act → World → Prop} (hg : o.guard = none) (ty : TypeId) (m x : Operand) (hop : o.op = Op.lookup ty m x true)
    (mv kv r : Value) (hm : a.eval m = mv) (hx : a.eval x = kv) (hrun : (Instr.lookup ty mv kv true).run P w = .ok r w) (hK : wpList P ops Q rest (a.put o.dst r) w) : wpList P ops Q (o :: rest) a w := by
  refine wpList_plain hg fun K' hK' => ?_
  unfold Oper.wp
  simp [execOp, hop, hm, hx, hrun, Result.andThen]
  exact hK' _ _ hK
theorem wpList_mapUpdate_run {P : Program} {w w' : World} {ops : Array Oper} {rest : List Oper} {o : Oper} {a : Act} {Q : Exit → Act → World → Prop} (hg : o.guard = none) (ty : TypeId) (m x v : Operand) (hop : o.op = Op.mapUpdate ty m x v)
    (mv kv vv : Value) (hm : a.eval m = mv) (hx : a.eval x = kv) (hv : a.eval v = vv) (hrun : (Instr.mapUpdate ty mv kv vv).run P w = .ok () w') (hK : wpList P ops Q rest (a.put o.dst undef) w') : wpList P ops Q (o :: rest) a w := by
  refine wpList_plain hg fun K' hK' => ?_
  unfold Oper.wp
  simp [execOp, hop, hm, hx, hv, hrun, Result.andThen]
  exact hK' _ _ hK

theorem grown_alloc {w W : World} {r : Option Nat} (h : w.grownBy W r) (o : Obj) : w.grownBy (W.alloc o) r :=
  ⟨h.os, h.tape, h.output, Nat.le_trans h.size (by simp), fun k hk hne => (Below.heap_alloc W o k (Nat.lt_of_lt_of_le hk h.size)).trans (h.block k hk hne)⟩
theorem grown_refl (w : World) (r : Option Nat) : w.grownBy w r := ⟨rfl, rfl, rfl, Nat.le_refl _, fun _ _ _ => rfl⟩
theorem grown_drew {w W : World} {r : Option Nat} (h : w.grownBy W r) : w.grownBy W.drew r := ⟨h.os, h.tape, h.output, h.size, h.block⟩
theorem grown_trans {a b c : World} {r : Option Nat} (h : a.grownBy b r) (k : b.grownBy c r) : a.grownBy c r :=
  ⟨k.os.trans h.os, k.tape.trans h.tape, k.output.trans h.output, Nat.le_trans h.size k.size, fun i hi hne => (k.block i (Nat.lt_of_lt_of_le hi h.size) hne).trans (h.block i hi hne)⟩
theorem grown_of_below {a b : World} (h : Below a.heap.size a b) (r : Option Nat) : a.grownBy b r := ⟨h.os, h.tape, h.output, h.size, fun k hk _ => h.block k hk⟩

/-- What the closure needs of the world. -/
structure Known (w : World) (mb bk bl br : Nat) (wd dw rt : Int) : Prop where
  memo : Memo w mb wd dw rt
  nk : bk < w.heap.size ∧ bk ≠ mb
  nl : bl < w.heap.size ∧ bl ≠ mb
  nr : br < w.heap.size ∧ br ≠ mb
  ck : w.cell? ⟨bk, 0, none⟩ = some (.map (some mb))
  cl : w.cell? ⟨bl, 0, none⟩ = some (.func (.func 53) #[] #[.pointer (some ⟨bk, 0, none⟩), .pointer (some ⟨bl, 0, none⟩), .pointer (some ⟨br, 0, none⟩)])
  r0 : w.cell? ⟨br, 0, none⟩ = some (.int .i64 wd)
  r1 : w.cell? ⟨br, 1, none⟩ = some (.int .i64 dw)
  r2 : w.cell? ⟨br, 2, none⟩ = some (.int .i64 rt)

theorem Known.move {w W : World} {mb bk bl br : Nat} {wd dw rt : Int} (h : Known w mb bk bl br wd dw rt) (hM : Memo W mb wd dw rt) (hg : w.grownBy W (some mb)) : Known W mb bk bl br wd dw rt := by
  have e : ∀ k i, k < w.heap.size ∧ k ≠ mb → W.cell? ⟨k, i, none⟩ = w.cell? ⟨k, i, none⟩ := fun k i hk => World.cell?_of_block (hg.block k hk.1 (fun q => hk.2 (Option.some.inj q)))
  exact ⟨hM, ⟨Nat.lt_of_lt_of_le h.nk.1 hg.size, h.nk.2⟩, ⟨Nat.lt_of_lt_of_le h.nl.1 hg.size, h.nl.2⟩, ⟨Nat.lt_of_lt_of_le h.nr.1 hg.size, h.nr.2⟩,
    (e _ _ h.nk).trans h.ck, (e _ _ h.nl).trans h.cl, (e _ _ h.nr).trans h.r0, (e _ _ h.nr).trans h.r1, (e _ _ h.nr).trans h.r2⟩
theorem Known.lt {w : World} {mb bk bl br : Nat} {wd dw rt : Int} (h : Known w mb bk bl br wd dw rt) : mb < w.heap.size := by
  obtain ⟨es, c, h1, _⟩ := h.memo
  exact (Array.getElem?_eq_some_iff.1 h1).1
theorem Known.below {w W : World} {mb bk bl br : Nat} {wd dw rt : Int} (h : Known w mb bk bl br wd dw rt) (hb : Below w.heap.size w W) : Known W mb bk bl br wd dw rt :=
  h.move (h.memo.move (hb.block mb h.lt)) (grown_of_below hb _)

theorem Known.cells {w : World} {mb bk bl br : Nat} {wd dw rt : Int} (h : Known w mb bk bl br wd dw rt) {g : Nat} {p x l t : Int} (hd : w.heap[g]? = some (.cells #[.int .i64 p, .int .i64 x, .int .i64 l, .int .i64 t] 37)) :
    w.cell? ⟨bl, 0, none⟩ = some (.func (.func 53) #[] #[.pointer (some ⟨bk, 0, none⟩), .pointer (some ⟨bl, 0, none⟩), .pointer (some ⟨br, 0, none⟩)]) ∧
    w.cell? ⟨br, 0, none⟩ = some (.int .i64 wd) ∧ w.cell? ⟨br, 1, none⟩ = some (.int .i64 dw) ∧ w.cell? ⟨br, 2, none⟩ = some (.int .i64 rt) ∧
    w.cell? ⟨g, 0, none⟩ = some (.int .i64 p) ∧ w.cell? ⟨g, 1, none⟩ = some (.int .i64 x) ∧ w.cell? ⟨g, 2, none⟩ = some (.int .i64 l) ∧ w.cell? ⟨g, 3, none⟩ = some (.int .i64 t) :=
  ⟨h.cl, h.r0, h.r1, h.r2, (blk_cell hd 0).trans rfl, (blk_cell hd 1).trans rfl, (blk_cell hd 2).trans rfl, (blk_cell hd 3).trans rfl⟩

theorem longest_known (p x l t : Int) (w : World) (mb bk bl br : Nat) (wd dw rt : Int) (hK : Known w mb bk bl br wd dw rt)
    (hlook : ∀ W', W'.heap[mb]? = w.heap[mb]? → (Instr.lookup 78 (.map (some mb)) (dval p x l t) true).run Try.prog W' = .ok (.tuple #[.int .i64 (dmost p x l t wd dw rt), .bool true]) W') :
    Calls Try.prog 53 #[.agg #[.int .i64 p, .int .i64 x, .int .i64 l, .int .i64 t], .pointer (some ⟨bk, 0, none⟩), .pointer (some ⟨bl, 0, none⟩), .pointer (some ⟨br, 0, none⟩)] w
      fun e w' => e = .returned (.int .i64 (dmost p x l t wd dw rt)) ∧ Memo w' mb wd dw rt ∧ w.grownBy w' (some mb) := by
  have hA := fun (o : Obj) => hK.below ((Below.refl _ w).alloc (Nat.le_refl _) o)
  have c1 := fun (o : Obj) => (hA o).ck
  have hH := fun (o : Obj) => Below.heap_alloc w o mb hK.lt
  have HLOOK := Aside0.mk hlook
  have HA := Aside0.mk hA
  clear hA hlook hK
  go_enter Try.func53, Try.ntmps53
  go_wp2_with (at_lookup; refine wpList_lookup_run rfl _ _ _ rfl _ _ _ rfl rfl (HLOOK.out _ (hH _)) ?_)
  go_ret
  exact ⟨rfl, (HA.out _).memo, grown_of_below ((Below.refl _ w).alloc (Nat.le_refl _) _) _⟩

set_option maxHeartbeats 8000000 in
set_option maxRecDepth 100000 in
theorem longest_new (p x l t : Int) (w : World) (mb bk bl br : Nat) (wd dw rt : Int) (hV : dV p x l t wd dw rt) (hp : p ≠ 0) (hK : Known w mb bk bl br wd dw rt)
    (hlook : ∀ W', W'.heap[mb]? = w.heap[mb]? → (Instr.lookup 78 (.map (some mb)) (dval p x l t) true).run Try.prog W' = .ok (.tuple #[.int .i64 0, .bool false]) W')
    (ih : ∀ (o : Bool) (W : World), (o = true → p = 3) → Known W mb bk bl br wd dw rt →
      Calls Try.prog 53 #[.agg #[.int .i64 (dtk p x l t wd dw rt o).1, .int .i64 (dtk p x l t wd dw rt o).2.1, .int .i64 (dtk p x l t wd dw rt o).2.2.1, .int .i64 (dtk p x l t wd dw rt o).2.2.2], .pointer (some ⟨bk, 0, none⟩), .pointer (some ⟨bl, 0, none⟩), .pointer (some ⟨br, 0, none⟩)] W
        fun e w' => e = .returned (.int .i64 (dmostT (dtk p x l t wd dw rt o) wd dw rt)) ∧ Memo w' mb wd dw rt ∧ W.grownBy w' (some mb)) :
    Calls Try.prog 53 #[.agg #[.int .i64 p, .int .i64 x, .int .i64 l, .int .i64 t], .pointer (some ⟨bk, 0, none⟩), .pointer (some ⟨bl, 0, none⟩), .pointer (some ⟨br, 0, none⟩)] w
      fun e w' => e = .returned (.int .i64 (dmost p x l t wd dw rt)) ∧ Memo w' mb wd dw rt ∧ w.grownBy w' (some mb) := by
  have hA := fun (o : Obj) => hK.below ((Below.refl _ w).alloc (Nat.le_refl _) o)
  have c1 := fun (o : Obj) => (hA o).ck
  have hH := fun (o : Obj) => Below.heap_alloc w o mb hK.lt
  have hlt := hK.lt
  have HLOOK := Aside0.mk hlook
  have HA := Aside0.mk hA
  have HIH := Aside0.mk ih
  have HV := Aside0.mk hV
  clear hA hlook hK ih hV
  go_enter Try.func53, Try.ntmps53
  go_upto_region 4 with (at_lookup; refine wpList_lookup_run rfl _ _ _ rfl _ _ _ rfl rfl (HLOOK.out _ (hH _)) ?_)
  have HK1 := Aside0.mk (HA.out (.cells #[.int .i64 p, .int .i64 x, .int .i64 l, .int .i64 t] 37))
  have HG1 := Aside0.mk (grown_of_below ((Below.refl _ w).alloc (Nat.le_refl _) (.cells #[.int .i64 p, .int .i64 x, .int .i64 l, .int .i64 t] 37)) (some mb))
  have HD1 : Aside0 ((w.alloc (.cells #[.int .i64 p, .int .i64 x, .int .i64 l, .int .i64 t] 37)).heap[w.heap.size]? = some (.cells #[.int .i64 p, .int .i64 x, .int .i64 l, .int .i64 t] 37)) := ⟨blk_new w _⟩
  have hgs : w.heap.size < (w.alloc (.cells #[.int .i64 p, .int .i64 x, .int .i64 l, .int .i64 t] 37)).heap.size := by simp
  have hgm : w.heap.size ≠ mb := by omega
  clear HA hH c1 HLOOK
  generalize w.alloc (.cells #[.int .i64 p, .int .i64 x, .int .i64 l, .int .i64 t] 37) = W1 at *
  obtain ⟨g, hg⟩ : ∃ g, g = w.heap.size := ⟨_, rfl⟩
  simp only [← hg] at *
  have e1 := HK1.out.cl
  have e2 := HK1.out.r0
  have e3 := HK1.out.r1
  have e4 := HK1.out.r2
  have d0 : W1.cell? ⟨g, 0, none⟩ = some (.int .i64 p) := (blk_cell HD1.out 0).trans rfl
  have d1 : W1.cell? ⟨g, 1, none⟩ = some (.int .i64 x) := (blk_cell HD1.out 1).trans rfl
  have d2 : W1.cell? ⟨g, 2, none⟩ = some (.int .i64 l) := (blk_cell HD1.out 2).trans rfl
  have d3 : W1.cell? ⟨g, 3, none⟩ = some (.int .i64 t) := (blk_cell HD1.out 3).trans rfl
  have HT : ∀ o, Aside0 (door_tick.f p x l t wd dw rt o = some ((dtk p x l t wd dw rt o).1, (dtk p x l t wd dw rt o).2.1, (dtk p x l t wd dw rt o).2.2.1, (dtk p x l t wd dw rt o).2.2.2)) := fun o => ⟨door_tick_eq p x l t wd dw rt o HV.out⟩
  have HW : ∀ o, Aside0 (IntKind.i64.wrap (1 + dmostT (dtk p x l t wd dw rt o) wd dw rt) = 1 + dmostT (dtk p x l t wd dw rt o) wd dw rt) := fun o => ⟨by
    have h1 := dmost_bound (dtk_ok o HV.out)
    rw [i64_w]
    unfold dmostT
    exact wsm _ (by omega) (by omega)⟩
  have HS := Aside0.mk (dmost_step HV.out hp)
  go_cut [8] from 17 to 22 (fun v8 wc => v8 = .int .i64 (1 + dmostT (dtk p x l t wd dw rt false) wd dw rt) ∧ Known wc mb bk bl br wd dw rt ∧ w.grownBy wc (some mb) ∧ wc.heap[g]? = some (.cells #[.int .i64 p, .int .i64 x, .int .i64 l, .int .i64 t] 37) ∧ g < wc.heap.size)
  case first =>
    go_region_held3 (fun w' => w'.cell? ⟨bl, 0, none⟩ = some (.func (.func 53) #[] #[.pointer (some ⟨bk, 0, none⟩), .pointer (some ⟨bl, 0, none⟩), .pointer (some ⟨br, 0, none⟩)]) ∧ w'.cell? ⟨br, 0, none⟩ = some (.int .i64 wd) ∧ w'.cell? ⟨br, 1, none⟩ = some (.int .i64 dw) ∧ w'.cell? ⟨br, 2, none⟩ = some (.int .i64 rt) ∧ w'.cell? ⟨g, 0, none⟩ = some (.int .i64 p) ∧ w'.cell? ⟨g, 1, none⟩ = some (.int .i64 x) ∧ w'.cell? ⟨g, 2, none⟩ = some (.int .i64 l) ∧ w'.cell? ⟨g, 3, none⟩ = some (.int .i64 t)) ((first | exact HK3.out.cells HD3.out | exact HK2.out.cells HD2.out | exact HK1.out.cells HD1.out)) ((first
      | (go_at_call 54; refine (door_tick.calls p x l t wd dw rt false _ _ _ _ _ (HT false).out).mono ?_; rintro e w2 ⟨rfl, hb⟩; have HK2 := Aside0.mk ((HK1.out.below ((Below.refl _ W1).drew)).below hb); have HG2 := Aside0.mk (grown_trans (grown_drew HG1.out) (grown_of_below hb (some mb))); have HD2 := Aside0.mk ((hb.block g hgs).trans HD1.out); have hgs2 := Nat.lt_of_lt_of_le hgs hb.size; have f1 := HK2.out.cl)
      | (go_at_call 53; refine (HIH.out false _ (fun q => nomatch q) HK2.out).mono ?_; rintro e w3 ⟨rfl, hM3, hg3⟩; have HK3 := Aside0.mk (HK2.out.move hM3 hg3); have HG3 := Aside0.mk (grown_trans HG2.out hg3); have HD3 := Aside0.mk ((hg3.block g hgs2 (fun q => hgm (Option.some.inj q))).trans HD2.out); have hgs3 := Nat.lt_of_lt_of_le hgs2 hg3.size)))
    all_goals
      go_wp2
      go_meet
      exact ⟨congrArg (Value.int .i64) (HW false).out, HK3.out, HG3.out, HD3.out, hgs3⟩
  case rest =>
    obtain ⟨rfl, hk, hg2, hd, hs2⟩ := hcut
    have HK2 := Aside0.mk hk
    have HG2 := Aside0.mk hg2
    have HD2 := Aside0.mk hd
    clear hk hg2 hd HK1 HG1 HD1 e1 e2 e3 e4 d0 d1 d2 d3 hgs
    have c1 := HK2.out.ck
    have e1 := HK2.out.cl
    have e2 := HK2.out.r0
    have e3 := HK2.out.r1
    have e4 := HK2.out.r2
    have d0 : wc.cell? ⟨g, 0, none⟩ = some (.int .i64 p) := (blk_cell HD2.out 0).trans rfl
    have d1 : wc.cell? ⟨g, 1, none⟩ = some (.int .i64 x) := (blk_cell HD2.out 1).trans rfl
    have d2 : wc.cell? ⟨g, 2, none⟩ = some (.int .i64 l) := (blk_cell HD2.out 2).trans rfl
    have d3 : wc.cell? ⟨g, 3, none⟩ = some (.int .i64 t) := (blk_cell HD2.out 3).trans rfl
    by_cases hp3 : p = 3
    · subst hp3
      go_upto_region 6 with fail
      go_cut [8] from 26 to 33 (fun v8 wd_ => v8 = .int .i64 (dmost 3 x l t wd dw rt) ∧ Known wd_ mb bk bl br wd dw rt ∧ w.grownBy wd_ (some mb) ∧ wd_.heap[g]? = some (.cells #[.int .i64 3, .int .i64 x, .int .i64 l, .int .i64 t] 37))
      case first =>
        go_region_held3 (fun w' => w'.cell? ⟨bl, 0, none⟩ = some (.func (.func 53) #[] #[.pointer (some ⟨bk, 0, none⟩), .pointer (some ⟨bl, 0, none⟩), .pointer (some ⟨br, 0, none⟩)]) ∧ w'.cell? ⟨br, 0, none⟩ = some (.int .i64 wd) ∧ w'.cell? ⟨br, 1, none⟩ = some (.int .i64 dw) ∧ w'.cell? ⟨br, 2, none⟩ = some (.int .i64 rt) ∧ w'.cell? ⟨g, 0, none⟩ = some (.int .i64 3) ∧ w'.cell? ⟨g, 1, none⟩ = some (.int .i64 x) ∧ w'.cell? ⟨g, 2, none⟩ = some (.int .i64 l) ∧ w'.cell? ⟨g, 3, none⟩ = some (.int .i64 t)) ((first | exact HK4.out.cells HD4.out | exact HK3.out.cells HD3.out | exact HK2.out.cells HD2.out)) ((first
          | (go_at_call 54; refine (door_tick.calls 3 x l t wd dw rt true _ _ _ _ _ (HT true).out).mono ?_; rintro e w2 ⟨rfl, hb⟩; have HK3 := Aside0.mk ((HK2.out.below ((Below.refl _ wc).drew)).below hb); have HG3 := Aside0.mk (grown_trans (grown_drew HG2.out) (grown_of_below hb (some mb))); have HD3 := Aside0.mk ((hb.block g hs2).trans HD2.out); have hgs2 := Nat.lt_of_lt_of_le hs2 hb.size; have f1 := HK3.out.cl)
          | (go_at_call 53; refine (HIH.out true _ (fun _ => by trivial) HK3.out).mono ?_; rintro e w3 ⟨rfl, hM3, hg3⟩; have HK4 := Aside0.mk (HK3.out.move hM3 hg3); have HG4 := Aside0.mk (grown_trans HG3.out hg3); have HD4 := Aside0.mk ((hg3.block g hgs2 (fun q => hgm (Option.some.inj q))).trans HD3.out))))
        all_goals go_wp2
        all_goals go_meet
        all_goals
          refine ⟨congrArg (Value.int .i64) ?_, HK4.out, HG4.out, HD4.out⟩
          have hA := HS.out.2.1 (by trivial)
          have hB := HS.out.2.2 (by trivial)
          have hw1 := (HW true).out
          have hw2 := (HW false).out
          have hC : dmostT (dtk 3 x l t wd dw rt true) wd dw rt = dmost 3 x l t wd dw rt - 1 ∨ dmostT (dtk 3 x l t wd dw rt false) wd dw rt = dmost 3 x l t wd dw rt - 1 := by
            cases hd : decide (x = 1 ∧ t < rt)
            · rw [hd] at hB; exact .inr hB
            · rw [hd] at hB; exact .inl hB
          omega
      case rest =>
        obtain ⟨rfl, hk, hg3, hd⟩ := hcut
        obtain ⟨w5, hput, hM5, hg5⟩ := memo_put hk.memo HV.out
        have HPUT := Aside0.mk hput
        have HM5 := Aside0.mk hM5
        have HG5 := Aside0.mk (grown_trans hg3 hg5)
        have c5 := hk.ck
        have d5 : wc.cell? ⟨g, 0, none⟩ = some (.int .i64 3) := (blk_cell hd 0).trans rfl
        have d6 : wc.cell? ⟨g, 1, none⟩ = some (.int .i64 x) := (blk_cell hd 1).trans rfl
        have d7 : wc.cell? ⟨g, 2, none⟩ = some (.int .i64 l) := (blk_cell hd 2).trans rfl
        have d8 : wc.cell? ⟨g, 3, none⟩ = some (.int .i64 t) := (blk_cell hd 3).trans rfl
        clear hput hM5 hg5 hk hg3 hd
        go_wp2_with (at_mapUpdate; refine wpList_mapUpdate_run rfl _ _ _ _ rfl _ _ _ rfl rfl rfl HPUT.out ?_)
        go_ret
        exact ⟨rfl, HM5.out, HG5.out⟩
    · have hb3 : (p == 3) = false := beq_eq_false_iff_ne.mpr hp3
      have hb4 : 1 + dmostT (dtk p x l t wd dw rt false) wd dw rt = dmost p x l t wd dw rt := by have := HS.out.1 hp3; omega
      rw [hb4]
      obtain ⟨w5, hput, hM5, hg5⟩ := memo_put HK2.out.memo HV.out
      have HPUT := Aside0.mk hput
      have HM5 := Aside0.mk hM5
      have HG5 := Aside0.mk hg5
      clear hput hM5 hg5
      go_wp2_with (at_mapUpdate; refine wpList_mapUpdate_run rfl _ _ _ _ rfl _ _ _ rfl rfl rfl HPUT.out ?_)
      go_ret
      exact ⟨rfl, HM5.out, grown_trans HG2.out HG5.out⟩

theorem longest_calls (mb bk bl br : Nat) (wd dw rt : Int) : ∀ (n : Nat) (p x l t : Int) (w : World), dV p x l t wd dw rt → dmost p x l t wd dw rt ≤ n → Known w mb bk bl br wd dw rt →
    Calls Try.prog 53 #[.agg #[.int .i64 p, .int .i64 x, .int .i64 l, .int .i64 t], .pointer (some ⟨bk, 0, none⟩), .pointer (some ⟨bl, 0, none⟩), .pointer (some ⟨br, 0, none⟩)] w
      fun e w' => e = .returned (.int .i64 (dmost p x l t wd dw rt)) ∧ Memo w' mb wd dw rt ∧ w.grownBy w' (some mb) := by
  intro n
  induction n with
  | zero =>
    intro p x l t w hV hn hK
    rcases memo_look hK.memo hV with h | ⟨hp, h⟩
    · exact longest_known p x l t w mb bk bl br wd dw rt hK h
    · have := dmost_bound hV
      exact absurd (this.2.2.1 (by omega)) hp
  | succ n ih =>
    intro p x l t w hV hn hK
    rcases memo_look hK.memo hV with h | ⟨hp, h⟩
    · exact longest_known p x l t w mb bk bl br wd dw rt hK h
    · refine longest_new p x l t w mb bk bl br wd dw rt hV hp hK h (fun o W ho hK' => ih _ _ _ _ W (dtk_ok o hV) ?_ hK')
      have hs := dmost_step hV hp
      have : dmostT (dtk p x l t wd dw rt o) wd dw rt ≤ dmost p x l t wd dw rt - 1 := by
        by_cases h3 : p = 3
        · cases o
          · exact (hs.2.1 h3).1
          · exact (hs.2.1 h3).2
        · cases o
          · exact Int.le_of_eq (hs.1 h3)
          · exact absurd (ho rfl) h3
      unfold dmostT at this
      omega

def door_Rest.f (a0_0 : Int) (a0_1 : Int) (a0_2 : Int) (a0_3 : Int) (a1_0 : Int) (a1_1 : Int) (a1_2 : Int) : Option (Int × Int × Int) :=
  if dchk a0_0 a0_1 a0_2 a0_3 a1_0 a1_1 a1_2 = 0 then some (dleast a0_0 a0_1 a0_2 a1_0 a1_1, dmost a0_0 a0_1 a0_2 a0_3 a1_0 a1_1 a1_2, 0) else some (0, 0, dchk a0_0 a0_1 a0_2 a0_3 a1_0 a1_1 a1_2)

theorem rest_bad (p x l t wd dw rt : Int) (w : World) (h : dchk p x l t wd dw rt ≠ 0) :
    Calls Try.prog 38 #[.agg #[.int .i64 p, .int .i64 x, .int .i64 l, .int .i64 t], .agg #[.int .i64 wd, .int .i64 dw, .int .i64 rt]] w
      fun e w' => e = .returned (.tuple #[.int .i64 0, .int .i64 0, .int .i64 (dchk p x l t wd dw rt)]) ∧ Below w.heap.size w w' := by
  have HC := Aside0.mk (door_Check_eq 0 p x l t wd dw rt)
  have hb1 : (dchk p x l t wd dw rt == 0) = false := beq_eq_false_iff_ne.mpr h
  have hb2 : (dchk p x l t wd dw rt != 0) = true := bne_iff_ne.mpr h
  go_enter Try.func38, Try.ntmps38
  go_wp2_with (go_at_call 36; refine (door_Check.calls 2 p x l t wd dw rt _ _ HC.out).mono ?_; rintro e w1 ⟨rfl, hb⟩; have HB := Aside0.mk hb; clear hb)
  refine bodyPost_ret (v := .tuple #[.int .i64 0, .int .i64 0, .int .i64 (dchk p x l t wd dw rt)]) (by simp [results, Try.results38, go_sem]) rfl ⟨rfl, ?_⟩
  exact below_step (((Below.refl _ w).alloc (Nat.le_refl _) _).alloc (by simp) _) HB.out

set_option maxHeartbeats 8000000 in
set_option maxRecDepth 100000 in
theorem rest_good (p x l t wd dw rt : Int) (w : World) (hV : dV p x l t wd dw rt) :
    Calls Try.prog 38 #[.agg #[.int .i64 p, .int .i64 x, .int .i64 l, .int .i64 t], .agg #[.int .i64 wd, .int .i64 dw, .int .i64 rt]] w
      fun e w' => e = .returned (.tuple #[.int .i64 (dleast p x l wd dw), .int .i64 (dmost p x l t wd dw rt), .int .i64 0]) ∧ Below w.heap.size w w' := by
  have hmf : ∀ (fn : Fn) (first cap : Array Value) (w : World), (Instr.makeFunc fn first cap).run Try.prog w = .ok (.func fn first cap) w := fun _ _ _ _ => rfl
  have hsf := fun (a : Addr) (k : Nat) (c d : Array Value) (w : World) => run_store Try.prog w a (.func (.func k) c d) .plain rfl
  have hmm := @run_makeMap Try.prog
  have HV := Aside0.mk hV
  have HC : Aside0 (door_Check.f 2 p x l t wd dw rt = some 0) := ⟨(door_Check_eq 0 p x l t wd dw rt).trans (congrArg some (dchk_zero.2 hV))⟩
  clear hV
  go_enter Try.func38, Try.ntmps38
  go_upto_region 4 with (go_at_call 36; refine (door_Check.calls 2 p x l t wd dw rt _ _ HC.out).mono ?_; rintro e w1 ⟨rfl, hb⟩; have HB := Aside0.mk hb; clear hb)
  have HD1 : Aside0 (w1.heap[w.heap.size]? = some (.cells #[.int .i64 p, .int .i64 x, .int .i64 l, .int .i64 t] 37)) := ⟨blk_below (blk_alloc (blk_new w _) _) HB.out⟩
  have HR1 : Aside0 (w1.heap[w.heap.size + 1]? = some (.cells #[.int .i64 wd, .int .i64 dw, .int .i64 rt] 23)) := ⟨blk_below (by have := blk_new (w.alloc (.cells #[.int .i64 p, .int .i64 x, .int .i64 l, .int .i64 t] 37)) (.cells #[.int .i64 wd, .int .i64 dw, .int .i64 rt] 23); rwa [World.size_alloc] at this) HB.out⟩
  have HB1 : Aside0 (Below w.heap.size w w1) := ⟨below_step (((Below.refl _ w).alloc (Nat.le_refl _) _).alloc (by simp) _) HB.out⟩
  have hs1 : w.heap.size + 2 ≤ w1.heap.size := by have := HB.out.size; simp at this; omega
  clear HB HC
  obtain ⟨mb, hmb⟩ : ∃ mb, mb = w1.heap.size := ⟨_, rfl⟩
  obtain ⟨w2, hput, hM2, hg2⟩ := memo_first (W := w1.alloc (.map #[] 0)) (mb := mb) wd dw rt (by rw [hmb]; exact blk_new w1 _) HV.out.rule
  have HM2 := Aside0.mk hM2
  have HG2 := Aside0.mk hg2
  have hs2 := hg2.size
  rw [World.size_alloc, ← hmb] at hs2
  clear hM2 hg2
  rw [hmb] at hput
  unfold dval at hput
  go_upto_region 7 with fail
  have HB2 : Aside0 (Below w.heap.size w w2) := ⟨(HB1.out.alloc (by omega) (.map #[] 0)).grown HG2.out (by simp; omega) (fun k e => by cases e; omega)⟩
  have HD2 : Aside0 (w2.heap[w.heap.size]? = some (.cells #[.int .i64 p, .int .i64 x, .int .i64 l, .int .i64 t] 37)) := ⟨(HG2.out.block _ (by simp; omega) (fun e => by cases e; omega)).trans (blk_alloc HD1.out _)⟩
  have HR2 : Aside0 (w2.heap[w.heap.size + 1]? = some (.cells #[.int .i64 wd, .int .i64 dw, .int .i64 rt] 23)) := ⟨(HG2.out.block _ (by simp; omega) (fun e => by cases e; omega)).trans (blk_alloc HR1.out _)⟩
  rw [← hmb]
  clear hput hmf hsf hmm HG2 HD1 HR1 HB1
  obtain ⟨g, hg⟩ : ∃ g, g = w.heap.size := ⟨_, rfl⟩
  obtain ⟨br, hbr⟩ : ∃ br, br = w.heap.size + 1 := ⟨_, rfl⟩
  obtain ⟨bk, hbk⟩ : ∃ bk, bk = w2.heap.size := ⟨_, rfl⟩
  obtain ⟨bl, hbl⟩ : ∃ bl, bl = w2.heap.size + 1 := ⟨_, rfl⟩
  rw [← hbr] at HR2
  rw [← hg] at HD2
  rw [← hbr, ← hbl, ← hbk, ← hg]
  have HK3 : Aside0 (Known ((w2.alloc (.cells #[.map (some mb)] 78)).alloc (.cells #[.func (.func 53) #[] #[.pointer (some ⟨bk, 0, none⟩), .pointer (some ⟨bl, 0, none⟩), .pointer (some ⟨br, 0, none⟩)]] 79)) mb bk bl br wd dw rt) := by
    have q1 : ∀ o o2, ((w2.alloc o).alloc o2).heap[bk]? = some o := fun o o2 => by rw [hbk]; exact blk_alloc (blk_new w2 o) o2
    have q2 : ∀ o o2, ((w2.alloc o).alloc o2).heap[bl]? = some o2 := fun o o2 => by have := blk_new (w2.alloc o) o2; rw [World.size_alloc] at this; rw [hbl]; exact this
    have hmm2 : mb < w2.heap.size := by omega
    exact ⟨⟨(HM2.out.move ((Below.heap_alloc _ _ mb (by simp; omega)).trans (Below.heap_alloc _ _ mb hmm2))), ⟨by simp; omega, by omega⟩, ⟨by simp; omega, by omega⟩, ⟨by simp; omega, by omega⟩,
      (blk_cell (q1 _ _) 0).trans rfl, (blk_cell (q2 _ _) 0).trans rfl, (blk_cell (blk_alloc (blk_alloc HR2.out _) _) 0).trans rfl, (blk_cell (blk_alloc (blk_alloc HR2.out _) _) 1).trans rfl, (blk_cell (blk_alloc (blk_alloc HR2.out _) _) 2).trans rfl⟩⟩
  have HD3 := Aside0.mk (fun o o2 => blk_alloc (blk_alloc HD2.out o) o2)
  have HR3 := Aside0.mk (fun o o2 => blk_alloc (blk_alloc HR2.out o) o2)
  have HB3 := Aside0.mk (fun o o2 => below_alloc (below_alloc HB2.out o) o2)
  have hgm : g ≠ mb := by omega
  have hbrm : br ≠ mb := by omega
  have hgb : g ≠ br := by omega
  have hmw : w.heap.size ≤ mb := by omega
  obtain ⟨n, hn⟩ : ∃ n : Nat, dmost p x l t wd dw rt = n := ⟨(dmost p x l t wd dw rt).toNat, by have := dmost_bound HV.out; omega⟩
  have HN := Aside0.mk (Int.le_of_eq hn)
  obtain ⟨m, hm⟩ : ∃ m : Nat, dleast p x l wd dw = m := ⟨(dleast p x l wd dw).toNat, by have := dleast_bound HV.out; omega⟩
  have hm600 : m ≤ 600 := by have := dleast_bound HV.out; omega
  clear hn HD2 HR2 HB2 HM2 hmb
  generalize hW3 : (w2.alloc (.cells #[.map (some mb)] 78)).alloc (.cells #[.func (.func 53) #[] #[.pointer (some ⟨bk, 0, none⟩), .pointer (some ⟨bl, 0, none⟩), .pointer (some ⟨br, 0, none⟩)]] 79) = w3 at HK3 ⊢
  have HD4 : Aside0 (w3.heap[g]? = some (.cells #[.int .i64 p, .int .i64 x, .int .i64 l, .int .i64 t] 37)) := ⟨hW3 ▸ HD3.out _ _⟩
  have HR4 : Aside0 (w3.heap[br]? = some (.cells #[.int .i64 wd, .int .i64 dw, .int .i64 rt] 23)) := ⟨hW3 ▸ HR3.out _ _⟩
  have HB4 : Aside0 (Below w.heap.size w w3) := ⟨hW3 ▸ HB3.out _ _⟩
  have hgw : w.heap.size ≤ g := by omega
  clear HD3 HR3 HB3 hW3 hs1 hs2 hbk hbl hg hbr
  have e1 := HK3.out.cl
  have d0 : w3.cell? ⟨g, 0, none⟩ = some (.int .i64 p) := (blk_cell HD4.out 0).trans rfl
  have d1 : w3.cell? ⟨g, 1, none⟩ = some (.int .i64 x) := (blk_cell HD4.out 1).trans rfl
  have d2 : w3.cell? ⟨g, 2, none⟩ = some (.int .i64 l) := (blk_cell HD4.out 2).trans rfl
  have d3 : w3.cell? ⟨g, 3, none⟩ = some (.int .i64 t) := (blk_cell HD4.out 3).trans rfl
  go_wp2_with (go_at_call 53; refine (longest_calls mb bk bl br wd dw rt n p x l t _ HV.out HN.out HK3.out).mono ?_; rintro e w4 ⟨rfl, hM, hgr⟩; have HD5 := Aside0.mk ((hgr.block g (blk_lt HD4.out) (fun q => hgm (Option.some.inj q))).trans HD4.out); have HR5 := Aside0.mk ((hgr.block br (blk_lt HR4.out) (fun q => hbrm (Option.some.inj q))).trans HR4.out); have HB5 := Aside0.mk (HB4.out.grown hgr HB4.out.size (fun k e => by cases e; exact hmw)); clear hM hgr e1 d0 d1 d2 d3)
  go_loopw [4] (fun v wr => ∃ (k : Nat) (p' x' l' t' : Int), v = .int .i64 k ∧ Aside0 (dV p' x' l' t' wd dw rt) ∧ Aside0 ((k : Int) + dleast p' x' l' wd dw = m) ∧ Aside0 (wr.heap[g]? = some (.cells #[.int .i64 p', .int .i64 x', .int .i64 l', .int .i64 t'] 37)) ∧ Aside0 (wr.heap[br]? = some (.cells #[.int .i64 wd, .int .i64 dw, .int .i64 rt] 23)) ∧ Aside0 (Below w.heap.size w wr)) (fun v _ => m - (intOf v).toNat)
  case atStart => exact ⟨0, p, x, l, t, rfl, HV, ⟨by rw [hm]; simp⟩, HD5, HR5, HB5⟩
  case round =>
    obtain ⟨k, p', x', l', t', rfl, JV, JL, JD, JR, JB⟩ := hrel
    have d0 : wr.cell? ⟨g, 0, none⟩ = some (.int .i64 p') := (blk_cell JD.out 0).trans rfl
    have d1 : wr.cell? ⟨g, 1, none⟩ = some (.int .i64 x') := (blk_cell JD.out 1).trans rfl
    have d2 : wr.cell? ⟨g, 2, none⟩ = some (.int .i64 l') := (blk_cell JD.out 2).trans rfl
    have d3 : wr.cell? ⟨g, 3, none⟩ = some (.int .i64 t') := (blk_cell JD.out 3).trans rfl
    have e2 : wr.cell? ⟨br, 0, none⟩ = some (.int .i64 wd) := (blk_cell JR.out 0).trans rfl
    have e3 : wr.cell? ⟨br, 1, none⟩ = some (.int .i64 dw) := (blk_cell JR.out 1).trans rfl
    have e4 : wr.cell? ⟨br, 2, none⟩ = some (.int .i64 rt) := (blk_cell JR.out 2).trans rfl
    have hbd := dleast_bound JV.out
    have hkm : (k : Int) ≤ m := by have := JL.out; omega
    by_cases hp : p' = 0
    · subst hp
      have hk : k = m := by have := JL.out; have := hbd.2.2.2 rfl; omega
      subst hk
      go_wp2
      refine bodyPost_ret (v := .tuple #[.int .i64 (dleast p x l wd dw), .int .i64 (dmost p x l t wd dw rt), .int .i64 0]) (by simp [results, Try.results38, go_sem, hm]) rfl ⟨by rw [hm], JB.out⟩
    · have hpb : (p' != 0) = true := bne_iff_ne.mpr hp
      have hpc : (p' == 0) = false := beq_eq_false_iff_ne.mpr hp
      have HT : Aside0 (door_tick.f p' x' l' t' wd dw rt false = some ((dtk p' x' l' t' wd dw rt false).1, (dtk p' x' l' t' wd dw rt false).2.1, (dtk p' x' l' t' wd dw rt false).2.2.1, (dtk p' x' l' t' wd dw rt false).2.2.2)) := ⟨door_tick_eq p' x' l' t' wd dw rt false JV.out⟩
      have HS := Aside0.mk (dleast_step JV.out hp)
      have HV2 := Aside0.mk (dtk_ok false JV.out)
      have hkl : k < m := by have := JL.out; have h0 : dleast p' x' l' wd dw ≠ 0 := fun q => hp (hbd.2.2.1 q); omega
      clear hbd
      go_wp2_with (go_at_call 54; refine (door_tick.calls p' x' l' t' wd dw rt false _ _ _ _ _ HT.out).mono ?_; rintro e w5 ⟨rfl, hb⟩; have JD2 := Aside0.mk ((hb.block g (blk_lt JD.out)).trans JD.out); have JR2 := Aside0.mk ((hb.block br (blk_lt JR.out)).trans JR.out); have JB2 := Aside0.mk (below_step JB.out hb); clear d0 d1 d2 d3 e2 e3 e4 hb; have d0 := blk_cell JD2.out 0; have d1 := blk_cell JD2.out 1; have d2 := blk_cell JD2.out 2; have d3 := blk_cell JD2.out 3; simp at d0 d1 d2 d3; have f0 := blk_frozen JD2.out 0; have f1 := blk_frozen JD2.out 1; have f2 := blk_frozen JD2.out 2; have f3 := blk_frozen JD2.out 3)
      go_roundw
      case rel =>
        refine ⟨k + 1, (dtk p' x' l' t' wd dw rt false).1, (dtk p' x' l' t' wd dw rt false).2.1, (dtk p' x' l' t' wd dw rt false).2.2.1, (dtk p' x' l' t' wd dw rt false).2.2.2, by go_num, HV2, ⟨by have := HS.out; have := JL.out; omega⟩, ⟨?_⟩, ⟨?_⟩, ⟨?_⟩⟩
        · refine blk_put (cs := #[.int .i64 (dtk p' x' l' t' wd dw rt false).1, .int .i64 (dtk p' x' l' t' wd dw rt false).2.1, .int .i64 (dtk p' x' l' t' wd dw rt false).2.2.1, .int .i64 t']) ?_ 3 _ rfl
          refine blk_put (cs := #[.int .i64 (dtk p' x' l' t' wd dw rt false).1, .int .i64 (dtk p' x' l' t' wd dw rt false).2.1, .int .i64 l', .int .i64 t']) ?_ 2 _ rfl
          refine blk_put (cs := #[.int .i64 (dtk p' x' l' t' wd dw rt false).1, .int .i64 x', .int .i64 l', .int .i64 t']) ?_ 1 _ rfl
          exact blk_put (cs := #[.int .i64 p', .int .i64 x', .int .i64 l', .int .i64 t']) JD2.out 0 _ rfl
        · exact blk_far (blk_far (blk_far (blk_far JR2.out hgb.symm _) hgb.symm _) hgb.symm _) hgb.symm _
        · exact below_set (below_set (below_set (below_set JB2.out hgw) hgw) hgw) hgw
      case measure => simp [intOf]; omega

theorem door_Rest.calls (a0_0 : Int) (a0_1 : Int) (a0_2 : Int) (a0_3 : Int) (a1_0 : Int) (a1_1 : Int) (a1_2 : Int) (r1 : Int) (r2 : Int) (r3 : Int) (w : World) (h : door_Rest.f a0_0 a0_1 a0_2 a0_3 a1_0 a1_1 a1_2 = some (r1, r2, r3)) :
    Calls Try.prog 38 #[.agg #[.int .i64 a0_0, .int .i64 a0_1, .int .i64 a0_2, .int .i64 a0_3], .agg #[.int .i64 a1_0, .int .i64 a1_1, .int .i64 a1_2]] w fun e w' => e = .returned (.tuple #[.int .i64 r1, .int .i64 r2, .int .i64 r3]) ∧ Below w.heap.size w w' := by
  unfold door_Rest.f at h
  by_cases hc : dchk a0_0 a0_1 a0_2 a0_3 a1_0 a1_1 a1_2 = 0
  · rw [if_pos hc] at h
    simp only [Option.some.injEq, Prod.mk.injEq] at h
    obtain ⟨rfl, rfl, rfl⟩ := h
    exact rest_good _ _ _ _ _ _ _ w (dchk_zero.1 hc)
  · rw [if_neg hc] at h
    simp only [Option.some.injEq, Prod.mk.injEq] at h
    obtain ⟨rfl, rfl, rfl⟩ := h
    exact rest_bad _ _ _ _ _ _ _ w hc
end Go.Proofs.Ytmjmdnpenpdmhaa.P
