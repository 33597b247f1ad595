import Derived.Test.YtmdcjmackhjchaaZat
import Derived.Test.YtmdcjmackhjchaaZav
import Derived.Test.YtmdcjmackhjchaaZad
section
/- tipstafflaw41.BoundGrows, walked by hand over what its calls answer. -/
namespace Go.Proofs.Ytmdcjmackhjchaa.P
open Go.RowKit Go.Proofs.YtmdcjmackhjchaaW.PrintWords Go.Proofs.YtmdcjmackhjchaaW.PrintLast Go.Proofs.YtmdcjmackhjchaaW.PrintMore
attribute [local go_sem] cell_same1 cell_some1 ix27_0 ix27_1 ix27_2
set_option linter.unusedVariables false
set_option linter.unusedSimpArgs false

abbrev z25 : Array Value := #[.int .i64 0, .slice none 0 0, .int .i64 0, .int .i64 0, .int .i64 0, .int .i64 0, .int .i64 0, .int .i64 0, .int .i64 0, .int .i64 0, .int .i64 0, .int .i64 0, .int .i64 0, .slice none 0 0, .int .u64 0, .int .i64 0, .int .i64 0, .int .u64 0, .int .i64 0, .int .i64 0, .int .u64 0, .int .i64 0, .int .i64 0, .slice none 0 0, .int .i64 0]

section
variable {P : Program} {ops : Array Oper} {Q : Exit → Act → World → Prop} {md : Region.Mode} {S : World → Prop} {L : Nat}
theorem wj_node {fuel : Nat} {listed : Array Bool} {a : Act} {w : World} (l : List Nat) (hr : Region.ready md ops listed = l) (hl : l ≠ [])
  (h : ∀ i ∈ l, wpOp P ops Q i (fun a' w' => ((listed.setIfInBounds i true).getD L false = false → S w') ∧ wpAnyJ P md ops Q S L fuel (listed.setIfInBounds i true) a' w') a w) : wpAnyJ P md ops Q S L (fuel + 1) listed a w :=
 ⟨fun h0 => absurd (hr.symm.trans h0) hl, fun i hi => h i (hr ▸ hi)⟩
theorem wo_call {i : Nat} {o : Oper} {N : Option Tmp} {K : Act → World → Prop} {a : Act} {w : World} {f : FuncId} {fn : Func} {ag : Array Operand} {ts : Array TypeId} (ho : ops[i]? = some o) (hf : P.funcs[f]? = some fn) (hname : (fn.name == "runtime.NumGoroutine") = false) (hb : fn.body.isSome = true) (args : Array Value)
  (hw : Region.wanted o (yielded ops a.tmps) = true) (hN : o.dst = N) (hop : o.op = .call { callee := .value (.func f), args := ag, argTypes := ts }) (hargs : ag.map a.eval = args)
  (h : Calls P f args w fun e w' => ∃ v, e = .returned v ∧ K (a.put N v) w') : wpOp P ops Q i K a w := by
 subst hN
 exact wpOp_step ho (fun K' hK => goes_ hf hname hb args hw rfl hop hargs (h.mono (fun e w' z => by obtain ⟨v, e1, k⟩ := z; exact ⟨v, e1, hK _ _ k⟩)))
theorem wo_run {i : Nat} {o : Oper} {v : Value} {K : Act → World → Prop} {a : Act} {w w1 : World} (ho : ops[i]? = some o) (hw : Region.wanted o (yielded ops a.tmps) = true)
  (hrun : (execOp a.eval o).run P w = .ok (.value v) w1) (h : K (a.put o.dst v) w1) : wpOp P ops Q i K a w := by
 refine wpOp_step ho (fun K' hK => ?_)
 rw [if_pos hw]
 unfold Oper.wp
 rw [hrun]
 exact hK _ _ h
theorem wo_alloc {i : Nat} {o : Oper} {N : Option Tmp} {cs : Array Value} {t : TypeId} {K : Act → World → Prop} {a : Act} {w : World} (ho : ops[i]? = some o) (hw : Region.wanted o (yielded ops a.tmps) = true)
  (hrun : (execOp a.eval o).run P w = .ok (.value (.pointer (some ⟨w.heap.size, 0, none⟩))) (w.alloc (.cells cs t (0, 0)))) (hN : o.dst = N)
  (h : ∀ g, g = w.heap.size → ∀ w1, w1.heap[g]? = some (.cells cs t (0, 0)) → Below w.heap.size w w1 → K (a.put N (.pointer (some ⟨g, 0, none⟩))) w1) : wpOp P ops Q i K a w := by
 subst hN
 exact wo_run ho hw hrun (h _ rfl _ (blk_new w _) (below_alloc (Below.refl _ _) _))
theorem wo_store {i : Nat} {o : Oper} {K : Act → World → Prop} {a : Act} {W : World} {g : Nat} {us : Array Value} {vs : List Value} {t : TypeId} {x y : Operand} (ho : ops[i]? = some o) (hw : Region.wanted o (yielded ops a.tmps) = true) (hb : W.heap[g]? = some (.cells us t (0, 0)))
  (h : ∀ W', W'.heap[g]? = some (.cells vs.toArray t (0, 0)) → (∀ k, k ≠ g → W'.heap[k]? = W.heap[k]?) → (∀ n w0, Below n w0 W → n ≤ g → Below n w0 W') → K (a.put none undef) W')
  (hs : us.size = vs.length) (hop : o.op = .store t x y) (hd : o.dst = none) (hx : a.eval x = .pointer (some ⟨g, 0, none⟩)) (hy : a.eval y = .agg vs.toArray)
  (hi : (P.info? t).map (·.size) = some vs.length) (h1 : vs.all (·.oneCell') = true) : wpOp P ops Q i K a W := by
 have hset : ∀ (l : List Value) (i n : Nat) (w0 V : World), Below n w0 V → n ≤ g → Below n w0 (V.setCells g i l) := by
  intro l
  induction l with
  | nil => intro i n w0 V h _; exact h
  | cons v r ih => intro i n w0 V h hn; exact ih (i + 1) n w0 _ (h.setCell hn _) hn
 refine wpOp_step ho (fun K' hK => ?_)
 rw [if_pos hw]
 refine wp_store_mid t x y hop g 0 vs.toArray hx hy ?_ (by simpa using hi) (by rw [List.all_toArray]; exact h1) (hK _ _ ?_)
 ·intro j hj
  refine ⟨?_, blk_frozen hb _⟩
  rw [blk_cell hb]
  have hj2 : 0 + j < us.size := by rw [hs]; simpa using hj
  rw [Array.getElem?_eq_getElem hj2]
  rfl
 ·rw [hd]
  obtain ⟨cur, h3, h4, h5⟩ := setCells_row (g := g) vs 0 W us hb (by omega)
  have hc : cur = vs.toArray := by
   apply Array.toList_inj.mp
   rw [h5, List.take_zero, List.nil_append, List.drop_eq_nil_of_le (by rw [Array.length_toList]; omega), List.append_nil]
  rw [hc] at h3
  exact h _ h3 (fun k hk => setCells_far vs 0 k hk) (fun n w0 hn hng => hset vs 0 n w0 W hn hng)
theorem yload {g : Nat} {cs : List Value} {t : TypeId} {x : Operand} {d : TypeDesc} {o : Oper} {a : Act} (hw : Region.wanted o (yielded ops a.tmps) = true) (ho : o.op = .load t x)
  (hx : a.eval x = .pointer (some ⟨g, 0, none⟩)) (hu : P.underlying t = some d) (hdr : d.isRow = true) (hi : (P.info? t).map (·.size) = some cs.length) :
  YieldsIf P ops (fun W => W.heap[g]? = some (.cells cs.toArray t (0, 0))) o (.agg cs.toArray) a :=
 yieldsIf_load_mid hw t x ho g 0 hx cs d (fun w hb j v hj => by rw [Nat.zero_add, blk_cell hb j]; simpa using hj) hu hdr hi
end
/-- The calls of a domain, one more. -/
def bump (D : Int) (x : Cfg) : Cfg := if D = 1 then { x with k0 := wrap64 (x.k0 + 1) } else if D = 2 then { x with k1 := wrap64 (x.k1 + 1) } else { x with k2 := wrap64 (x.k2 + 1) }
/-- A slot more. -/
def grow (y : Cfg) : Cfg := { y with slots := wrap64 (y.slots + 1) }
/-- Their cells. -/
@[irreducible] def xcells (D : Int) (x : Cfg) : Array Value := (bump D x).cells
@[irreducible] def gcells (y : Cfg) : Array Value := (grow y).cells
theorem xcells_1 (x : Cfg) : x.cells.setIfInBounds 16 (.int .i64 (wrap64 (x.k0 + 1))) = xcells 1 x := by unfold xcells; rfl
theorem xcells_2 (x : Cfg) : x.cells.setIfInBounds 19 (.int .i64 (wrap64 (x.k1 + 1))) = xcells 2 x := by unfold xcells; rfl
theorem xcells_3 (x : Cfg) : x.cells.setIfInBounds 22 (.int .i64 (wrap64 (x.k2 + 1))) = xcells 3 x := by unfold xcells; rfl
theorem gcells_of (y : Cfg) : y.cells.setIfInBounds 12 (.int .i64 (wrap64 (y.slots + 1))) = gcells y := by unfold gcells; rfl
theorem gcells_13 (y : Cfg) (v : Value) (h : y.rota = v) : (gcells y)[13]? = some v := by unfold gcells; rw [← h]; rfl
/-- What is known of the two copies: x lies in blocks b1 to e1, y's rota in blocks from b2 on. -/
structure R6 (F G : Cfg → (Nat → Prop) → World → Prop) (wr : World) (x y : Cfg) (t : List (List Int)) (xs ys : Array Value) (g9 g10 b1 e1 b2 e2 : Nat) (okg : Nat → Prop) (W : World) : Prop where
 hr : Below wr.heap.size wr W
 c9 : W.heap[g9]? = some (.cells xs 29 (0, 0))
 c10 : W.heap[g10]? = some (.cells ys 29 (0, 0))
 fx : F x (fun k => b1 ≤ k ∧ k < e1) W
 gy : G y okg W
 sy : Kd.S (Kd.slice 3 (Kd.int .i64)) 22 W wr.heap.size (fun k => b2 ≤ k ∧ k ≠ g9 ∧ k ≠ g10 ∧ ¬ okg k) y.rota t
 l9 : wr.heap.size ≤ g9
 l10 : wr.heap.size ≤ g10
 n : g9 ≠ g10
 lb : wr.heap.size ≤ b1 ∧ b1 ≤ e1 ∧ e1 ≤ b2 ∧ b2 ≤ e2 ∧ e2 ≤ W.heap.size
 x9 : g9 < b1 ∨ e1 ≤ g9
 x10 : g10 < b1 ∨ e1 ≤ g10
 og : ∀ k, okg k → b2 ≤ k ∧ k < e2 ∧ k ≠ g9 ∧ k ≠ g10
section
variable {F G : Cfg → (Nat → Prop) → World → Prop} {wr : World} {x y : Cfg} {t t' : List (List Int)} {xs ys xs' ys' : Array Value} {g9 g10 b1 e1 b2 e2 : Nat} {okg : Nat → Prop} {W W' : World}
theorem R6.set9 (h : R6 F G wr x y t xs ys g9 g10 b1 e1 b2 e2 okg W) (HF : ∀ c ok W W', F c ok W → (∀ k, ok k → W'.heap[k]? = W.heap[k]?) → F c ok W') (HG : ∀ c ok W W', G c ok W → (∀ k, ok k → W'.heap[k]? = W.heap[k]?) → G c ok W')
  (h9 : W'.heap[g9]? = some (.cells xs' 29 (0, 0))) (far : ∀ k, k ≠ g9 → W'.heap[k]? = W.heap[k]?) (hb : ∀ n w0, Below n w0 W → n ≤ g9 → Below n w0 W') : R6 F G wr x y t xs' ys g9 g10 b1 e1 b2 e2 okg W' where
 hr := hb _ _ h.hr h.l9
 c9 := h9
 c10 := (far _ (Ne.symm h.n)).trans h.c10
 fx := HF _ _ _ _ h.fx (fun k hk => far k (by have := h.x9; omega))
 gy := HG _ _ _ _ h.gy (fun k hk => far k (h.og k hk).2.2.1)
 sy := Kd.S_step h.sy (fun k hk _ => far k hk.2.1)
 l9 := h.l9
 l10 := h.l10
 n := h.n
 lb := ⟨h.lb.1, h.lb.2.1, h.lb.2.2.1, h.lb.2.2.2.1, Nat.le_trans h.lb.2.2.2.2 (hb _ _ (Below.refl g9 W) (Nat.le_refl _)).size⟩
 x9 := h.x9
 x10 := h.x10
 og := h.og
theorem R6.set10 (h : R6 F G wr x y t xs ys g9 g10 b1 e1 b2 e2 okg W) (HF : ∀ c ok W W', F c ok W → (∀ k, ok k → W'.heap[k]? = W.heap[k]?) → F c ok W') (HG : ∀ c ok W W', G c ok W → (∀ k, ok k → W'.heap[k]? = W.heap[k]?) → G c ok W')
  (h10 : W'.heap[g10]? = some (.cells ys' 29 (0, 0))) (far : ∀ k, k ≠ g10 → W'.heap[k]? = W.heap[k]?) (hb : ∀ n w0, Below n w0 W → n ≤ g10 → Below n w0 W') : R6 F G wr x y t xs ys' g9 g10 b1 e1 b2 e2 okg W' where
 hr := hb _ _ h.hr h.l10
 c9 := (far _ h.n).trans h.c9
 c10 := h10
 fx := HF _ _ _ _ h.fx (fun k hk => far k (by have := h.x10; omega))
 gy := HG _ _ _ _ h.gy (fun k hk => far k (h.og k hk).2.2.2)
 sy := Kd.S_step h.sy (fun k hk _ => far k hk.2.2.1)
 l9 := h.l9
 l10 := h.l10
 n := h.n
 lb := ⟨h.lb.1, h.lb.2.1, h.lb.2.2.1, h.lb.2.2.2.1, Nat.le_trans h.lb.2.2.2.2 (hb _ _ (Below.refl g10 W) (Nat.le_refl _)).size⟩
 x9 := h.x9
 x10 := h.x10
 og := h.og
theorem R6.cell9 (h : R6 F G wr x y t xs ys g9 g10 b1 e1 b2 e2 okg W) (HF : ∀ c ok W W', F c ok W → (∀ k, ok k → W'.heap[k]? = W.heap[k]?) → F c ok W') (HG : ∀ c ok W W', G c ok W → (∀ k, ok k → W'.heap[k]? = W.heap[k]?) → G c ok W')
  (i : Nat) (u : Value) (e : xs.setIfInBounds i u = xs') : R6 F G wr x y t xs' ys g9 g10 b1 e1 b2 e2 okg (W.setCell ⟨g9, i, none⟩ u) :=
 h.set9 HF HG (e ▸ blk_set h.c9 i u) (fun k hk => Below.heap_setCell W ⟨g9, i, none⟩ u k hk) (fun n w0 hn hng => hn.setCell hng _)
theorem R6.cell10 (h : R6 F G wr x y t xs ys g9 g10 b1 e1 b2 e2 okg W) (HF : ∀ c ok W W', F c ok W → (∀ k, ok k → W'.heap[k]? = W.heap[k]?) → F c ok W') (HG : ∀ c ok W W', G c ok W → (∀ k, ok k → W'.heap[k]? = W.heap[k]?) → G c ok W')
  (i : Nat) (u : Value) (e : ys.setIfInBounds i u = ys') : R6 F G wr x y t xs ys' g9 g10 b1 e1 b2 e2 okg (W.setCell ⟨g10, i, none⟩ u) :=
 h.set10 HF HG (e ▸ blk_set h.c10 i u) (fun k hk => Below.heap_setCell W ⟨g10, i, none⟩ u k hk) (fun n w0 hn hng => hn.setCell hng _)
theorem R6.below (h : R6 F G wr x y t xs ys g9 g10 b1 e1 b2 e2 okg W) (HF : ∀ c ok W W', F c ok W → (∀ k, ok k → W'.heap[k]? = W.heap[k]?) → F c ok W') (HG : ∀ c ok W W', G c ok W → (∀ k, ok k → W'.heap[k]? = W.heap[k]?) → G c ok W')
  (hb : Below W.heap.size W W') : R6 F G wr x y t xs ys g9 g10 b1 e1 b2 e2 okg W' where
 hr := below_step h.hr hb
 c9 := blk_below h.c9 hb
 c10 := blk_below h.c10 hb
 fx := HF _ _ _ _ h.fx (fun k hk => hb.block k (by have := h.lb; omega))
 gy := HG _ _ _ _ h.gy (fun k hk => hb.block k (Nat.lt_of_lt_of_le (h.og k hk).2.1 h.lb.2.2.2.2))
 sy := Kd.S_below h.sy hb
 l9 := h.l9
 l10 := h.l10
 n := h.n
 lb := ⟨h.lb.1, h.lb.2.1, h.lb.2.2.1, h.lb.2.2.2.1, Nat.le_trans h.lb.2.2.2.2 hb.size⟩
 x9 := h.x9
 x10 := h.x10
 og := h.og
theorem R6.row (h : R6 F G wr x y t xs ys g9 g10 b1 e1 b2 e2 okg W) (HF : ∀ c ok W W', F c ok W → (∀ k, ok k → W'.heap[k]? = W.heap[k]?) → F c ok W') (HG : ∀ c ok W W', G c ok W → (∀ k, ok k → W'.heap[k]? = W.heap[k]?) → G c ok W')
  (hb : Below wr.heap.size wr W') (hk : ∀ k, k < W.heap.size → ¬ (b2 ≤ k ∧ k ≠ g9 ∧ k ≠ g10 ∧ ¬ okg k) → W'.heap[k]? = W.heap[k]?) (hsz : W.heap.size ≤ W'.heap.size)
  (hs : Kd.S (Kd.slice 3 (Kd.int .i64)) 22 W' wr.heap.size (fun k => b2 ≤ k ∧ k ≠ g9 ∧ k ≠ g10 ∧ ¬ okg k) y.rota t') : R6 F G wr x y t' xs ys g9 g10 b1 e1 b2 e2 okg W' where
 hr := hb
 c9 := (hk _ (blk_lt h.c9) (fun z => z.2.1 rfl)).trans h.c9
 c10 := (hk _ (blk_lt h.c10) (fun z => z.2.2.1 rfl)).trans h.c10
 fx := HF _ _ _ _ h.fx (fun k q => hk k (by have := h.lb; omega) (fun z => by have := h.lb; omega))
 gy := HG _ _ _ _ h.gy (fun k q => hk k (Nat.lt_of_lt_of_le (h.og k q).2.1 h.lb.2.2.2.2) (fun z => z.2.2.2 q))
 sy := hs
 l9 := h.l9
 l10 := h.l10
 n := h.n
 lb := ⟨h.lb.1, h.lb.2.1, h.lb.2.2.1, h.lb.2.2.2.1, Nat.le_trans h.lb.2.2.2.2 hsz⟩
 x9 := h.x9
 x10 := h.x10
 og := h.og
theorem R6.fresh (h : R6 F G wr x y t xs ys g9 g10 b1 e1 b2 e2 okg W) : ∀ k, W.heap.size ≤ k → b2 ≤ k ∧ k ≠ g9 ∧ k ≠ g10 ∧ ¬ okg k := fun k hk => by
 have z := h.lb
 have z1 := blk_lt h.c9
 have z2 := blk_lt h.c10
 exact ⟨by omega, by omega, by omega, fun q => by have := h.og k q; omega⟩
end
theorem cell_at_block {W W1 : World} {p : Addr} (h : W1.heap[p.block]? = W.heap[p.block]?) : W1.cell? p = W.cell? p := by simp [World.cell?, h]
theorem frozen_at_block {W W1 : World} {p : Addr} (h : W1.heap[p.block]? = W.heap[p.block]?) : W1.frozen? p = W.frozen? p := by simp [World.frozen?, h]
theorem cell_below {W W1 : World} {p : Addr} {v : Value} (h : W.cell? p = some v) (hb : Below W.heap.size W W1) : W1.cell? p = some v := (hb.cell (World.block_lt_of_cell? W _ h)).trans h
/-- Row i of a table of one's own, lent for an append and laid back. -/
theorem row_lend {W : World} {base g n cap i : Nat} {ok : Nat → Prop} {xs : List (List Int)} (h : Kd.S (Kd.slice 3 (Kd.int .i64)) 22 W base ok (.slice (some ⟨g, 0, none⟩) n cap) xs) (hi : i < n) (hfresh : ∀ k, W.heap.size ≤ k → ok k) (hg : g < W.heap.size) :
  ∃ (v : Value) (ok1 : Nat → Prop), W.cell? ⟨g, i, none⟩ = some v ∧ W.frozen? ⟨g, i, none⟩ = false ∧ (Kd.int .i64).R 3 W base ok1 v (xs.getD i []) ∧ (∀ k, W.heap.size ≤ k → ok1 k) ∧ (∀ k, ok1 k → ok k ∧ k ≠ g) ∧
   ∀ w1 v1, W.grownBy w1 v.ownBlock → (Kd.int .i64).R 3 w1 base ok1 v1 (xs.getD i [] ++ [0]) →
    Kd.S (Kd.slice 3 (Kd.int .i64)) 22 (w1.setCell ⟨g, i, none⟩ v1) base ok (.slice (some ⟨g, 0, none⟩) n cap) (xs.set i (xs.getD i [] ++ [0])) := by
 obtain ⟨oki, c, hcl, hM, hcc, hfr, hoki, hH⟩ := Kd.S_elem h [] (i : Int) (by omega) (by omega)
 obtain ⟨v, rfl, hR⟩ := hM
 have hsz : (Kd.slice 3 (Kd.int .i64)).sz = 1 := rfl
 simp only [Int.toNat_natCast, hsz, Nat.mul_one] at hcc hfr hR
 refine ⟨v, fun k => oki k ∨ ok k ∧ W.heap.size ≤ k, ?_, ?_, Kd.R_mono hR (fun k hk => .inl hk), fun k hk => .inr ⟨hfresh k hk, hk⟩, ?_, ?_⟩
 ·exact hcc 0 v rfl
 ·exact hfr 0
 ·rintro k (hk | hk)
  ·exact hoki k hk
  ·exact ⟨hk.1, by omega⟩
 ·intro w1 v1 hgr hR1
  have hH1 := Kd.H_grown (Kd.H_widen hH) hgr (fun k hk => .inl (hR.1 k hk))
  have z := (Kd.S_seg0 (seg := [v1]) (j := 0) (x' := xs.getD i [] ++ [0]) (okp := fun k => oki k ∨ ok k ∧ W.heap.size ≤ k) hH1 (by omega) (by omega) (by simp [hsz]) ⟨v1, by simp, hR1⟩ (fun k hk => hk)).1
  simpa [World.setCells, hsz] using z
/-- A slot more in the first i rows. -/
def upd (t : List (List Int)) (i : Nat) : List (List Int) := (t.take i).map (· ++ [0]) ++ t.drop i
theorem upd_zero (t : List (List Int)) : upd t 0 = t := by simp [upd]
theorem upd_all (t : List (List Int)) : upd t t.length = t.map (· ++ [0]) := by simp [upd]
theorem upd_at (t : List (List Int)) (i : Nat) (h : i < t.length) : (upd t i).getD i [] = t[i] := by
 have e : ((t.take i).map (· ++ [0])).length = i := by simp; omega
 unfold upd
 rw [List.getD_eq_getElem?_getD, List.getElem?_append_right (by omega), e, Nat.sub_self, List.getElem?_drop, Nat.add_zero, List.getElem?_eq_getElem h]
 rfl
theorem upd_succ (t : List (List Int)) (i : Nat) (h : i < t.length) : (upd t i).set i ((upd t i).getD i [] ++ [0]) = upd t (i + 1) := by
 have e : ((t.take i).map (· ++ [0])).length = i := by simp; omega
 rw [upd_at t i h]
 unfold upd
 rw [List.set_append_right _ _ (by omega), e, Nat.sub_self, List.drop_eq_getElem_cons h, List.set_cons_zero, List.take_succ_eq_append_getElem h, List.map_append, List.append_assoc]
 rfl
/-- What BoundGrows needs of a configuration whose bound is told. -/
structure GOk (D : Int) (E : Cfg → World → Prop) (a b mm mv dv q sn cy : Int) (t : List (List Int)) (F G : Cfg → (Nat → Prop) → World → Prop) : Prop where
 ht : 0 < t.length
 hlen : ∀ r ∈ t, r.length ≤ 1000
 htl : t.length ≤ 1000
 HT : ∀ c W, E c W → Calls Try.prog 10 #[.agg c.cells, .int .i64 D] W fun e w' => e = .returned (.tuple #[.int .i64 a, .int .i64 0]) ∧ Below W.heap.size W w'
 HF : ∀ c ok W W', F c ok W → (∀ k, ok k → W'.heap[k]? = W.heap[k]?) → F c ok W'
 HG : ∀ c ok W W', G c ok W → (∀ k, ok k → W'.heap[k]? = W.heap[k]?) → G c ok W'
 HO : ∀ c W, E c W → Calls Try.prog 7 #[.agg c.cells] W fun e w' => ∃ x : Cfg, e = .returned (.agg x.cells) ∧ x.cells.toList.all (·.oneCell') = true ∧ F x (fun k => W.heap.size ≤ k ∧ k < w'.heap.size) w' ∧ Below W.heap.size W w'
 HO2 : ∀ c W, E c W → Calls Try.prog 7 #[.agg c.cells] W fun e w' => ∃ y : Cfg, e = .returned (.agg y.cells) ∧ y.cells.toList.all (·.oneCell') = true ∧ (∃ okg ok0 : Nat → Prop, G y okg w' ∧ Kd.S (Kd.slice 3 (Kd.int .i64)) 22 w' W.heap.size ok0 y.rota t ∧ (∀ k, ok0 k → W.heap.size ≤ k ∧ k < w'.heap.size ∧ ¬ okg k) ∧ (∀ k, okg k → W.heap.size ≤ k ∧ k < w'.heap.size)) ∧ Below W.heap.size W w'
 HTX : ∀ x ok W, F x ok W → Calls Try.prog 10 #[.agg (bump D x).cells, .int .i64 D] W fun e w' => e = .returned (.tuple #[.int .i64 b, .int .i64 0]) ∧ Below W.heap.size W w'
 HTY : ∀ y okg ok W base, G y okg W → Kd.S (Kd.slice 3 (Kd.int .i64)) 22 W base ok y.rota (t.map (· ++ [0])) → Calls Try.prog 10 #[.agg (grow y).cells, .int .i64 D] W fun e w' => e = .returned (.tuple #[.int .i64 mm, .int .i64 0]) ∧ Below W.heap.size W w'
 HTM : ∀ c W, E c W → Calls Try.prog 15 #[.agg c.cells] W fun e w' => e = .returned (.tuple #[.agg #[.int .i64 mv, .int .i64 dv, .int .i64 q, .int .i64 sn, .int .i64 cy], .int .i64 0]) ∧ Below W.heap.size W w'
 h1 : a ≤ b
 h2 : a < mm
 h3 : ¬ cy = 0
 h4 : Int.tmod a cy = 0
 h5 : wrap64 (5 * cy) ≤ a
set_option maxHeartbeats 8000000 in
set_option maxRecDepth 100000 in
theorem bg_both {ι : Type} (n d m D : Int) (w : World) (E : ι → Cfg → World → Prop) (hD : wrap64 (1 + m) = D) (hm : D = 1 ∨ D = 2 ∨ D = 3)
  (HC : Calls Try.prog 13 #[.int .i64 n] w fun e w' => ∃ (i : ι) (c : Cfg), e = .returned (.agg c.cells) ∧ c.cells.toList.all (·.oneCell') = true ∧ E i c w' ∧ Below w.heap.size w w')
  (HX : ∀ i c W W', E i c W → Below W.heap.size W W' → E i c W')
  (HM : ∀ W, Calls Try.prog 14 #[.int .i64 d, .int .i64 3] W fun e w' => e = .returned (.int .i64 m) ∧ Below W.heap.size W w')
  (HA : ∀ W, Calls Try.prog 6 #[] W fun e w' => e = .returned (.bool true) ∧ Below W.heap.size W w')
  (H : ∀ i, (∃ a, ∀ c W, E i c W → Calls Try.prog 10 #[.agg c.cells, .int .i64 D] W fun e w' => e = .returned (.tuple #[.int .i64 a, .int .i64 6]) ∧ Below W.heap.size W w') ∨ (∃ a b mm mv dv q sn cy t F G, GOk D (E i) a b mm mv dv q sn cy t F G)) :
  Calls Try.prog 4 #[.int .i64 n, .int .i64 d] w fun e w' => e = .returned (.bool true) ∧ Below w.heap.size w w' := by
 have hu29 := Try.underlying29
 have HC := Aside0.mk HC
 have HX := Aside0.mk HX
 have HM := Aside0.mk HM
 have HH := Aside0.mk H
 clear H
 have HA := Aside0.mk HA
 have HB := Aside0.mk (Below.refl w.heap.size w)
 go_enter Try.func4, Try.ntmps4
 go_upto_region 2 with (first | (go_at_call 13; (with_reducible refine HC.out.mono ?_); rintro e w4 ⟨i, c, rfl, ho, he, hb⟩; have HOC := Aside0.mk ho; have HEC := Aside0.mk he; replace HB := Aside0.mk (bst HB.out hb); clear hb ho he) | ((with_reducible refine gate_dst (N := 5) rfl ?_); refine bxe (cs := #[.int .i64 0, .slice none 0 0, .int .i64 0, .int .i64 0, .int .i64 0, .int .i64 0, .int .i64 0, .int .i64 0, .int .i64 0, .int .i64 0, .int .i64 0, .int .i64 0, .int .i64 0, .slice none 0 0, .int .u64 0, .int .i64 0, .int .i64 0, .int .u64 0, .int .i64 0, .int .i64 0, .int .u64 0, .int .i64 0, .int .i64 0, .slice none 0 0, .int .i64 0]) (t := 29) ?_; intro g5 hg w5 hbox hb; have B0 := Aside0.mk hbox; have G5 := Aside0.mk (show w4.heap.size ≤ g5 by rw [hg]; exact Nat.le_refl _); have BL := Aside0.mk hb; clear hb hbox hg) | ((with_reducible refine gate_store (t := 29) (p := 5) rfl ?_); refine swm (g := g5) B0.out ?_ (by rfl) (h1 := HOC.out); intro w6 hw6 hfar hbel; have B5 := Aside0.mk hw6; have B3 := Aside0.mk (hbel _ _ BL.out G5.out); clear hw6 hfar hbel))
 try simp only [Act.put, List.setIfInBounds_toArray, List.set_cons_zero, List.set_cons_succ]
 replace HEC := Aside0.mk (HX.out i c _ _ HEC.out B3.out)
 replace HX := Aside0.mk (HX.out i)
 replace HB := Aside0.mk (below_step HB.out B3.out)
 clear B0 BL B3
 replace B5 := Aside0.mk (show w6.heap[g5]? = some (.cells c.cells 29) from B5.out)
 have hDi : IntKind.i64.wrap (1 + m) = D := by rw [i64_w]; exact hD
 rcases HH.out i with ⟨a, HT⟩ | ⟨a, b, mm, mv, dv, q, sn, cy, t, F, G, ⟨ht, hlen, htl, HT, HF, HG, HO, HO2, HTX, HTY, HTM, h1, h2, h3, h4, h5⟩⟩
 ·clear HH hm hD
  have HT := Aside0.mk HT
  go_wp2_with (first | ((with_reducible refine gate_dst (N := 23) rfl ?_); refine lwx (g := g5) B5.out ?_) | (go_at_call 14; (with_reducible refine (HM.out _).mono ?_); rintro e w7 ⟨rfl, hb⟩; replace HEC := Aside0.mk (HX.out c _ _ HEC.out hb); replace B5 := Aside0.mk (blk_below B5.out hb); replace HB := Aside0.mk (below_step HB.out hb); clear hb) | (go_at_call 10; (try simp only [i64_w]); (with_reducible refine (HT.out c _ HEC.out).mono ?_); rintro e w9 ⟨rfl, hb⟩; replace HB := Aside0.mk (below_step HB.out hb); clear hb) | (go_at_call 6; (with_reducible refine (HA.out _).mono ?_); rintro e w12 ⟨rfl, hb⟩; replace HB := Aside0.mk (below_step HB.out hb); clear hb))
  go_ret
  exact ⟨rfl, HB.out⟩
 clear HH
 have HT := Aside0.mk HT
 have HF := Aside0.mk HF
 have HG := Aside0.mk HG
 have HO := Aside0.mk HO
 have HO2 := Aside0.mk HO2
 have HTX := Aside0.mk HTX
 have HTY := Aside0.mk HTY
 have HTM := Aside0.mk HTM
 have H1 := Aside0.mk (And.intro h1 (And.intro h2 (And.intro h3 (And.intro h4 h5))))
 have HT0 := Aside0.mk (And.intro ht (And.intro hlen htl))
 have HMM := Aside0.mk hm
 clear h1 h2 h3 h4 h5 ht hlen htl hm
 go_upto_region 6 with (first | ((with_reducible refine gate_dst (N := 23) rfl ?_); refine lwx (g := g5) B5.out ?_) | (go_at_call 14; (with_reducible refine (HM.out _).mono ?_); rintro e w7 ⟨rfl, hb⟩; replace HEC := Aside0.mk (HX.out c _ _ HEC.out hb); replace B5 := Aside0.mk (blk_below B5.out hb); replace HB := Aside0.mk (below_step HB.out hb); clear hb) | (go_at_call 10; (try simp only [i64_w]); (with_reducible refine (HT.out c _ HEC.out).mono ?_); rintro e wq ⟨rfl, hb⟩; replace HEC := Aside0.mk (HX.out c _ _ HEC.out hb); replace B5 := Aside0.mk (blk_below B5.out hb); replace HB := Aside0.mk (below_step HB.out hb); clear hb))
 clear hD hDi
 replace HEC := Aside0.mk (fun W (hb : Below wq.heap.size wq W) => HX.out c _ _ HEC.out hb)
 replace B5 := Aside0.mk (fun W (hb : Below wq.heap.size wq W) => blk_below B5.out hb)
 have HXb := HEC
 go_cut [9, 10] (fun v9 v10 wc => ∃ (x y : Cfg) (g9 g10 b1 e1 b2 e2 : Nat) (okg : Nat → Prop), v9 = .pointer (some ⟨g9, 0, none⟩) ∧ v10 = .pointer (some ⟨g10, 0, none⟩) ∧ Aside0 (R6 F G wq x y t x.cells y.cells g9 g10 b1 e1 b2 e2 okg wc))
 case first =>
  have HR := Aside0.mk (show Below wq.heap.size wq wq.drew from below_drew1 (Below.refl wq.heap.size wq))
  refine wp_region_J (fun W => W.heap[g5]? = some (.cells c.cells 29 (0, 0))) 99 rfl (B5.out _ HR.out) (fun hS => ?_)
  refine tk 0 (some 35) ?_ (hy := yload rfl rfl (by rfl) hu29 rfl (by kernel_rfl)) (hS := hS)
  simp only [Act.put, List.setIfInBounds_toArray, List.set_cons_zero, List.set_cons_succ]
  refine tk 2 (some 37) ?_ (hy := yload rfl rfl (by rfl) hu29 rfl (by kernel_rfl)) (hS := hS)
  simp only [Act.put, List.setIfInBounds_toArray, List.set_cons_zero, List.set_cons_succ]
  clear hS
  generalize wq.drew = V0 at HR ⊢
  --R6
  refine wj_node (l := [1, 4, 5]) (by decide +kernel) (by simp) ?_
  intro i hi
  obtain rfl | rfl | rfl : i = 1 ∨ i = 4 ∨ i = 5 := by simpa using hi
  ·clear hi
   refine wo_call rfl Try.func7 (by kernel_rfl) rfl #[.agg c.cells] rfl rfl rfl (by (try simp only [List.map_toArray, List.map_cons, List.map_nil]); first | done | rfl) ?_
   (with_reducible refine (HO.out _ _ (HXb.out _ HR.out)).mono ?_)
   rintro e V1 ⟨x, rfl, ho, hf, hb⟩
   refine ⟨_, rfl, fun _ => B5.out _ (below_step HR.out hb), ?_⟩
   have LX := Aside0.mk HR.out.size
   replace HR := Aside0.mk (below_step HR.out hb)
   have FX := Aside0.mk hf; have EX := Aside0.mk (Nat.le_refl V1.heap.size); have XO := Aside0.mk ho; have EXX := Aside0.mk hb.size
   simp only [Act.put, List.setIfInBounds_toArray, List.set_cons_zero, List.set_cons_succ]
   refine wj_node (l := [3, 4, 5]) (by decide +kernel) (by simp) ?_
   intro i hi
   obtain rfl | rfl | rfl : i = 3 ∨ i = 4 ∨ i = 5 := by simpa using hi
   ·clear hi
    refine wo_call rfl Try.func7 (by kernel_rfl) rfl #[.agg c.cells] rfl rfl rfl (by (try simp only [List.map_toArray, List.map_cons, List.map_nil]); first | done | rfl) ?_
    (with_reducible refine (HO2.out _ _ (HXb.out _ HR.out)).mono ?_)
    rintro e V2 ⟨y, rfl, ho, ⟨okg, ok0, hg, hs, h0, hg0⟩, hb⟩
    refine ⟨_, rfl, fun _ => B5.out _ (below_step HR.out hb), ?_⟩
    have LB := EX; have LY := Aside0.mk HR.out.size
    replace HR := Aside0.mk (below_step HR.out hb)
    replace FX := Aside0.mk (HF.out _ _ _ _ FX.out (fun k hk => hb.block k (Nat.lt_of_lt_of_le hk.2 EX.out)))
    replace EX := Aside0.mk (Nat.le_trans EX.out hb.size)
    have GY := Aside0.mk hg; have SY := Aside0.mk (Kd.S_lower hs LY.out); have O0 := Aside0.mk h0; have OG := Aside0.mk hg0; have EY := Aside0.mk (Nat.le_refl V2.heap.size); have YO := Aside0.mk ho; have EYY := Aside0.mk hb.size
    simp only [Act.put, List.setIfInBounds_toArray, List.set_cons_zero, List.set_cons_succ]
    refine wj_node (l := [4, 5]) (by decide +kernel) (by simp) ?_
    intro i hi
    obtain rfl | rfl : i = 4 ∨ i = 5 := by simpa using hi
    ·clear hi
     refine wo_alloc (cs := z25) (t := 29) rfl rfl ?_ (by rfl) ?_
     ·first | (go_simp; done) | (go_simp; rfl)
     intro g9 hgq V3 hbox hb
     refine ⟨fun _ => B5.out _ (below_step HR.out hb), ?_⟩
     have X9 := Aside0.mk (show g9 < V0.heap.size ∨ V1.heap.size ≤ g9 from .inr (by rw [hgq]; exact EX.out))
     have Y9 := Aside0.mk (show g9 < V1.heap.size ∨ V2.heap.size ≤ g9 from .inr (by rw [hgq]; exact EY.out))
     have L9 := Aside0.mk (show wq.heap.size ≤ g9 by rw [hgq]; exact HR.out.size)
     replace HR := Aside0.mk (below_step HR.out hb)
     replace FX := Aside0.mk (HF.out _ _ _ _ FX.out (fun k hk => hb.block k (Nat.lt_of_lt_of_le hk.2 EX.out)))
     replace EX := Aside0.mk (Nat.le_trans EX.out hb.size)
     replace GY := Aside0.mk (HG.out _ _ _ _ GY.out (fun k hk => hb.block k (Nat.lt_of_lt_of_le (OG.out k hk).2 EY.out)))
     replace SY := Aside0.mk (Kd.S_below SY.out hb)
     replace EY := Aside0.mk (Nat.le_trans EY.out hb.size)
     clear hgq
     have B9 := Aside0.mk hbox
     simp only [Act.put, List.setIfInBounds_toArray, List.set_cons_zero, List.set_cons_succ]
     refine wj_node (l := [5]) (by decide +kernel) (by simp) ?_
     intro i hi
     obtain rfl : i = 5 := by simpa using hi
     ·clear hi
      refine wo_alloc (cs := z25) (t := 29) rfl rfl ?_ (by rfl) ?_
      ·first | (go_simp; done) | (go_simp; rfl)
      intro g10 hgq V4 hbox hb
      refine ⟨fun _ => B5.out _ (below_step HR.out hb), ?_⟩
      have X10 := Aside0.mk (show g10 < V0.heap.size ∨ V1.heap.size ≤ g10 from .inr (by rw [hgq]; exact EX.out))
      have Y10 := Aside0.mk (show g10 < V1.heap.size ∨ V2.heap.size ≤ g10 from .inr (by rw [hgq]; exact EY.out))
      have NG := Aside0.mk (show g9 ≠ g10 by have := blk_lt B9.out; omega)
      have L10 := Aside0.mk (show wq.heap.size ≤ g10 by rw [hgq]; exact HR.out.size)
      replace HR := Aside0.mk (below_step HR.out hb)
      replace B9 := Aside0.mk (blk_below B9.out hb)
      replace FX := Aside0.mk (HF.out _ _ _ _ FX.out (fun k hk => hb.block k (Nat.lt_of_lt_of_le hk.2 EX.out)))
      replace EX := Aside0.mk (Nat.le_trans EX.out hb.size)
      replace GY := Aside0.mk (HG.out _ _ _ _ GY.out (fun k hk => hb.block k (Nat.lt_of_lt_of_le (OG.out k hk).2 EY.out)))
      replace SY := Aside0.mk (Kd.S_below SY.out hb)
      replace EY := Aside0.mk (Nat.le_trans EY.out hb.size)
      clear hgq
      have B10 := Aside0.mk hbox
      simp only [Act.put, List.setIfInBounds_toArray, List.set_cons_zero, List.set_cons_succ]
      have HR6 := Aside0.mk (show R6 F G wq x y t z25 z25 g9 g10 V0.heap.size V1.heap.size V1.heap.size V2.heap.size okg V4 from ⟨HR.out, B9.out, B10.out, FX.out, GY.out, Kd.S_mono SY.out (fun k hk => by have h1 := O0.out k hk; have h2 := Y9.out; have h3 := Y10.out; exact ⟨h1.1, by omega, by omega, h1.2.2⟩), L9.out, L10.out, NG.out, ⟨LX.out, EXX.out, LB.out, EYY.out, EY.out⟩, X9.out, X10.out, fun k hk => by have h1 := OG.out k hk; have h2 := Y9.out; have h3 := Y10.out; exact ⟨h1.1, h1.2, by omega, by omega⟩⟩)
      refine wj_node (l := [6]) (by decide +kernel) (by simp) ?_
      intro i hi; obtain rfl : i = 6 := by simpa using hi
      refine wo_store (vs := x.cells.toList) rfl rfl HR6.out.c9 ?_ rfl rfl rfl (by rfl) (by rfl) (by kernel_rfl) XO.out
      intro v1 h9 far hbel
      replace HR6 := Aside0.mk (HR6.out.set9 HF.out HG.out h9 far hbel)
      refine ⟨fun _ => B5.out _ HR6.out.hr, ?_⟩
      clear hi h9 far hbel
      try simp only [Act.put, List.setIfInBounds_toArray, List.set_cons_zero, List.set_cons_succ]
      refine wj_node (l := [7]) (by decide +kernel) (by simp) ?_
      intro i hi; obtain rfl : i = 7 := by simpa using hi
      refine wo_store (vs := y.cells.toList) rfl rfl HR6.out.c10 ?_ rfl rfl rfl (by rfl) (by rfl) (by kernel_rfl) YO.out
      intro v2 h10 far hbel
      replace HR6 := Aside0.mk (HR6.out.set10 HF.out HG.out h10 far hbel)
      refine ⟨fun _ => B5.out _ HR6.out.hr, ?_⟩
      try simp only [Act.put, List.setIfInBounds_toArray, List.set_cons_zero, List.set_cons_succ]
      refine wpAnyJ_done (by decide +kernel) ?_ _
      go_wp2
      go_meet
      exact ⟨x, y, g9, g10, _, _, _, _, okg, rfl, rfl, HR6⟩
    ·clear hi
     refine wo_alloc (cs := z25) (t := 29) rfl rfl ?_ (by rfl) ?_
     ·first | (go_simp; done) | (go_simp; rfl)
     intro g10 hgq V3 hbox hb
     refine ⟨fun _ => B5.out _ (below_step HR.out hb), ?_⟩
     have X10 := Aside0.mk (show g10 < V0.heap.size ∨ V1.heap.size ≤ g10 from .inr (by rw [hgq]; exact EX.out))
     have Y10 := Aside0.mk (show g10 < V1.heap.size ∨ V2.heap.size ≤ g10 from .inr (by rw [hgq]; exact EY.out))
     have L10 := Aside0.mk (show wq.heap.size ≤ g10 by rw [hgq]; exact HR.out.size)
     replace HR := Aside0.mk (below_step HR.out hb)
     replace FX := Aside0.mk (HF.out _ _ _ _ FX.out (fun k hk => hb.block k (Nat.lt_of_lt_of_le hk.2 EX.out)))
     replace EX := Aside0.mk (Nat.le_trans EX.out hb.size)
     replace GY := Aside0.mk (HG.out _ _ _ _ GY.out (fun k hk => hb.block k (Nat.lt_of_lt_of_le (OG.out k hk).2 EY.out)))
     replace SY := Aside0.mk (Kd.S_below SY.out hb)
     replace EY := Aside0.mk (Nat.le_trans EY.out hb.size)
     clear hgq
     have B10 := Aside0.mk hbox
     simp only [Act.put, List.setIfInBounds_toArray, List.set_cons_zero, List.set_cons_succ]
     refine wj_node (l := [4]) (by decide +kernel) (by simp) ?_
     intro i hi
     obtain rfl : i = 4 := by simpa using hi
     ·clear hi
      refine wo_alloc (cs := z25) (t := 29) rfl rfl ?_ (by rfl) ?_
      ·first | (go_simp; done) | (go_simp; rfl)
      intro g9 hgq V4 hbox hb
      refine ⟨fun _ => B5.out _ (below_step HR.out hb), ?_⟩
      have X9 := Aside0.mk (show g9 < V0.heap.size ∨ V1.heap.size ≤ g9 from .inr (by rw [hgq]; exact EX.out))
      have Y9 := Aside0.mk (show g9 < V1.heap.size ∨ V2.heap.size ≤ g9 from .inr (by rw [hgq]; exact EY.out))
      have NG := Aside0.mk (show g9 ≠ g10 by have := blk_lt B10.out; omega)
      have L9 := Aside0.mk (show wq.heap.size ≤ g9 by rw [hgq]; exact HR.out.size)
      replace HR := Aside0.mk (below_step HR.out hb)
      replace B10 := Aside0.mk (blk_below B10.out hb)
      replace FX := Aside0.mk (HF.out _ _ _ _ FX.out (fun k hk => hb.block k (Nat.lt_of_lt_of_le hk.2 EX.out)))
      replace EX := Aside0.mk (Nat.le_trans EX.out hb.size)
      replace GY := Aside0.mk (HG.out _ _ _ _ GY.out (fun k hk => hb.block k (Nat.lt_of_lt_of_le (OG.out k hk).2 EY.out)))
      replace SY := Aside0.mk (Kd.S_below SY.out hb)
      replace EY := Aside0.mk (Nat.le_trans EY.out hb.size)
      clear hgq
      have B9 := Aside0.mk hbox
      simp only [Act.put, List.setIfInBounds_toArray, List.set_cons_zero, List.set_cons_succ]
      have HR6 := Aside0.mk (show R6 F G wq x y t z25 z25 g9 g10 V0.heap.size V1.heap.size V1.heap.size V2.heap.size okg V4 from ⟨HR.out, B9.out, B10.out, FX.out, GY.out, Kd.S_mono SY.out (fun k hk => by have h1 := O0.out k hk; have h2 := Y9.out; have h3 := Y10.out; exact ⟨h1.1, by omega, by omega, h1.2.2⟩), L9.out, L10.out, NG.out, ⟨LX.out, EXX.out, LB.out, EYY.out, EY.out⟩, X9.out, X10.out, fun k hk => by have h1 := OG.out k hk; have h2 := Y9.out; have h3 := Y10.out; exact ⟨h1.1, h1.2, by omega, by omega⟩⟩)
      refine wj_node (l := [6]) (by decide +kernel) (by simp) ?_
      intro i hi; obtain rfl : i = 6 := by simpa using hi
      refine wo_store (vs := x.cells.toList) rfl rfl HR6.out.c9 ?_ rfl rfl rfl (by rfl) (by rfl) (by kernel_rfl) XO.out
      intro v1 h9 far hbel
      replace HR6 := Aside0.mk (HR6.out.set9 HF.out HG.out h9 far hbel)
      refine ⟨fun _ => B5.out _ HR6.out.hr, ?_⟩
      clear hi h9 far hbel
      try simp only [Act.put, List.setIfInBounds_toArray, List.set_cons_zero, List.set_cons_succ]
      refine wj_node (l := [7]) (by decide +kernel) (by simp) ?_
      intro i hi; obtain rfl : i = 7 := by simpa using hi
      refine wo_store (vs := y.cells.toList) rfl rfl HR6.out.c10 ?_ rfl rfl rfl (by rfl) (by rfl) (by kernel_rfl) YO.out
      intro v2 h10 far hbel
      replace HR6 := Aside0.mk (HR6.out.set10 HF.out HG.out h10 far hbel)
      refine ⟨fun _ => B5.out _ HR6.out.hr, ?_⟩
      try simp only [Act.put, List.setIfInBounds_toArray, List.set_cons_zero, List.set_cons_succ]
      refine wpAnyJ_done (by decide +kernel) ?_ _
      go_wp2
      go_meet
      exact ⟨x, y, g9, g10, _, _, _, _, okg, rfl, rfl, HR6⟩
   ·clear hi
    refine wo_alloc (cs := z25) (t := 29) rfl rfl ?_ (by rfl) ?_
    ·first | (go_simp; done) | (go_simp; rfl)
    intro g9 hgq V2 hbox hb
    refine ⟨fun _ => B5.out _ (below_step HR.out hb), ?_⟩
    have X9 := Aside0.mk (show g9 < V0.heap.size ∨ V1.heap.size ≤ g9 from .inr (by rw [hgq]; exact EX.out))
    have L9 := Aside0.mk (show wq.heap.size ≤ g9 by rw [hgq]; exact HR.out.size)
    replace HR := Aside0.mk (below_step HR.out hb)
    replace FX := Aside0.mk (HF.out _ _ _ _ FX.out (fun k hk => hb.block k (Nat.lt_of_lt_of_le hk.2 EX.out)))
    replace EX := Aside0.mk (Nat.le_trans EX.out hb.size)
    clear hgq
    have B9 := Aside0.mk hbox
    simp only [Act.put, List.setIfInBounds_toArray, List.set_cons_zero, List.set_cons_succ]
    refine wj_node (l := [3, 5]) (by decide +kernel) (by simp) ?_
    intro i hi
    obtain rfl | rfl : i = 3 ∨ i = 5 := by simpa using hi
    ·clear hi
     refine wo_call rfl Try.func7 (by kernel_rfl) rfl #[.agg c.cells] rfl rfl rfl (by (try simp only [List.map_toArray, List.map_cons, List.map_nil]); first | done | rfl) ?_
     (with_reducible refine (HO2.out _ _ (HXb.out _ HR.out)).mono ?_)
     rintro e V3 ⟨y, rfl, ho, ⟨okg, ok0, hg, hs, h0, hg0⟩, hb⟩
     refine ⟨_, rfl, fun _ => B5.out _ (below_step HR.out hb), ?_⟩
     have Y9 := Aside0.mk (show g9 < V2.heap.size ∨ V3.heap.size ≤ g9 from .inl (blk_lt B9.out))
     have LB := EX; have LY := Aside0.mk HR.out.size
     replace HR := Aside0.mk (below_step HR.out hb)
     replace B9 := Aside0.mk (blk_below B9.out hb)
     replace FX := Aside0.mk (HF.out _ _ _ _ FX.out (fun k hk => hb.block k (Nat.lt_of_lt_of_le hk.2 EX.out)))
     replace EX := Aside0.mk (Nat.le_trans EX.out hb.size)
     have GY := Aside0.mk hg; have SY := Aside0.mk (Kd.S_lower hs LY.out); have O0 := Aside0.mk h0; have OG := Aside0.mk hg0; have EY := Aside0.mk (Nat.le_refl V3.heap.size); have YO := Aside0.mk ho; have EYY := Aside0.mk hb.size
     simp only [Act.put, List.setIfInBounds_toArray, List.set_cons_zero, List.set_cons_succ]
     refine wj_node (l := [5]) (by decide +kernel) (by simp) ?_
     intro i hi
     obtain rfl : i = 5 := by simpa using hi
     ·clear hi
      refine wo_alloc (cs := z25) (t := 29) rfl rfl ?_ (by rfl) ?_
      ·first | (go_simp; done) | (go_simp; rfl)
      intro g10 hgq V4 hbox hb
      refine ⟨fun _ => B5.out _ (below_step HR.out hb), ?_⟩
      have X10 := Aside0.mk (show g10 < V0.heap.size ∨ V1.heap.size ≤ g10 from .inr (by rw [hgq]; exact EX.out))
      have Y10 := Aside0.mk (show g10 < V2.heap.size ∨ V3.heap.size ≤ g10 from .inr (by rw [hgq]; exact EY.out))
      have NG := Aside0.mk (show g9 ≠ g10 by have := blk_lt B9.out; omega)
      have L10 := Aside0.mk (show wq.heap.size ≤ g10 by rw [hgq]; exact HR.out.size)
      replace HR := Aside0.mk (below_step HR.out hb)
      replace B9 := Aside0.mk (blk_below B9.out hb)
      replace FX := Aside0.mk (HF.out _ _ _ _ FX.out (fun k hk => hb.block k (Nat.lt_of_lt_of_le hk.2 EX.out)))
      replace EX := Aside0.mk (Nat.le_trans EX.out hb.size)
      replace GY := Aside0.mk (HG.out _ _ _ _ GY.out (fun k hk => hb.block k (Nat.lt_of_lt_of_le (OG.out k hk).2 EY.out)))
      replace SY := Aside0.mk (Kd.S_below SY.out hb)
      replace EY := Aside0.mk (Nat.le_trans EY.out hb.size)
      clear hgq
      have B10 := Aside0.mk hbox
      simp only [Act.put, List.setIfInBounds_toArray, List.set_cons_zero, List.set_cons_succ]
      have HR6 := Aside0.mk (show R6 F G wq x y t z25 z25 g9 g10 V0.heap.size V1.heap.size V2.heap.size V3.heap.size okg V4 from ⟨HR.out, B9.out, B10.out, FX.out, GY.out, Kd.S_mono SY.out (fun k hk => by have h1 := O0.out k hk; have h2 := Y9.out; have h3 := Y10.out; exact ⟨h1.1, by omega, by omega, h1.2.2⟩), L9.out, L10.out, NG.out, ⟨LX.out, EXX.out, LB.out, EYY.out, EY.out⟩, X9.out, X10.out, fun k hk => by have h1 := OG.out k hk; have h2 := Y9.out; have h3 := Y10.out; exact ⟨h1.1, h1.2, by omega, by omega⟩⟩)
      refine wj_node (l := [6]) (by decide +kernel) (by simp) ?_
      intro i hi; obtain rfl : i = 6 := by simpa using hi
      refine wo_store (vs := x.cells.toList) rfl rfl HR6.out.c9 ?_ rfl rfl rfl (by rfl) (by rfl) (by kernel_rfl) XO.out
      intro v1 h9 far hbel
      replace HR6 := Aside0.mk (HR6.out.set9 HF.out HG.out h9 far hbel)
      refine ⟨fun _ => B5.out _ HR6.out.hr, ?_⟩
      clear hi h9 far hbel
      try simp only [Act.put, List.setIfInBounds_toArray, List.set_cons_zero, List.set_cons_succ]
      refine wj_node (l := [7]) (by decide +kernel) (by simp) ?_
      intro i hi; obtain rfl : i = 7 := by simpa using hi
      refine wo_store (vs := y.cells.toList) rfl rfl HR6.out.c10 ?_ rfl rfl rfl (by rfl) (by rfl) (by kernel_rfl) YO.out
      intro v2 h10 far hbel
      replace HR6 := Aside0.mk (HR6.out.set10 HF.out HG.out h10 far hbel)
      refine ⟨fun _ => B5.out _ HR6.out.hr, ?_⟩
      try simp only [Act.put, List.setIfInBounds_toArray, List.set_cons_zero, List.set_cons_succ]
      refine wpAnyJ_done (by decide +kernel) ?_ _
      go_wp2
      go_meet
      exact ⟨x, y, g9, g10, _, _, _, _, okg, rfl, rfl, HR6⟩
    ·clear hi
     refine wo_alloc (cs := z25) (t := 29) rfl rfl ?_ (by rfl) ?_
     ·first | (go_simp; done) | (go_simp; rfl)
     intro g10 hgq V3 hbox hb
     refine ⟨fun _ => B5.out _ (below_step HR.out hb), ?_⟩
     have X10 := Aside0.mk (show g10 < V0.heap.size ∨ V1.heap.size ≤ g10 from .inr (by rw [hgq]; exact EX.out))
     have NG := Aside0.mk (show g9 ≠ g10 by have := blk_lt B9.out; omega)
     have L10 := Aside0.mk (show wq.heap.size ≤ g10 by rw [hgq]; exact HR.out.size)
     replace HR := Aside0.mk (below_step HR.out hb)
     replace B9 := Aside0.mk (blk_below B9.out hb)
     replace FX := Aside0.mk (HF.out _ _ _ _ FX.out (fun k hk => hb.block k (Nat.lt_of_lt_of_le hk.2 EX.out)))
     replace EX := Aside0.mk (Nat.le_trans EX.out hb.size)
     clear hgq
     have B10 := Aside0.mk hbox
     simp only [Act.put, List.setIfInBounds_toArray, List.set_cons_zero, List.set_cons_succ]
     refine wj_node (l := [3]) (by decide +kernel) (by simp) ?_
     intro i hi
     obtain rfl : i = 3 := by simpa using hi
     ·clear hi
      refine wo_call rfl Try.func7 (by kernel_rfl) rfl #[.agg c.cells] rfl rfl rfl (by (try simp only [List.map_toArray, List.map_cons, List.map_nil]); first | done | rfl) ?_
      (with_reducible refine (HO2.out _ _ (HXb.out _ HR.out)).mono ?_)
      rintro e V4 ⟨y, rfl, ho, ⟨okg, ok0, hg, hs, h0, hg0⟩, hb⟩
      refine ⟨_, rfl, fun _ => B5.out _ (below_step HR.out hb), ?_⟩
      have Y9 := Aside0.mk (show g9 < V3.heap.size ∨ V4.heap.size ≤ g9 from .inl (blk_lt B9.out))
      have Y10 := Aside0.mk (show g10 < V3.heap.size ∨ V4.heap.size ≤ g10 from .inl (blk_lt B10.out))
      have LB := EX; have LY := Aside0.mk HR.out.size
      replace HR := Aside0.mk (below_step HR.out hb)
      replace B9 := Aside0.mk (blk_below B9.out hb)
      replace B10 := Aside0.mk (blk_below B10.out hb)
      replace FX := Aside0.mk (HF.out _ _ _ _ FX.out (fun k hk => hb.block k (Nat.lt_of_lt_of_le hk.2 EX.out)))
      replace EX := Aside0.mk (Nat.le_trans EX.out hb.size)
      have GY := Aside0.mk hg; have SY := Aside0.mk (Kd.S_lower hs LY.out); have O0 := Aside0.mk h0; have OG := Aside0.mk hg0; have EY := Aside0.mk (Nat.le_refl V4.heap.size); have YO := Aside0.mk ho; have EYY := Aside0.mk hb.size
      simp only [Act.put, List.setIfInBounds_toArray, List.set_cons_zero, List.set_cons_succ]
      have HR6 := Aside0.mk (show R6 F G wq x y t z25 z25 g9 g10 V0.heap.size V1.heap.size V3.heap.size V4.heap.size okg V4 from ⟨HR.out, B9.out, B10.out, FX.out, GY.out, Kd.S_mono SY.out (fun k hk => by have h1 := O0.out k hk; have h2 := Y9.out; have h3 := Y10.out; exact ⟨h1.1, by omega, by omega, h1.2.2⟩), L9.out, L10.out, NG.out, ⟨LX.out, EXX.out, LB.out, EYY.out, EY.out⟩, X9.out, X10.out, fun k hk => by have h1 := OG.out k hk; have h2 := Y9.out; have h3 := Y10.out; exact ⟨h1.1, h1.2, by omega, by omega⟩⟩)
      refine wj_node (l := [6]) (by decide +kernel) (by simp) ?_
      intro i hi; obtain rfl : i = 6 := by simpa using hi
      refine wo_store (vs := x.cells.toList) rfl rfl HR6.out.c9 ?_ rfl rfl rfl (by rfl) (by rfl) (by kernel_rfl) XO.out
      intro v1 h9 far hbel
      replace HR6 := Aside0.mk (HR6.out.set9 HF.out HG.out h9 far hbel)
      refine ⟨fun _ => B5.out _ HR6.out.hr, ?_⟩
      clear hi h9 far hbel
      try simp only [Act.put, List.setIfInBounds_toArray, List.set_cons_zero, List.set_cons_succ]
      refine wj_node (l := [7]) (by decide +kernel) (by simp) ?_
      intro i hi; obtain rfl : i = 7 := by simpa using hi
      refine wo_store (vs := y.cells.toList) rfl rfl HR6.out.c10 ?_ rfl rfl rfl (by rfl) (by rfl) (by kernel_rfl) YO.out
      intro v2 h10 far hbel
      replace HR6 := Aside0.mk (HR6.out.set10 HF.out HG.out h10 far hbel)
      refine ⟨fun _ => B5.out _ HR6.out.hr, ?_⟩
      try simp only [Act.put, List.setIfInBounds_toArray, List.set_cons_zero, List.set_cons_succ]
      refine wpAnyJ_done (by decide +kernel) ?_ _
      go_wp2
      go_meet
      exact ⟨x, y, g9, g10, _, _, _, _, okg, rfl, rfl, HR6⟩
   ·clear hi
    refine wo_alloc (cs := z25) (t := 29) rfl rfl ?_ (by rfl) ?_
    ·first | (go_simp; done) | (go_simp; rfl)
    intro g10 hgq V2 hbox hb
    refine ⟨fun _ => B5.out _ (below_step HR.out hb), ?_⟩
    have X10 := Aside0.mk (show g10 < V0.heap.size ∨ V1.heap.size ≤ g10 from .inr (by rw [hgq]; exact EX.out))
    have L10 := Aside0.mk (show wq.heap.size ≤ g10 by rw [hgq]; exact HR.out.size)
    replace HR := Aside0.mk (below_step HR.out hb)
    replace FX := Aside0.mk (HF.out _ _ _ _ FX.out (fun k hk => hb.block k (Nat.lt_of_lt_of_le hk.2 EX.out)))
    replace EX := Aside0.mk (Nat.le_trans EX.out hb.size)
    clear hgq
    have B10 := Aside0.mk hbox
    simp only [Act.put, List.setIfInBounds_toArray, List.set_cons_zero, List.set_cons_succ]
    refine wj_node (l := [3, 4]) (by decide +kernel) (by simp) ?_
    intro i hi
    obtain rfl | rfl : i = 3 ∨ i = 4 := by simpa using hi
    ·clear hi
     refine wo_call rfl Try.func7 (by kernel_rfl) rfl #[.agg c.cells] rfl rfl rfl (by (try simp only [List.map_toArray, List.map_cons, List.map_nil]); first | done | rfl) ?_
     (with_reducible refine (HO2.out _ _ (HXb.out _ HR.out)).mono ?_)
     rintro e V3 ⟨y, rfl, ho, ⟨okg, ok0, hg, hs, h0, hg0⟩, hb⟩
     refine ⟨_, rfl, fun _ => B5.out _ (below_step HR.out hb), ?_⟩
     have Y10 := Aside0.mk (show g10 < V2.heap.size ∨ V3.heap.size ≤ g10 from .inl (blk_lt B10.out))
     have LB := EX; have LY := Aside0.mk HR.out.size
     replace HR := Aside0.mk (below_step HR.out hb)
     replace B10 := Aside0.mk (blk_below B10.out hb)
     replace FX := Aside0.mk (HF.out _ _ _ _ FX.out (fun k hk => hb.block k (Nat.lt_of_lt_of_le hk.2 EX.out)))
     replace EX := Aside0.mk (Nat.le_trans EX.out hb.size)
     have GY := Aside0.mk hg; have SY := Aside0.mk (Kd.S_lower hs LY.out); have O0 := Aside0.mk h0; have OG := Aside0.mk hg0; have EY := Aside0.mk (Nat.le_refl V3.heap.size); have YO := Aside0.mk ho; have EYY := Aside0.mk hb.size
     simp only [Act.put, List.setIfInBounds_toArray, List.set_cons_zero, List.set_cons_succ]
     refine wj_node (l := [4]) (by decide +kernel) (by simp) ?_
     intro i hi
     obtain rfl : i = 4 := by simpa using hi
     ·clear hi
      refine wo_alloc (cs := z25) (t := 29) rfl rfl ?_ (by rfl) ?_
      ·first | (go_simp; done) | (go_simp; rfl)
      intro g9 hgq V4 hbox hb
      refine ⟨fun _ => B5.out _ (below_step HR.out hb), ?_⟩
      have X9 := Aside0.mk (show g9 < V0.heap.size ∨ V1.heap.size ≤ g9 from .inr (by rw [hgq]; exact EX.out))
      have Y9 := Aside0.mk (show g9 < V2.heap.size ∨ V3.heap.size ≤ g9 from .inr (by rw [hgq]; exact EY.out))
      have NG := Aside0.mk (show g9 ≠ g10 by have := blk_lt B10.out; omega)
      have L9 := Aside0.mk (show wq.heap.size ≤ g9 by rw [hgq]; exact HR.out.size)
      replace HR := Aside0.mk (below_step HR.out hb)
      replace B10 := Aside0.mk (blk_below B10.out hb)
      replace FX := Aside0.mk (HF.out _ _ _ _ FX.out (fun k hk => hb.block k (Nat.lt_of_lt_of_le hk.2 EX.out)))
      replace EX := Aside0.mk (Nat.le_trans EX.out hb.size)
      replace GY := Aside0.mk (HG.out _ _ _ _ GY.out (fun k hk => hb.block k (Nat.lt_of_lt_of_le (OG.out k hk).2 EY.out)))
      replace SY := Aside0.mk (Kd.S_below SY.out hb)
      replace EY := Aside0.mk (Nat.le_trans EY.out hb.size)
      clear hgq
      have B9 := Aside0.mk hbox
      simp only [Act.put, List.setIfInBounds_toArray, List.set_cons_zero, List.set_cons_succ]
      have HR6 := Aside0.mk (show R6 F G wq x y t z25 z25 g9 g10 V0.heap.size V1.heap.size V2.heap.size V3.heap.size okg V4 from ⟨HR.out, B9.out, B10.out, FX.out, GY.out, Kd.S_mono SY.out (fun k hk => by have h1 := O0.out k hk; have h2 := Y9.out; have h3 := Y10.out; exact ⟨h1.1, by omega, by omega, h1.2.2⟩), L9.out, L10.out, NG.out, ⟨LX.out, EXX.out, LB.out, EYY.out, EY.out⟩, X9.out, X10.out, fun k hk => by have h1 := OG.out k hk; have h2 := Y9.out; have h3 := Y10.out; exact ⟨h1.1, h1.2, by omega, by omega⟩⟩)
      refine wj_node (l := [6]) (by decide +kernel) (by simp) ?_
      intro i hi; obtain rfl : i = 6 := by simpa using hi
      refine wo_store (vs := x.cells.toList) rfl rfl HR6.out.c9 ?_ rfl rfl rfl (by rfl) (by rfl) (by kernel_rfl) XO.out
      intro v1 h9 far hbel
      replace HR6 := Aside0.mk (HR6.out.set9 HF.out HG.out h9 far hbel)
      refine ⟨fun _ => B5.out _ HR6.out.hr, ?_⟩
      clear hi h9 far hbel
      try simp only [Act.put, List.setIfInBounds_toArray, List.set_cons_zero, List.set_cons_succ]
      refine wj_node (l := [7]) (by decide +kernel) (by simp) ?_
      intro i hi; obtain rfl : i = 7 := by simpa using hi
      refine wo_store (vs := y.cells.toList) rfl rfl HR6.out.c10 ?_ rfl rfl rfl (by rfl) (by rfl) (by kernel_rfl) YO.out
      intro v2 h10 far hbel
      replace HR6 := Aside0.mk (HR6.out.set10 HF.out HG.out h10 far hbel)
      refine ⟨fun _ => B5.out _ HR6.out.hr, ?_⟩
      try simp only [Act.put, List.setIfInBounds_toArray, List.set_cons_zero, List.set_cons_succ]
      refine wpAnyJ_done (by decide +kernel) ?_ _
      go_wp2
      go_meet
      exact ⟨x, y, g9, g10, _, _, _, _, okg, rfl, rfl, HR6⟩
    ·clear hi
     refine wo_alloc (cs := z25) (t := 29) rfl rfl ?_ (by rfl) ?_
     ·first | (go_simp; done) | (go_simp; rfl)
     intro g9 hgq V3 hbox hb
     refine ⟨fun _ => B5.out _ (below_step HR.out hb), ?_⟩
     have X9 := Aside0.mk (show g9 < V0.heap.size ∨ V1.heap.size ≤ g9 from .inr (by rw [hgq]; exact EX.out))
     have NG := Aside0.mk (show g9 ≠ g10 by have := blk_lt B10.out; omega)
     have L9 := Aside0.mk (show wq.heap.size ≤ g9 by rw [hgq]; exact HR.out.size)
     replace HR := Aside0.mk (below_step HR.out hb)
     replace B10 := Aside0.mk (blk_below B10.out hb)
     replace FX := Aside0.mk (HF.out _ _ _ _ FX.out (fun k hk => hb.block k (Nat.lt_of_lt_of_le hk.2 EX.out)))
     replace EX := Aside0.mk (Nat.le_trans EX.out hb.size)
     clear hgq
     have B9 := Aside0.mk hbox
     simp only [Act.put, List.setIfInBounds_toArray, List.set_cons_zero, List.set_cons_succ]
     refine wj_node (l := [3]) (by decide +kernel) (by simp) ?_
     intro i hi
     obtain rfl : i = 3 := by simpa using hi
     ·clear hi
      refine wo_call rfl Try.func7 (by kernel_rfl) rfl #[.agg c.cells] rfl rfl rfl (by (try simp only [List.map_toArray, List.map_cons, List.map_nil]); first | done | rfl) ?_
      (with_reducible refine (HO2.out _ _ (HXb.out _ HR.out)).mono ?_)
      rintro e V4 ⟨y, rfl, ho, ⟨okg, ok0, hg, hs, h0, hg0⟩, hb⟩
      refine ⟨_, rfl, fun _ => B5.out _ (below_step HR.out hb), ?_⟩
      have Y9 := Aside0.mk (show g9 < V3.heap.size ∨ V4.heap.size ≤ g9 from .inl (blk_lt B9.out))
      have Y10 := Aside0.mk (show g10 < V3.heap.size ∨ V4.heap.size ≤ g10 from .inl (blk_lt B10.out))
      have LB := EX; have LY := Aside0.mk HR.out.size
      replace HR := Aside0.mk (below_step HR.out hb)
      replace B9 := Aside0.mk (blk_below B9.out hb)
      replace B10 := Aside0.mk (blk_below B10.out hb)
      replace FX := Aside0.mk (HF.out _ _ _ _ FX.out (fun k hk => hb.block k (Nat.lt_of_lt_of_le hk.2 EX.out)))
      replace EX := Aside0.mk (Nat.le_trans EX.out hb.size)
      have GY := Aside0.mk hg; have SY := Aside0.mk (Kd.S_lower hs LY.out); have O0 := Aside0.mk h0; have OG := Aside0.mk hg0; have EY := Aside0.mk (Nat.le_refl V4.heap.size); have YO := Aside0.mk ho; have EYY := Aside0.mk hb.size
      simp only [Act.put, List.setIfInBounds_toArray, List.set_cons_zero, List.set_cons_succ]
      have HR6 := Aside0.mk (show R6 F G wq x y t z25 z25 g9 g10 V0.heap.size V1.heap.size V3.heap.size V4.heap.size okg V4 from ⟨HR.out, B9.out, B10.out, FX.out, GY.out, Kd.S_mono SY.out (fun k hk => by have h1 := O0.out k hk; have h2 := Y9.out; have h3 := Y10.out; exact ⟨h1.1, by omega, by omega, h1.2.2⟩), L9.out, L10.out, NG.out, ⟨LX.out, EXX.out, LB.out, EYY.out, EY.out⟩, X9.out, X10.out, fun k hk => by have h1 := OG.out k hk; have h2 := Y9.out; have h3 := Y10.out; exact ⟨h1.1, h1.2, by omega, by omega⟩⟩)
      refine wj_node (l := [6]) (by decide +kernel) (by simp) ?_
      intro i hi; obtain rfl : i = 6 := by simpa using hi
      refine wo_store (vs := x.cells.toList) rfl rfl HR6.out.c9 ?_ rfl rfl rfl (by rfl) (by rfl) (by kernel_rfl) XO.out
      intro v1 h9 far hbel
      replace HR6 := Aside0.mk (HR6.out.set9 HF.out HG.out h9 far hbel)
      refine ⟨fun _ => B5.out _ HR6.out.hr, ?_⟩
      clear hi h9 far hbel
      try simp only [Act.put, List.setIfInBounds_toArray, List.set_cons_zero, List.set_cons_succ]
      refine wj_node (l := [7]) (by decide +kernel) (by simp) ?_
      intro i hi; obtain rfl : i = 7 := by simpa using hi
      refine wo_store (vs := y.cells.toList) rfl rfl HR6.out.c10 ?_ rfl rfl rfl (by rfl) (by rfl) (by kernel_rfl) YO.out
      intro v2 h10 far hbel
      replace HR6 := Aside0.mk (HR6.out.set10 HF.out HG.out h10 far hbel)
      refine ⟨fun _ => B5.out _ HR6.out.hr, ?_⟩
      try simp only [Act.put, List.setIfInBounds_toArray, List.set_cons_zero, List.set_cons_succ]
      refine wpAnyJ_done (by decide +kernel) ?_ _
      go_wp2
      go_meet
      exact ⟨x, y, g9, g10, _, _, _, _, okg, rfl, rfl, HR6⟩
  ·clear hi
   refine wo_alloc (cs := z25) (t := 29) rfl rfl ?_ (by rfl) ?_
   ·first | (go_simp; done) | (go_simp; rfl)
   intro g9 hgq V1 hbox hb
   refine ⟨fun _ => B5.out _ (below_step HR.out hb), ?_⟩
   have L9 := Aside0.mk (show wq.heap.size ≤ g9 by rw [hgq]; exact HR.out.size)
   replace HR := Aside0.mk (below_step HR.out hb)
   clear hgq
   have B9 := Aside0.mk hbox
   simp only [Act.put, List.setIfInBounds_toArray, List.set_cons_zero, List.set_cons_succ]
   refine wj_node (l := [1, 5]) (by decide +kernel) (by simp) ?_
   intro i hi
   obtain rfl | rfl : i = 1 ∨ i = 5 := by simpa using hi
   ·clear hi
    refine wo_call rfl Try.func7 (by kernel_rfl) rfl #[.agg c.cells] rfl rfl rfl (by (try simp only [List.map_toArray, List.map_cons, List.map_nil]); first | done | rfl) ?_
    (with_reducible refine (HO.out _ _ (HXb.out _ HR.out)).mono ?_)
    rintro e V2 ⟨x, rfl, ho, hf, hb⟩
    refine ⟨_, rfl, fun _ => B5.out _ (below_step HR.out hb), ?_⟩
    have X9 := Aside0.mk (show g9 < V1.heap.size ∨ V2.heap.size ≤ g9 from .inl (blk_lt B9.out))
    have LX := Aside0.mk HR.out.size
    replace HR := Aside0.mk (below_step HR.out hb)
    replace B9 := Aside0.mk (blk_below B9.out hb)
    have FX := Aside0.mk hf; have EX := Aside0.mk (Nat.le_refl V2.heap.size); have XO := Aside0.mk ho; have EXX := Aside0.mk hb.size
    simp only [Act.put, List.setIfInBounds_toArray, List.set_cons_zero, List.set_cons_succ]
    refine wj_node (l := [3, 5]) (by decide +kernel) (by simp) ?_
    intro i hi
    obtain rfl | rfl : i = 3 ∨ i = 5 := by simpa using hi
    ·clear hi
     refine wo_call rfl Try.func7 (by kernel_rfl) rfl #[.agg c.cells] rfl rfl rfl (by (try simp only [List.map_toArray, List.map_cons, List.map_nil]); first | done | rfl) ?_
     (with_reducible refine (HO2.out _ _ (HXb.out _ HR.out)).mono ?_)
     rintro e V3 ⟨y, rfl, ho, ⟨okg, ok0, hg, hs, h0, hg0⟩, hb⟩
     refine ⟨_, rfl, fun _ => B5.out _ (below_step HR.out hb), ?_⟩
     have Y9 := Aside0.mk (show g9 < V2.heap.size ∨ V3.heap.size ≤ g9 from .inl (blk_lt B9.out))
     have LB := EX; have LY := Aside0.mk HR.out.size
     replace HR := Aside0.mk (below_step HR.out hb)
     replace B9 := Aside0.mk (blk_below B9.out hb)
     replace FX := Aside0.mk (HF.out _ _ _ _ FX.out (fun k hk => hb.block k (Nat.lt_of_lt_of_le hk.2 EX.out)))
     replace EX := Aside0.mk (Nat.le_trans EX.out hb.size)
     have GY := Aside0.mk hg; have SY := Aside0.mk (Kd.S_lower hs LY.out); have O0 := Aside0.mk h0; have OG := Aside0.mk hg0; have EY := Aside0.mk (Nat.le_refl V3.heap.size); have YO := Aside0.mk ho; have EYY := Aside0.mk hb.size
     simp only [Act.put, List.setIfInBounds_toArray, List.set_cons_zero, List.set_cons_succ]
     refine wj_node (l := [5]) (by decide +kernel) (by simp) ?_
     intro i hi
     obtain rfl : i = 5 := by simpa using hi
     ·clear hi
      refine wo_alloc (cs := z25) (t := 29) rfl rfl ?_ (by rfl) ?_
      ·first | (go_simp; done) | (go_simp; rfl)
      intro g10 hgq V4 hbox hb
      refine ⟨fun _ => B5.out _ (below_step HR.out hb), ?_⟩
      have X10 := Aside0.mk (show g10 < V1.heap.size ∨ V2.heap.size ≤ g10 from .inr (by rw [hgq]; exact EX.out))
      have Y10 := Aside0.mk (show g10 < V2.heap.size ∨ V3.heap.size ≤ g10 from .inr (by rw [hgq]; exact EY.out))
      have NG := Aside0.mk (show g9 ≠ g10 by have := blk_lt B9.out; omega)
      have L10 := Aside0.mk (show wq.heap.size ≤ g10 by rw [hgq]; exact HR.out.size)
      replace HR := Aside0.mk (below_step HR.out hb)
      replace B9 := Aside0.mk (blk_below B9.out hb)
      replace FX := Aside0.mk (HF.out _ _ _ _ FX.out (fun k hk => hb.block k (Nat.lt_of_lt_of_le hk.2 EX.out)))
      replace EX := Aside0.mk (Nat.le_trans EX.out hb.size)
      replace GY := Aside0.mk (HG.out _ _ _ _ GY.out (fun k hk => hb.block k (Nat.lt_of_lt_of_le (OG.out k hk).2 EY.out)))
      replace SY := Aside0.mk (Kd.S_below SY.out hb)
      replace EY := Aside0.mk (Nat.le_trans EY.out hb.size)
      clear hgq
      have B10 := Aside0.mk hbox
      simp only [Act.put, List.setIfInBounds_toArray, List.set_cons_zero, List.set_cons_succ]
      have HR6 := Aside0.mk (show R6 F G wq x y t z25 z25 g9 g10 V1.heap.size V2.heap.size V2.heap.size V3.heap.size okg V4 from ⟨HR.out, B9.out, B10.out, FX.out, GY.out, Kd.S_mono SY.out (fun k hk => by have h1 := O0.out k hk; have h2 := Y9.out; have h3 := Y10.out; exact ⟨h1.1, by omega, by omega, h1.2.2⟩), L9.out, L10.out, NG.out, ⟨LX.out, EXX.out, LB.out, EYY.out, EY.out⟩, X9.out, X10.out, fun k hk => by have h1 := OG.out k hk; have h2 := Y9.out; have h3 := Y10.out; exact ⟨h1.1, h1.2, by omega, by omega⟩⟩)
      refine wj_node (l := [6]) (by decide +kernel) (by simp) ?_
      intro i hi; obtain rfl : i = 6 := by simpa using hi
      refine wo_store (vs := x.cells.toList) rfl rfl HR6.out.c9 ?_ rfl rfl rfl (by rfl) (by rfl) (by kernel_rfl) XO.out
      intro v1 h9 far hbel
      replace HR6 := Aside0.mk (HR6.out.set9 HF.out HG.out h9 far hbel)
      refine ⟨fun _ => B5.out _ HR6.out.hr, ?_⟩
      clear hi h9 far hbel
      try simp only [Act.put, List.setIfInBounds_toArray, List.set_cons_zero, List.set_cons_succ]
      refine wj_node (l := [7]) (by decide +kernel) (by simp) ?_
      intro i hi; obtain rfl : i = 7 := by simpa using hi
      refine wo_store (vs := y.cells.toList) rfl rfl HR6.out.c10 ?_ rfl rfl rfl (by rfl) (by rfl) (by kernel_rfl) YO.out
      intro v2 h10 far hbel
      replace HR6 := Aside0.mk (HR6.out.set10 HF.out HG.out h10 far hbel)
      refine ⟨fun _ => B5.out _ HR6.out.hr, ?_⟩
      try simp only [Act.put, List.setIfInBounds_toArray, List.set_cons_zero, List.set_cons_succ]
      refine wpAnyJ_done (by decide +kernel) ?_ _
      go_wp2
      go_meet
      exact ⟨x, y, g9, g10, _, _, _, _, okg, rfl, rfl, HR6⟩
    ·clear hi
     refine wo_alloc (cs := z25) (t := 29) rfl rfl ?_ (by rfl) ?_
     ·first | (go_simp; done) | (go_simp; rfl)
     intro g10 hgq V3 hbox hb
     refine ⟨fun _ => B5.out _ (below_step HR.out hb), ?_⟩
     have X10 := Aside0.mk (show g10 < V1.heap.size ∨ V2.heap.size ≤ g10 from .inr (by rw [hgq]; exact EX.out))
     have NG := Aside0.mk (show g9 ≠ g10 by have := blk_lt B9.out; omega)
     have L10 := Aside0.mk (show wq.heap.size ≤ g10 by rw [hgq]; exact HR.out.size)
     replace HR := Aside0.mk (below_step HR.out hb)
     replace B9 := Aside0.mk (blk_below B9.out hb)
     replace FX := Aside0.mk (HF.out _ _ _ _ FX.out (fun k hk => hb.block k (Nat.lt_of_lt_of_le hk.2 EX.out)))
     replace EX := Aside0.mk (Nat.le_trans EX.out hb.size)
     clear hgq
     have B10 := Aside0.mk hbox
     simp only [Act.put, List.setIfInBounds_toArray, List.set_cons_zero, List.set_cons_succ]
     refine wj_node (l := [3]) (by decide +kernel) (by simp) ?_
     intro i hi
     obtain rfl : i = 3 := by simpa using hi
     ·clear hi
      refine wo_call rfl Try.func7 (by kernel_rfl) rfl #[.agg c.cells] rfl rfl rfl (by (try simp only [List.map_toArray, List.map_cons, List.map_nil]); first | done | rfl) ?_
      (with_reducible refine (HO2.out _ _ (HXb.out _ HR.out)).mono ?_)
      rintro e V4 ⟨y, rfl, ho, ⟨okg, ok0, hg, hs, h0, hg0⟩, hb⟩
      refine ⟨_, rfl, fun _ => B5.out _ (below_step HR.out hb), ?_⟩
      have Y9 := Aside0.mk (show g9 < V3.heap.size ∨ V4.heap.size ≤ g9 from .inl (blk_lt B9.out))
      have Y10 := Aside0.mk (show g10 < V3.heap.size ∨ V4.heap.size ≤ g10 from .inl (blk_lt B10.out))
      have LB := EX; have LY := Aside0.mk HR.out.size
      replace HR := Aside0.mk (below_step HR.out hb)
      replace B9 := Aside0.mk (blk_below B9.out hb)
      replace B10 := Aside0.mk (blk_below B10.out hb)
      replace FX := Aside0.mk (HF.out _ _ _ _ FX.out (fun k hk => hb.block k (Nat.lt_of_lt_of_le hk.2 EX.out)))
      replace EX := Aside0.mk (Nat.le_trans EX.out hb.size)
      have GY := Aside0.mk hg; have SY := Aside0.mk (Kd.S_lower hs LY.out); have O0 := Aside0.mk h0; have OG := Aside0.mk hg0; have EY := Aside0.mk (Nat.le_refl V4.heap.size); have YO := Aside0.mk ho; have EYY := Aside0.mk hb.size
      simp only [Act.put, List.setIfInBounds_toArray, List.set_cons_zero, List.set_cons_succ]
      have HR6 := Aside0.mk (show R6 F G wq x y t z25 z25 g9 g10 V1.heap.size V2.heap.size V3.heap.size V4.heap.size okg V4 from ⟨HR.out, B9.out, B10.out, FX.out, GY.out, Kd.S_mono SY.out (fun k hk => by have h1 := O0.out k hk; have h2 := Y9.out; have h3 := Y10.out; exact ⟨h1.1, by omega, by omega, h1.2.2⟩), L9.out, L10.out, NG.out, ⟨LX.out, EXX.out, LB.out, EYY.out, EY.out⟩, X9.out, X10.out, fun k hk => by have h1 := OG.out k hk; have h2 := Y9.out; have h3 := Y10.out; exact ⟨h1.1, h1.2, by omega, by omega⟩⟩)
      refine wj_node (l := [6]) (by decide +kernel) (by simp) ?_
      intro i hi; obtain rfl : i = 6 := by simpa using hi
      refine wo_store (vs := x.cells.toList) rfl rfl HR6.out.c9 ?_ rfl rfl rfl (by rfl) (by rfl) (by kernel_rfl) XO.out
      intro v1 h9 far hbel
      replace HR6 := Aside0.mk (HR6.out.set9 HF.out HG.out h9 far hbel)
      refine ⟨fun _ => B5.out _ HR6.out.hr, ?_⟩
      clear hi h9 far hbel
      try simp only [Act.put, List.setIfInBounds_toArray, List.set_cons_zero, List.set_cons_succ]
      refine wj_node (l := [7]) (by decide +kernel) (by simp) ?_
      intro i hi; obtain rfl : i = 7 := by simpa using hi
      refine wo_store (vs := y.cells.toList) rfl rfl HR6.out.c10 ?_ rfl rfl rfl (by rfl) (by rfl) (by kernel_rfl) YO.out
      intro v2 h10 far hbel
      replace HR6 := Aside0.mk (HR6.out.set10 HF.out HG.out h10 far hbel)
      refine ⟨fun _ => B5.out _ HR6.out.hr, ?_⟩
      try simp only [Act.put, List.setIfInBounds_toArray, List.set_cons_zero, List.set_cons_succ]
      refine wpAnyJ_done (by decide +kernel) ?_ _
      go_wp2
      go_meet
      exact ⟨x, y, g9, g10, _, _, _, _, okg, rfl, rfl, HR6⟩
   ·clear hi
    refine wo_alloc (cs := z25) (t := 29) rfl rfl ?_ (by rfl) ?_
    ·first | (go_simp; done) | (go_simp; rfl)
    intro g10 hgq V2 hbox hb
    refine ⟨fun _ => B5.out _ (below_step HR.out hb), ?_⟩
    have NG := Aside0.mk (show g9 ≠ g10 by have := blk_lt B9.out; omega)
    have L10 := Aside0.mk (show wq.heap.size ≤ g10 by rw [hgq]; exact HR.out.size)
    replace HR := Aside0.mk (below_step HR.out hb)
    replace B9 := Aside0.mk (blk_below B9.out hb)
    clear hgq
    have B10 := Aside0.mk hbox
    simp only [Act.put, List.setIfInBounds_toArray, List.set_cons_zero, List.set_cons_succ]
    refine wj_node (l := [1]) (by decide +kernel) (by simp) ?_
    intro i hi
    obtain rfl : i = 1 := by simpa using hi
    ·clear hi
     refine wo_call rfl Try.func7 (by kernel_rfl) rfl #[.agg c.cells] rfl rfl rfl (by (try simp only [List.map_toArray, List.map_cons, List.map_nil]); first | done | rfl) ?_
     (with_reducible refine (HO.out _ _ (HXb.out _ HR.out)).mono ?_)
     rintro e V3 ⟨x, rfl, ho, hf, hb⟩
     refine ⟨_, rfl, fun _ => B5.out _ (below_step HR.out hb), ?_⟩
     have X9 := Aside0.mk (show g9 < V2.heap.size ∨ V3.heap.size ≤ g9 from .inl (blk_lt B9.out))
     have X10 := Aside0.mk (show g10 < V2.heap.size ∨ V3.heap.size ≤ g10 from .inl (blk_lt B10.out))
     have LX := Aside0.mk HR.out.size
     replace HR := Aside0.mk (below_step HR.out hb)
     replace B9 := Aside0.mk (blk_below B9.out hb)
     replace B10 := Aside0.mk (blk_below B10.out hb)
     have FX := Aside0.mk hf; have EX := Aside0.mk (Nat.le_refl V3.heap.size); have XO := Aside0.mk ho; have EXX := Aside0.mk hb.size
     simp only [Act.put, List.setIfInBounds_toArray, List.set_cons_zero, List.set_cons_succ]
     refine wj_node (l := [3]) (by decide +kernel) (by simp) ?_
     intro i hi
     obtain rfl : i = 3 := by simpa using hi
     ·clear hi
      refine wo_call rfl Try.func7 (by kernel_rfl) rfl #[.agg c.cells] rfl rfl rfl (by (try simp only [List.map_toArray, List.map_cons, List.map_nil]); first | done | rfl) ?_
      (with_reducible refine (HO2.out _ _ (HXb.out _ HR.out)).mono ?_)
      rintro e V4 ⟨y, rfl, ho, ⟨okg, ok0, hg, hs, h0, hg0⟩, hb⟩
      refine ⟨_, rfl, fun _ => B5.out _ (below_step HR.out hb), ?_⟩
      have Y9 := Aside0.mk (show g9 < V3.heap.size ∨ V4.heap.size ≤ g9 from .inl (blk_lt B9.out))
      have Y10 := Aside0.mk (show g10 < V3.heap.size ∨ V4.heap.size ≤ g10 from .inl (blk_lt B10.out))
      have LB := EX; have LY := Aside0.mk HR.out.size
      replace HR := Aside0.mk (below_step HR.out hb)
      replace B9 := Aside0.mk (blk_below B9.out hb)
      replace B10 := Aside0.mk (blk_below B10.out hb)
      replace FX := Aside0.mk (HF.out _ _ _ _ FX.out (fun k hk => hb.block k (Nat.lt_of_lt_of_le hk.2 EX.out)))
      replace EX := Aside0.mk (Nat.le_trans EX.out hb.size)
      have GY := Aside0.mk hg; have SY := Aside0.mk (Kd.S_lower hs LY.out); have O0 := Aside0.mk h0; have OG := Aside0.mk hg0; have EY := Aside0.mk (Nat.le_refl V4.heap.size); have YO := Aside0.mk ho; have EYY := Aside0.mk hb.size
      simp only [Act.put, List.setIfInBounds_toArray, List.set_cons_zero, List.set_cons_succ]
      have HR6 := Aside0.mk (show R6 F G wq x y t z25 z25 g9 g10 V2.heap.size V3.heap.size V3.heap.size V4.heap.size okg V4 from ⟨HR.out, B9.out, B10.out, FX.out, GY.out, Kd.S_mono SY.out (fun k hk => by have h1 := O0.out k hk; have h2 := Y9.out; have h3 := Y10.out; exact ⟨h1.1, by omega, by omega, h1.2.2⟩), L9.out, L10.out, NG.out, ⟨LX.out, EXX.out, LB.out, EYY.out, EY.out⟩, X9.out, X10.out, fun k hk => by have h1 := OG.out k hk; have h2 := Y9.out; have h3 := Y10.out; exact ⟨h1.1, h1.2, by omega, by omega⟩⟩)
      refine wj_node (l := [6]) (by decide +kernel) (by simp) ?_
      intro i hi; obtain rfl : i = 6 := by simpa using hi
      refine wo_store (vs := x.cells.toList) rfl rfl HR6.out.c9 ?_ rfl rfl rfl (by rfl) (by rfl) (by kernel_rfl) XO.out
      intro v1 h9 far hbel
      replace HR6 := Aside0.mk (HR6.out.set9 HF.out HG.out h9 far hbel)
      refine ⟨fun _ => B5.out _ HR6.out.hr, ?_⟩
      clear hi h9 far hbel
      try simp only [Act.put, List.setIfInBounds_toArray, List.set_cons_zero, List.set_cons_succ]
      refine wj_node (l := [7]) (by decide +kernel) (by simp) ?_
      intro i hi; obtain rfl : i = 7 := by simpa using hi
      refine wo_store (vs := y.cells.toList) rfl rfl HR6.out.c10 ?_ rfl rfl rfl (by rfl) (by rfl) (by kernel_rfl) YO.out
      intro v2 h10 far hbel
      replace HR6 := Aside0.mk (HR6.out.set10 HF.out HG.out h10 far hbel)
      refine ⟨fun _ => B5.out _ HR6.out.hr, ?_⟩
      try simp only [Act.put, List.setIfInBounds_toArray, List.set_cons_zero, List.set_cons_succ]
      refine wpAnyJ_done (by decide +kernel) ?_ _
      go_wp2
      go_meet
      exact ⟨x, y, g9, g10, _, _, _, _, okg, rfl, rfl, HR6⟩
  ·clear hi
   refine wo_alloc (cs := z25) (t := 29) rfl rfl ?_ (by rfl) ?_
   ·first | (go_simp; done) | (go_simp; rfl)
   intro g10 hgq V1 hbox hb
   refine ⟨fun _ => B5.out _ (below_step HR.out hb), ?_⟩
   have L10 := Aside0.mk (show wq.heap.size ≤ g10 by rw [hgq]; exact HR.out.size)
   replace HR := Aside0.mk (below_step HR.out hb)
   clear hgq
   have B10 := Aside0.mk hbox
   simp only [Act.put, List.setIfInBounds_toArray, List.set_cons_zero, List.set_cons_succ]
   refine wj_node (l := [1, 4]) (by decide +kernel) (by simp) ?_
   intro i hi
   obtain rfl | rfl : i = 1 ∨ i = 4 := by simpa using hi
   ·clear hi
    refine wo_call rfl Try.func7 (by kernel_rfl) rfl #[.agg c.cells] rfl rfl rfl (by (try simp only [List.map_toArray, List.map_cons, List.map_nil]); first | done | rfl) ?_
    (with_reducible refine (HO.out _ _ (HXb.out _ HR.out)).mono ?_)
    rintro e V2 ⟨x, rfl, ho, hf, hb⟩
    refine ⟨_, rfl, fun _ => B5.out _ (below_step HR.out hb), ?_⟩
    have X10 := Aside0.mk (show g10 < V1.heap.size ∨ V2.heap.size ≤ g10 from .inl (blk_lt B10.out))
    have LX := Aside0.mk HR.out.size
    replace HR := Aside0.mk (below_step HR.out hb)
    replace B10 := Aside0.mk (blk_below B10.out hb)
    have FX := Aside0.mk hf; have EX := Aside0.mk (Nat.le_refl V2.heap.size); have XO := Aside0.mk ho; have EXX := Aside0.mk hb.size
    simp only [Act.put, List.setIfInBounds_toArray, List.set_cons_zero, List.set_cons_succ]
    refine wj_node (l := [3, 4]) (by decide +kernel) (by simp) ?_
    intro i hi
    obtain rfl | rfl : i = 3 ∨ i = 4 := by simpa using hi
    ·clear hi
     refine wo_call rfl Try.func7 (by kernel_rfl) rfl #[.agg c.cells] rfl rfl rfl (by (try simp only [List.map_toArray, List.map_cons, List.map_nil]); first | done | rfl) ?_
     (with_reducible refine (HO2.out _ _ (HXb.out _ HR.out)).mono ?_)
     rintro e V3 ⟨y, rfl, ho, ⟨okg, ok0, hg, hs, h0, hg0⟩, hb⟩
     refine ⟨_, rfl, fun _ => B5.out _ (below_step HR.out hb), ?_⟩
     have Y10 := Aside0.mk (show g10 < V2.heap.size ∨ V3.heap.size ≤ g10 from .inl (blk_lt B10.out))
     have LB := EX; have LY := Aside0.mk HR.out.size
     replace HR := Aside0.mk (below_step HR.out hb)
     replace B10 := Aside0.mk (blk_below B10.out hb)
     replace FX := Aside0.mk (HF.out _ _ _ _ FX.out (fun k hk => hb.block k (Nat.lt_of_lt_of_le hk.2 EX.out)))
     replace EX := Aside0.mk (Nat.le_trans EX.out hb.size)
     have GY := Aside0.mk hg; have SY := Aside0.mk (Kd.S_lower hs LY.out); have O0 := Aside0.mk h0; have OG := Aside0.mk hg0; have EY := Aside0.mk (Nat.le_refl V3.heap.size); have YO := Aside0.mk ho; have EYY := Aside0.mk hb.size
     simp only [Act.put, List.setIfInBounds_toArray, List.set_cons_zero, List.set_cons_succ]
     refine wj_node (l := [4]) (by decide +kernel) (by simp) ?_
     intro i hi
     obtain rfl : i = 4 := by simpa using hi
     ·clear hi
      refine wo_alloc (cs := z25) (t := 29) rfl rfl ?_ (by rfl) ?_
      ·first | (go_simp; done) | (go_simp; rfl)
      intro g9 hgq V4 hbox hb
      refine ⟨fun _ => B5.out _ (below_step HR.out hb), ?_⟩
      have X9 := Aside0.mk (show g9 < V1.heap.size ∨ V2.heap.size ≤ g9 from .inr (by rw [hgq]; exact EX.out))
      have Y9 := Aside0.mk (show g9 < V2.heap.size ∨ V3.heap.size ≤ g9 from .inr (by rw [hgq]; exact EY.out))
      have NG := Aside0.mk (show g9 ≠ g10 by have := blk_lt B10.out; omega)
      have L9 := Aside0.mk (show wq.heap.size ≤ g9 by rw [hgq]; exact HR.out.size)
      replace HR := Aside0.mk (below_step HR.out hb)
      replace B10 := Aside0.mk (blk_below B10.out hb)
      replace FX := Aside0.mk (HF.out _ _ _ _ FX.out (fun k hk => hb.block k (Nat.lt_of_lt_of_le hk.2 EX.out)))
      replace EX := Aside0.mk (Nat.le_trans EX.out hb.size)
      replace GY := Aside0.mk (HG.out _ _ _ _ GY.out (fun k hk => hb.block k (Nat.lt_of_lt_of_le (OG.out k hk).2 EY.out)))
      replace SY := Aside0.mk (Kd.S_below SY.out hb)
      replace EY := Aside0.mk (Nat.le_trans EY.out hb.size)
      clear hgq
      have B9 := Aside0.mk hbox
      simp only [Act.put, List.setIfInBounds_toArray, List.set_cons_zero, List.set_cons_succ]
      have HR6 := Aside0.mk (show R6 F G wq x y t z25 z25 g9 g10 V1.heap.size V2.heap.size V2.heap.size V3.heap.size okg V4 from ⟨HR.out, B9.out, B10.out, FX.out, GY.out, Kd.S_mono SY.out (fun k hk => by have h1 := O0.out k hk; have h2 := Y9.out; have h3 := Y10.out; exact ⟨h1.1, by omega, by omega, h1.2.2⟩), L9.out, L10.out, NG.out, ⟨LX.out, EXX.out, LB.out, EYY.out, EY.out⟩, X9.out, X10.out, fun k hk => by have h1 := OG.out k hk; have h2 := Y9.out; have h3 := Y10.out; exact ⟨h1.1, h1.2, by omega, by omega⟩⟩)
      refine wj_node (l := [6]) (by decide +kernel) (by simp) ?_
      intro i hi; obtain rfl : i = 6 := by simpa using hi
      refine wo_store (vs := x.cells.toList) rfl rfl HR6.out.c9 ?_ rfl rfl rfl (by rfl) (by rfl) (by kernel_rfl) XO.out
      intro v1 h9 far hbel
      replace HR6 := Aside0.mk (HR6.out.set9 HF.out HG.out h9 far hbel)
      refine ⟨fun _ => B5.out _ HR6.out.hr, ?_⟩
      clear hi h9 far hbel
      try simp only [Act.put, List.setIfInBounds_toArray, List.set_cons_zero, List.set_cons_succ]
      refine wj_node (l := [7]) (by decide +kernel) (by simp) ?_
      intro i hi; obtain rfl : i = 7 := by simpa using hi
      refine wo_store (vs := y.cells.toList) rfl rfl HR6.out.c10 ?_ rfl rfl rfl (by rfl) (by rfl) (by kernel_rfl) YO.out
      intro v2 h10 far hbel
      replace HR6 := Aside0.mk (HR6.out.set10 HF.out HG.out h10 far hbel)
      refine ⟨fun _ => B5.out _ HR6.out.hr, ?_⟩
      try simp only [Act.put, List.setIfInBounds_toArray, List.set_cons_zero, List.set_cons_succ]
      refine wpAnyJ_done (by decide +kernel) ?_ _
      go_wp2
      go_meet
      exact ⟨x, y, g9, g10, _, _, _, _, okg, rfl, rfl, HR6⟩
    ·clear hi
     refine wo_alloc (cs := z25) (t := 29) rfl rfl ?_ (by rfl) ?_
     ·first | (go_simp; done) | (go_simp; rfl)
     intro g9 hgq V3 hbox hb
     refine ⟨fun _ => B5.out _ (below_step HR.out hb), ?_⟩
     have X9 := Aside0.mk (show g9 < V1.heap.size ∨ V2.heap.size ≤ g9 from .inr (by rw [hgq]; exact EX.out))
     have NG := Aside0.mk (show g9 ≠ g10 by have := blk_lt B10.out; omega)
     have L9 := Aside0.mk (show wq.heap.size ≤ g9 by rw [hgq]; exact HR.out.size)
     replace HR := Aside0.mk (below_step HR.out hb)
     replace B10 := Aside0.mk (blk_below B10.out hb)
     replace FX := Aside0.mk (HF.out _ _ _ _ FX.out (fun k hk => hb.block k (Nat.lt_of_lt_of_le hk.2 EX.out)))
     replace EX := Aside0.mk (Nat.le_trans EX.out hb.size)
     clear hgq
     have B9 := Aside0.mk hbox
     simp only [Act.put, List.setIfInBounds_toArray, List.set_cons_zero, List.set_cons_succ]
     refine wj_node (l := [3]) (by decide +kernel) (by simp) ?_
     intro i hi
     obtain rfl : i = 3 := by simpa using hi
     ·clear hi
      refine wo_call rfl Try.func7 (by kernel_rfl) rfl #[.agg c.cells] rfl rfl rfl (by (try simp only [List.map_toArray, List.map_cons, List.map_nil]); first | done | rfl) ?_
      (with_reducible refine (HO2.out _ _ (HXb.out _ HR.out)).mono ?_)
      rintro e V4 ⟨y, rfl, ho, ⟨okg, ok0, hg, hs, h0, hg0⟩, hb⟩
      refine ⟨_, rfl, fun _ => B5.out _ (below_step HR.out hb), ?_⟩
      have Y9 := Aside0.mk (show g9 < V3.heap.size ∨ V4.heap.size ≤ g9 from .inl (blk_lt B9.out))
      have Y10 := Aside0.mk (show g10 < V3.heap.size ∨ V4.heap.size ≤ g10 from .inl (blk_lt B10.out))
      have LB := EX; have LY := Aside0.mk HR.out.size
      replace HR := Aside0.mk (below_step HR.out hb)
      replace B9 := Aside0.mk (blk_below B9.out hb)
      replace B10 := Aside0.mk (blk_below B10.out hb)
      replace FX := Aside0.mk (HF.out _ _ _ _ FX.out (fun k hk => hb.block k (Nat.lt_of_lt_of_le hk.2 EX.out)))
      replace EX := Aside0.mk (Nat.le_trans EX.out hb.size)
      have GY := Aside0.mk hg; have SY := Aside0.mk (Kd.S_lower hs LY.out); have O0 := Aside0.mk h0; have OG := Aside0.mk hg0; have EY := Aside0.mk (Nat.le_refl V4.heap.size); have YO := Aside0.mk ho; have EYY := Aside0.mk hb.size
      simp only [Act.put, List.setIfInBounds_toArray, List.set_cons_zero, List.set_cons_succ]
      have HR6 := Aside0.mk (show R6 F G wq x y t z25 z25 g9 g10 V1.heap.size V2.heap.size V3.heap.size V4.heap.size okg V4 from ⟨HR.out, B9.out, B10.out, FX.out, GY.out, Kd.S_mono SY.out (fun k hk => by have h1 := O0.out k hk; have h2 := Y9.out; have h3 := Y10.out; exact ⟨h1.1, by omega, by omega, h1.2.2⟩), L9.out, L10.out, NG.out, ⟨LX.out, EXX.out, LB.out, EYY.out, EY.out⟩, X9.out, X10.out, fun k hk => by have h1 := OG.out k hk; have h2 := Y9.out; have h3 := Y10.out; exact ⟨h1.1, h1.2, by omega, by omega⟩⟩)
      refine wj_node (l := [6]) (by decide +kernel) (by simp) ?_
      intro i hi; obtain rfl : i = 6 := by simpa using hi
      refine wo_store (vs := x.cells.toList) rfl rfl HR6.out.c9 ?_ rfl rfl rfl (by rfl) (by rfl) (by kernel_rfl) XO.out
      intro v1 h9 far hbel
      replace HR6 := Aside0.mk (HR6.out.set9 HF.out HG.out h9 far hbel)
      refine ⟨fun _ => B5.out _ HR6.out.hr, ?_⟩
      clear hi h9 far hbel
      try simp only [Act.put, List.setIfInBounds_toArray, List.set_cons_zero, List.set_cons_succ]
      refine wj_node (l := [7]) (by decide +kernel) (by simp) ?_
      intro i hi; obtain rfl : i = 7 := by simpa using hi
      refine wo_store (vs := y.cells.toList) rfl rfl HR6.out.c10 ?_ rfl rfl rfl (by rfl) (by rfl) (by kernel_rfl) YO.out
      intro v2 h10 far hbel
      replace HR6 := Aside0.mk (HR6.out.set10 HF.out HG.out h10 far hbel)
      refine ⟨fun _ => B5.out _ HR6.out.hr, ?_⟩
      try simp only [Act.put, List.setIfInBounds_toArray, List.set_cons_zero, List.set_cons_succ]
      refine wpAnyJ_done (by decide +kernel) ?_ _
      go_wp2
      go_meet
      exact ⟨x, y, g9, g10, _, _, _, _, okg, rfl, rfl, HR6⟩
   ·clear hi
    refine wo_alloc (cs := z25) (t := 29) rfl rfl ?_ (by rfl) ?_
    ·first | (go_simp; done) | (go_simp; rfl)
    intro g9 hgq V2 hbox hb
    refine ⟨fun _ => B5.out _ (below_step HR.out hb), ?_⟩
    have NG := Aside0.mk (show g9 ≠ g10 by have := blk_lt B10.out; omega)
    have L9 := Aside0.mk (show wq.heap.size ≤ g9 by rw [hgq]; exact HR.out.size)
    replace HR := Aside0.mk (below_step HR.out hb)
    replace B10 := Aside0.mk (blk_below B10.out hb)
    clear hgq
    have B9 := Aside0.mk hbox
    simp only [Act.put, List.setIfInBounds_toArray, List.set_cons_zero, List.set_cons_succ]
    refine wj_node (l := [1]) (by decide +kernel) (by simp) ?_
    intro i hi
    obtain rfl : i = 1 := by simpa using hi
    ·clear hi
     refine wo_call rfl Try.func7 (by kernel_rfl) rfl #[.agg c.cells] rfl rfl rfl (by (try simp only [List.map_toArray, List.map_cons, List.map_nil]); first | done | rfl) ?_
     (with_reducible refine (HO.out _ _ (HXb.out _ HR.out)).mono ?_)
     rintro e V3 ⟨x, rfl, ho, hf, hb⟩
     refine ⟨_, rfl, fun _ => B5.out _ (below_step HR.out hb), ?_⟩
     have X9 := Aside0.mk (show g9 < V2.heap.size ∨ V3.heap.size ≤ g9 from .inl (blk_lt B9.out))
     have X10 := Aside0.mk (show g10 < V2.heap.size ∨ V3.heap.size ≤ g10 from .inl (blk_lt B10.out))
     have LX := Aside0.mk HR.out.size
     replace HR := Aside0.mk (below_step HR.out hb)
     replace B9 := Aside0.mk (blk_below B9.out hb)
     replace B10 := Aside0.mk (blk_below B10.out hb)
     have FX := Aside0.mk hf; have EX := Aside0.mk (Nat.le_refl V3.heap.size); have XO := Aside0.mk ho; have EXX := Aside0.mk hb.size
     simp only [Act.put, List.setIfInBounds_toArray, List.set_cons_zero, List.set_cons_succ]
     refine wj_node (l := [3]) (by decide +kernel) (by simp) ?_
     intro i hi
     obtain rfl : i = 3 := by simpa using hi
     ·clear hi
      refine wo_call rfl Try.func7 (by kernel_rfl) rfl #[.agg c.cells] rfl rfl rfl (by (try simp only [List.map_toArray, List.map_cons, List.map_nil]); first | done | rfl) ?_
      (with_reducible refine (HO2.out _ _ (HXb.out _ HR.out)).mono ?_)
      rintro e V4 ⟨y, rfl, ho, ⟨okg, ok0, hg, hs, h0, hg0⟩, hb⟩
      refine ⟨_, rfl, fun _ => B5.out _ (below_step HR.out hb), ?_⟩
      have Y9 := Aside0.mk (show g9 < V3.heap.size ∨ V4.heap.size ≤ g9 from .inl (blk_lt B9.out))
      have Y10 := Aside0.mk (show g10 < V3.heap.size ∨ V4.heap.size ≤ g10 from .inl (blk_lt B10.out))
      have LB := EX; have LY := Aside0.mk HR.out.size
      replace HR := Aside0.mk (below_step HR.out hb)
      replace B9 := Aside0.mk (blk_below B9.out hb)
      replace B10 := Aside0.mk (blk_below B10.out hb)
      replace FX := Aside0.mk (HF.out _ _ _ _ FX.out (fun k hk => hb.block k (Nat.lt_of_lt_of_le hk.2 EX.out)))
      replace EX := Aside0.mk (Nat.le_trans EX.out hb.size)
      have GY := Aside0.mk hg; have SY := Aside0.mk (Kd.S_lower hs LY.out); have O0 := Aside0.mk h0; have OG := Aside0.mk hg0; have EY := Aside0.mk (Nat.le_refl V4.heap.size); have YO := Aside0.mk ho; have EYY := Aside0.mk hb.size
      simp only [Act.put, List.setIfInBounds_toArray, List.set_cons_zero, List.set_cons_succ]
      have HR6 := Aside0.mk (show R6 F G wq x y t z25 z25 g9 g10 V2.heap.size V3.heap.size V3.heap.size V4.heap.size okg V4 from ⟨HR.out, B9.out, B10.out, FX.out, GY.out, Kd.S_mono SY.out (fun k hk => by have h1 := O0.out k hk; have h2 := Y9.out; have h3 := Y10.out; exact ⟨h1.1, by omega, by omega, h1.2.2⟩), L9.out, L10.out, NG.out, ⟨LX.out, EXX.out, LB.out, EYY.out, EY.out⟩, X9.out, X10.out, fun k hk => by have h1 := OG.out k hk; have h2 := Y9.out; have h3 := Y10.out; exact ⟨h1.1, h1.2, by omega, by omega⟩⟩)
      refine wj_node (l := [6]) (by decide +kernel) (by simp) ?_
      intro i hi; obtain rfl : i = 6 := by simpa using hi
      refine wo_store (vs := x.cells.toList) rfl rfl HR6.out.c9 ?_ rfl rfl rfl (by rfl) (by rfl) (by kernel_rfl) XO.out
      intro v1 h9 far hbel
      replace HR6 := Aside0.mk (HR6.out.set9 HF.out HG.out h9 far hbel)
      refine ⟨fun _ => B5.out _ HR6.out.hr, ?_⟩
      clear hi h9 far hbel
      try simp only [Act.put, List.setIfInBounds_toArray, List.set_cons_zero, List.set_cons_succ]
      refine wj_node (l := [7]) (by decide +kernel) (by simp) ?_
      intro i hi; obtain rfl : i = 7 := by simpa using hi
      refine wo_store (vs := y.cells.toList) rfl rfl HR6.out.c10 ?_ rfl rfl rfl (by rfl) (by rfl) (by kernel_rfl) YO.out
      intro v2 h10 far hbel
      replace HR6 := Aside0.mk (HR6.out.set10 HF.out HG.out h10 far hbel)
      refine ⟨fun _ => B5.out _ HR6.out.hr, ?_⟩
      try simp only [Act.put, List.setIfInBounds_toArray, List.set_cons_zero, List.set_cons_succ]
      refine wpAnyJ_done (by decide +kernel) ?_ _
      go_wp2
      go_meet
      exact ⟨x, y, g9, g10, _, _, _, _, okg, rfl, rfl, HR6⟩
  --END6
 case rest =>
  obtain ⟨x, y, g9, g10, b1, e1, b2, e2, okg, rfl, rfl, K⟩ := hcut
  go_upto_region 7 with fail
  go_cut [] (fun wc => Aside0 (R6 F G wq x y t (xcells D x) y.cells g9 g10 b1 e1 b2 e2 okg wc))
  case first =>
   have hc := cz25 K.out.c9
   have hf := blk_frozen K.out.c9
   have q0 : wrap64 0 = 0 := by unfold wrap64; omega
   have q1 : wrap64 1 = 1 := by unfold wrap64; omega
   have q2 : wrap64 2 = 2 := by unfold wrap64; omega
   rcases HMM.out with rfl | rfl | rfl
   ·go_wp2
    go_meet
    exact ⟨K.out.cell9 HF.out HG.out _ _ (xcells_1 x)⟩
   ·go_wp2
    go_meet
    exact ⟨K.out.cell9 HF.out HG.out _ _ (xcells_2 x)⟩
   ·go_wp2
    go_meet
    exact ⟨K.out.cell9 HF.out HG.out _ _ (xcells_3 x)⟩
  case rest =>
   clear K
   have K := hcut
   clear hcut
   go_upto_region 8 with fail
   go_cut [] (fun wc => Aside0 (R6 F G wq x y t (xcells D x) (gcells y) g9 g10 b1 e1 b2 e2 okg wc))
   case first =>
    have hc := cz25 K.out.c10
    have hf := blk_frozen K.out.c10
    go_wp2
    go_meet
    exact ⟨K.out.cell10 HF.out HG.out _ _ (gcells_of y)⟩
   case rest =>
    clear K
    have K := hcut
    clear hcut
    obtain ⟨gr, cap, hro, hgb, _⟩ := Kd.S_form K.out.sy HT0.out.1
    have RO := Aside0.mk hro
    have GR := Aside0.mk hgb
    clear hro hgb
    go_wp2_with fail
    go_loopg [11] t.length (fun kq v11 w' => ∃ i : Nat, v11 = .int .i64 i ∧ Aside0 (i + kq = t.length) ∧ Aside0 (R6 F G wq x y (upd t i) (xcells D x) (gcells y) g9 g10 b1 e1 b2 e2 okg w'))
    case atStart => exact ⟨0, rfl, ⟨by omega⟩, ⟨by rw [upd_zero]; exact K.out⟩⟩
    case round =>
     clear K
     obtain ⟨i, rfl, HI, K⟩ := hrel
     have c13 := (blk_cell K.out.c10 13).trans (gcells_13 y _ RO.out)
     cases gk with
     | zero =>
      have hi := HI.out
      have c1 : ((i : Int) < (t.length : Int)) = False := eq_false (by omega)
      have eu : upd t i = t.map (· ++ [0]) := by rw [show i = t.length by omega, upd_all]
      obtain ⟨xb, exb, HTXb⟩ : ∃ xb : Cfg, xcells D x = xb.cells ∧ Aside0 (∀ ok W, F x ok W → Calls Try.prog 10 #[.agg xb.cells, .int .i64 D] W fun e w' => e = .returned (.tuple #[.int .i64 b, .int .i64 0]) ∧ Below W.heap.size W w') := ⟨bump D x, by unfold xcells; rfl, ⟨HTX.out x⟩⟩
      obtain ⟨yb, eyb, HTYb⟩ : ∃ yb : Cfg, gcells y = yb.cells ∧ Aside0 (∀ okg ok W base, G y okg W → Kd.S (Kd.slice 3 (Kd.int .i64)) 22 W base ok y.rota (t.map (· ++ [0])) → Calls Try.prog 10 #[.agg yb.cells, .int .i64 D] W fun e w' => e = .returned (.tuple #[.int .i64 mm, .int .i64 0]) ∧ Below W.heap.size W w') := ⟨grow y, by unfold gcells; rfl, ⟨HTY.out y⟩⟩
      rw [eu, exb, eyb] at K
      clear hi eu exb eyb HTX HTY
      go_upto_region 16 with (first | ((with_reducible refine gate_dst (N := 72) rfl ?_); refine lwx (g := g9) K.out.c9 ?_) | ((with_reducible refine gate_dst (N := 78) rfl ?_); refine lwx (g := g10) K.out.c10 ?_) | ((with_reducible refine gate_dst (N := 84) rfl ?_); refine lwx (g := g5) (B5.out _ K.out.hr) ?_) | (go_at_call 10; (with_reducible refine (HTXb.out _ _ K.out.fx).mono ?_); rintro e w5 ⟨rfl, hb⟩; replace K := Aside0.mk (K.out.below HF.out HG.out hb); clear hb) | (go_at_call 10; (with_reducible refine (HTYb.out _ _ _ _ K.out.gy K.out.sy).mono ?_); rintro e w6 ⟨rfl, hb⟩; replace K := Aside0.mk (K.out.below HF.out HG.out hb); clear hb) | (go_at_call 15; (with_reducible refine (HTM.out c _ (HEC.out _ K.out.hr)).mono ?_); rintro e w7 ⟨rfl, hb⟩; replace K := Aside0.mk (K.out.below HF.out HG.out hb); clear hb))
      have hcy : (w7.alloc (.cells #[.int .i64 mv, .int .i64 dv, .int .i64 q, .int .i64 sn, .int .i64 cy] 42)).cell? ⟨w7.heap.size, 4, none⟩ = some (.int .i64 cy) := (blk_cell (blk_new w7 _) 4).trans rfl
      obtain ⟨f5, hf5⟩ : ∃ z, z = wrap64 (5 * cy) := ⟨_, rfl⟩
      have hw5 : IntKind.i64.wrap (5 * cy) = f5 := (i64_w _).trans hf5.symm
      have d1 : decide (a ≤ b) = true := decide_eq_true H1.out.1
      have d2 : decide (a < mm) = true := decide_eq_true H1.out.2.1
      have d3 : (cy == 0) = false := beq_eq_false_iff_ne.mpr H1.out.2.2.1
      have d4 : Int.tmod a cy = 0 := H1.out.2.2.2.1
      have d5 : decide (f5 ≤ a) = true := decide_eq_true (by rw [hf5]; exact H1.out.2.2.2.2)
      have d6 : ¬ cy = 0 := H1.out.2.2.1
      have HB2 := Aside0.mk (below_alloc (below_step HB.out K.out.hr) (.cells #[.int .i64 mv, .int .i64 dv, .int .i64 q, .int .i64 sn, .int .i64 cy] 42))
      clear hf5 c13
      go_wp2_with (go_at_call 6; (with_reducible refine (HA.out _).mono ?_); rintro e w12 ⟨rfl, hb⟩; replace HB2 := Aside0.mk (below_step HB2.out hb); clear hb)
      go_ret
      exact ⟨rfl, HB2.out⟩
     | succ k1 =>
      have hi := HI.out
      have hil : i < t.length := by omega
      have p1 : ((i : Int) < (t.length : Int)) = True := eq_true (by omega)
      have p2 : (0 ≤ (i : Int)) = True := eq_true (by omega)
      clear hi
      go_upto_region 12 with fail
      clear c13
      have K2 := Aside0.mk (K.out.below HF.out HG.out (below_drew1 (Below.refl _ _)))
      clear K
      have c13 := (blk_cell K2.out.c10 13).trans (gcells_13 y _ RO.out)
      have hsy := K2.out.sy
      rw [RO.out] at hsy
      have hgr := Kd.S_lt hsy gr rfl
      obtain ⟨v, ok1, hv, hfz, hR, hfr, hok, hback⟩ := row_lend hsy hil K2.out.fresh hgr
      have HR1 := Aside0.mk hR
      have HBK := Aside0.mk hback
      have HOK := Aside0.mk (And.intro hfr hok)
      have HGR := Aside0.mk hgr
      have HLN := Aside0.mk (show ((upd t i).getD i []).length ≤ 1000 by rw [upd_at t i hil]; exact HT0.out.2.1 _ (List.getElem_mem hil))
      have NG := Aside0.mk (show (b2 ≤ gr ∧ gr ≠ g9 ∧ gr ≠ g10 ∧ ¬ okg gr) from (Kd.S_R hsy).1 gr rfl)
      clear hsy hR hback hfr hok hgr
      refine wp_region_J (fun W => W.cell? ⟨g10, 13, none⟩ = some (.slice (some ⟨gr, 0, none⟩) t.length cap) ∧ W.cell? ⟨gr, i, none⟩ = some v) 11 (by kernel_rfl) ⟨c13, hv⟩ (fun hS => ?_)
      repeat ((first | refine tk0 0 (some 60) ?_ | refine tk 1 (some 61) ?_ | refine tk0 2 (some 62) ?_ | refine tk0 3 (some 63) ?_ | refine tk 4 (some 64) ?_ | refine tk0 5 (some 65) ?_ | refine tk0 6 (some 66) ?_ | refine tk 7 (some 67) ?_ | refine tk0 10 (some 70) ?_); simp only [Act.put, List.setIfInBounds_toArray, List.set_cons_zero, List.set_cons_succ])
      refine wpAnyJ_one (i := 8) (by decide +kernel) rfl (fun K8 hK => ?_)
      go_simp
      refine hK.out _ _ (fun _ => ⟨(cell_below hS.1 (below_alloc (Below.refl _ _) _)), (cell_below hS.2 (below_alloc (Below.refl _ _) _))⟩) (fun hS2 => ?_)
      have hS2 := hS2 (by decide +kernel)
      clear hK K8 hS
      try simp only [Act.put, List.setIfInBounds_toArray, List.set_cons_zero, List.set_cons_succ]
      refine wpAnyJ_one (i := 9) (by decide +kernel) rfl (fun K9 hK => ?_)
      refine Kd.R_append_step (Kd.int .i64) (w0 := wq) wq.heap.size rfl (.tmp 67) (.tmp 68) 22 3 (.int .i64 0) 8 rfl Try.underlying22 info3 rfl (by decide) (by decide) v ((upd t i).getD i []) 0 [.int .i64 0] ok1 (fun _ => False) rfl rfl rfl (fun _ hk => hk.elim) HOK.out.1 HR1.out K2.out.hr K2.out.hr.size (by have := HLN.out; omega) ?_
      intro v1 w1 ho hb hg hat
      have hvo : ∀ k, some k = v.ownBlock → ok1 k := fun k hk => HR1.out.1 k hk.symm
      have N1 : some g10 ≠ v.ownBlock := fun q => (HOK.out.2 _ (hvo _ q)).1.2.2.1 rfl
      have N2 : some gr ≠ v.ownBlock := fun q => (HOK.out.2 _ (hvo _ q)).2 rfl
      have e13 : w1.cell? ⟨g10, 13, none⟩ = some (.slice (some ⟨gr, 0, none⟩) t.length cap) := (cell_at_block (hg.block g10 (blk_lt K2.out.c10) N1)).trans c13
      have ei : w1.cell? ⟨gr, i, none⟩ = some v := (cell_at_block (hg.block gr HGR.out N2)).trans hv
      have efz : w1.frozen? ⟨gr, i, none⟩ = false := (frozen_at_block (hg.block gr HGR.out N2)).trans hfz
      have HV := Aside0.mk hvo
      have HG1 := Aside0.mk hg
      have HB1 := Aside0.mk hb
      have HS3 := Aside0.mk (HBK.out w1 v1 hg ho)
      obtain ⟨A1, p1', hv1⟩ := Kd.R_slice ho
      generalize ((upd t i).getD i [] ++ [0]).length = n1 at hv1
      subst hv1
      clear hvo N1 N2 hg hb ho hat hS2 c13 hv hfz
      refine hK.out _ _ (fun _ => ⟨e13, ei⟩) (fun hS => ?_)
      have hS := hS (by decide +kernel)
      clear hK K9
      try simp only [Act.put, List.setIfInBounds_toArray, List.set_cons_zero, List.set_cons_succ]
      repeat ((first | refine tk0 0 (some 60) ?_ | refine tk 1 (some 61) ?_ | refine tk0 2 (some 62) ?_ | refine tk0 3 (some 63) ?_ | refine tk 4 (some 64) ?_ | refine tk0 5 (some 65) ?_ | refine tk0 6 (some 66) ?_ | refine tk 7 (some 67) ?_ | refine tk0 10 (some 70) ?_); simp only [Act.put, List.setIfInBounds_toArray, List.set_cons_zero, List.set_cons_succ])
      clear hS e13
      refine wpAnyJ_one (i := 11) (by decide +kernel) rfl (fun K11 hK => ?_)
      go_simp
      refine hK.out _ _ (fun q => absurd q (by decide +kernel)) (fun _ => ?_)
      clear hK K11
      refine wpAnyJ_done (by decide +kernel) ?_ _
      have K3 := Aside0.mk (K2.out.row (t' := upd t (i + 1)) (W' := w1.setCell ⟨gr, i, none⟩ (.slice A1 n1 p1')) HF.out HG.out (below_set HB1.out GR.out) (fun k hk hno => by
        have q1 : k ≠ gr := fun e => hno (by rw [e]; exact NG.out)
        have q2 : some k ≠ v.ownBlock := fun e => hno (HOK.out.2 _ (HV.out k e)).1
        exact (Below.heap_setCell w1 ⟨gr, i, none⟩ (.slice A1 n1 p1') k q1).trans (HG1.out.block k hk q2)) (by
        have := (show Below gr w1 (w1.setCell ⟨gr, i, none⟩ (.slice A1 n1 p1')) from (Below.refl gr w1).setCell (Nat.le_refl gr) _).size
        have := HG1.out.size
        omega) (by rw [RO.out, ← upd_succ t i hil]; exact HS3.out))
      clear HS3 HG1 HB1 HV ei efz K2 HR1 HBK HOK
      generalize w1.setCell ⟨gr, i, none⟩ (.slice A1 n1 p1') = w3 at K3 ⊢
      have hwi : IntKind.i64.wrap ((i : Int) + 1) = ((i + 1 : Nat) : Int) := by
       have := HT0.out.2.2
       rw [i64_w]; unfold wrap64; omega
      go_wp2
      go_roundg k1
      case measure => omega
      case rel => exact ⟨i + 1, by first | rfl | simp, ⟨by have := HI.out; omega⟩, K3⟩
end Go.Proofs.Ytmdcjmackhjchaa.P
end
