import Derived.Test.YtmdcjmackhjchaaZat
import Derived.Test.YtmdcjmackhjchaaZau
section
/- tipstaffkit.Config: a small configuration, whatever the number. Walked by hand. -/
namespace Go.Proofs.Ytmdcjmackhjchaa.P
open Go.RowKit Go.Proofs.YtmdcjmackhjchaaW.PrintWords Go.Proofs.YtmdcjmackhjchaaW.PrintLast Go.Proofs.YtmdcjmackhjchaaW.PrintMore
attribute [local go_sem] cell_same1 cell_some1 ix27_0 ix27_1 ix27_2
set_option linter.unusedVariables false
set_option linter.unusedSimpArgs false

abbrev zc25 : Array Value := #[.int .i64 0, .slice none 0 0, .int .i64 0, .int .i64 0, .int .i64 0, .int .i64 0, .int .i64 0, .int .i64 0, .int .i64 0, .int .i64 0, .int .i64 0, .int .i64 0, .int .i64 0, .slice none 0 0, .int .u64 0, .int .i64 0, .int .i64 0, .int .u64 0, .int .i64 0, .int .i64 0, .int .u64 0, .int .i64 0, .int .i64 0, .slice none 0 0, .int .i64 0]
theorem mod_f (n : Int) : ∃ k, kit_Mod.f n 1099511627776 = some k ∧ 0 ≤ k ∧ k < 1099511627776 := by
 unfold kit_Mod.f
 rw [if_neg (by decide), if_neg (by decide)]
 have h1 : Int.tmod n 1099511627776 < 1099511627776 := Int.tmod_lt_of_pos n (by decide)
 have h2 : -1099511627776 < Int.tmod n 1099511627776 := Int.lt_tmod_of_pos n (by decide)
 by_cases h : Int.tmod n 1099511627776 < 0
 ·rw [if_pos h]
  exact ⟨_, rfl, by unfold wrap64; omega, by unfold wrap64; omega⟩
 ·rw [if_neg h]
  exact ⟨_, rfl, by omega, h1⟩
theorem dv (k c : Int) (h0 : 0 ≤ k) (h1 : k < 1099511627776) (hc : 1 ≤ c) : 0 ≤ wrap64 (Int.tdiv k c) ∧ wrap64 (Int.tdiv k c) ≤ k := by
 rw [Int.tdiv_eq_ediv_of_nonneg h0]
 have h2 : 0 ≤ k / c := Int.ediv_nonneg h0 (by omega)
 have h3 : k / c ≤ k := Int.ediv_le_self _ h0
 unfold wrap64
 omega
theorem md (x d : Int) (h0 : 0 ≤ x) (hd : 1 ≤ d) : 0 ≤ Int.tmod x d ∧ Int.tmod x d ≤ d - 1 := by
 have h1 : 0 ≤ Int.tmod x d := Int.tmod_nonneg d h0
 have h2 : Int.tmod x d < d := Int.tmod_lt_of_pos x (by omega)
 omega
theorem ex_md (x d a : Int) (h0 : 0 ≤ x) (hd : 1 ≤ d) (hd2 : d ≤ 1000) (ha : 0 ≤ a) (ha2 : a ≤ 1000) : ∃ z, wrap64 (a + Int.tmod x d) = z ∧ a ≤ z ∧ z ≤ a + d - 1 := by
 have := md x d h0 hd
 exact ⟨_, rfl, by unfold wrap64; omega, by unfold wrap64; omega⟩
theorem ex_dv (k c d a : Int) (h0 : 0 ≤ k) (h1 : k < 1099511627776) (hc : 1 ≤ c) (hd : 1 ≤ d) (hd2 : d ≤ 1000) (ha : 0 ≤ a) (ha2 : a ≤ 1000) : ∃ z, wrap64 (a + Int.tmod (wrap64 (Int.tdiv k c)) d) = z ∧ a ≤ z ∧ z ≤ a + d - 1 :=
 ex_md _ d a (dv k c h0 h1 hc).1 hd hd2 ha ha2
theorem keys1 (a : Int) (h0 : 1 ≤ a) (h1 : a ≤ 40) : ksE [a] = 0 := by
 have e : inb a 1 99 = true := by unfold inb; rw [decide_eq_true (by omega), decide_eq_true (by omega)]; rfl
 simp [ksE, klE, rd, e]
theorem keys2 (a b : Int) (h0 : 1 ≤ a) (h1 : a ≤ 40) (h2 : 41 ≤ b) (h3 : b ≤ 80) : ksE [a, b] = 0 := by
 have e : inb a 1 99 = true := by unfold inb; rw [decide_eq_true (by omega), decide_eq_true (by omega)]; rfl
 have e2 : inb b 1 99 = true := by unfold inb; rw [decide_eq_true (by omega), decide_eq_true (by omega)]; rfl
 simp [ksE, klE, rd, e, e2]
 omega
/-- The numbers of a configuration are small. -/
def Num (C : Cfg) : Prop := (2 ≤ C.floors ∧ C.floors ≤ 6) ∧ (1 ≤ C.cars ∧ C.cars ≤ 4) ∧ (1 ≤ C.speed ∧ C.speed ≤ 3) ∧ (0 ≤ C.brake ∧ C.brake ≤ 1) ∧ (0 ≤ C.tol ∧ C.tol ≤ 1) ∧ (1 ≤ C.width ∧ C.width ≤ 2) ∧ (1 ≤ C.dwell ∧ C.dwell ≤ 2) ∧ (0 ≤ C.retries ∧ C.retries ≤ 1) ∧ (0 ≤ C.empty ∧ C.empty ≤ 9) ∧ (50 ≤ C.full ∧ C.full ≤ 99) ∧ (1 ≤ C.trips ∧ C.trips ≤ 3) ∧ (1 ≤ C.slots ∧ C.slots ≤ 4) ∧ (5 ≤ C.life ∧ C.life ≤ 60)
/-- A row that is not written any more. -/
def OldI (b N g : Nat) (v : Value) (l : List Int) (W : World) : Prop := ∃ A c, v = .slice A l.length c ∧ l.length ≤ c ∧ Kd.F (Kd.int .i64) W (fun k => b < k ∧ k < N ∧ k ≠ g) A l.length l
def OldR (b N g : Nat) (v : Value) (l : List (List Int)) (W : World) : Prop := ∃ A c, v = .slice A l.length c ∧ l.length ≤ c ∧ Kd.F (Kd.slice 3 (Kd.int .i64)) W (fun k => b < k ∧ k < N ∧ k ≠ g) A l.length l
structure KP (w : World) (g2 g4 : Nat) (C : Cfg) (W : World) : Prop where
 hb : Below w.heap.size w W
 l2 : w.heap.size ≤ g2
 l4 : w.heap.size ≤ g4
 ne : g2 ≠ g4
 c2 : W.heap[g2]? = some (.cells zc25 29 (0, 0))
 c4 : W.heap[g4]? = some (.cells C.cells 29 (0, 0))
section
variable {w W W' : World} {g2 g4 N N' g : Nat} {C C' : Cfg} {v : Value} {l : List Int} {r : List (List Int)} {ok : Nat → Prop}
theorem OldI.step (h : OldI g2 N g v l W) (hm : ∀ k, g2 < k → k < N → k ≠ g → W'.heap[k]? = W.heap[k]?) : OldI g2 N g v l W' := by
 obtain ⟨A, c, e, hc, hF⟩ := h
 exact ⟨A, c, e, hc, Kd.F_step hF (fun k hk _ => hm k hk.1 hk.2.1 hk.2.2)⟩
theorem OldR.step (h : OldR g2 N g v r W) (hm : ∀ k, g2 < k → k < N → k ≠ g → W'.heap[k]? = W.heap[k]?) : OldR g2 N g v r W' := by
 obtain ⟨A, c, e, hc, hF⟩ := h
 exact ⟨A, c, e, hc, Kd.F_step hF (fun k hk _ => hm k hk.1 hk.2.1 hk.2.2)⟩
theorem OldI.mono (h : OldI g2 N g v l W) (hN : N ≤ N') : OldI g2 N' g v l W := by
 obtain ⟨A, c, e, hc, hF⟩ := h
 exact ⟨A, c, e, hc, Kd.F_mono hF (fun k hk => ⟨hk.1, Nat.lt_of_lt_of_le hk.2.1 hN, hk.2.2⟩)⟩
theorem OldI.below (h : OldI g2 N g v l W) (hb : Below N W W') : OldI g2 N g v l W' := h.step (fun k _ hk _ => hb.block k hk)
theorem OldR.below (h : OldR g2 N g v r W) (hb : Below N W W') : OldR g2 N g v r W' := h.step (fun k _ hk _ => hb.block k hk)
theorem OldI.cell (h : OldI g2 N g v l W) (i : Nat) (u : Value) : OldI g2 N g v l (W.setCell ⟨g, i, none⟩ u) := h.step (fun k _ _ hk => Below.heap_setCell W ⟨g, i, none⟩ u k hk)
theorem OldR.cell (h : OldR g2 N g v r W) (i : Nat) (u : Value) : OldR g2 N g v r (W.setCell ⟨g, i, none⟩ u) := h.step (fun k _ _ hk => Below.heap_setCell W ⟨g, i, none⟩ u k hk)
theorem OldI.of_R (h : (Kd.int .i64).R 3 W N ok v l) (hg : ∀ k, ok k → g2 < k ∧ k ≠ g) : OldI g2 W.heap.size g v l W := by
 obtain ⟨A, c, e⟩ := Kd.R_slice h
 subst e
 exact ⟨A, c, rfl, (Kd.R_reads' h).2.1, Kd.F_mono (Kd.R_F (Kd.R_bound h)) (fun k hk => ⟨(hg k hk.1).1, hk.2.2.1, (hg k hk.1).2⟩)⟩
theorem OldR.of_R (h : (Kd.slice 3 (Kd.int .i64)).R 22 W N ok v r) (hg : ∀ k, ok k → g2 < k ∧ k ≠ g) : OldR g2 W.heap.size g v r W := by
 obtain ⟨A, c, e⟩ := Kd.R_slice h
 subst e
 exact ⟨A, c, rfl, (Kd.R_reads' h).2.1, Kd.F_mono (Kd.R_F (Kd.R_bound h)) (fun k hk => ⟨(hg k hk.1).1, hk.2.2.1, (hg k hk.1).2⟩)⟩
theorem KP.below (h : KP w g2 g4 C W) (hb : Below W.heap.size W W') : KP w g2 g4 C W' where
 hb := below_step h.hb hb
 l2 := h.l2
 l4 := h.l4
 ne := h.ne
 c2 := blk_below h.c2 hb
 c4 := blk_below h.c4 hb
theorem KP.cell (h : KP w g2 g4 C W) (i : Nat) (u : Value) (e : C.cells.setIfInBounds i u = C'.cells) : KP w g2 g4 C' (W.setCell ⟨g4, i, none⟩ u) where
 hb := h.hb.setCell h.l4 _
 l2 := h.l2
 l4 := h.l4
 ne := h.ne
 c2 := (Below.heap_setCell W ⟨g4, i, none⟩ u g2 h.ne).trans h.c2
 c4 := e ▸ blk_set h.c4 i u
end
section
variable {P : Program} {ops : Array Oper} {Q : Exit → Act → World → Prop} {rest : List Oper} {o : Oper} {a : Act} {w W W0 : World} {g2 g4 : Nat} {C : Cfg}
/-- A number is appended to a row of our own. -/
theorem app0 (ok : Nat → Prop) (s x : Operand) (v : Value) (xs : List Int) (z : Int) (t : TypeId) (K : KP w g2 g4 C W0) (HR : (Kd.int .i64).R 3 W0 w.heap.size ok v xs) (hf : ∀ k, W0.heap.size ≤ k → ok k) (hl : xs.length ≤ 1000)
  (h : ∀ A c w1, KP w g2 g4 C w1 → (Kd.int .i64).R 3 w1 w.heap.size ok (.slice A (xs ++ [z]).length c) (xs ++ [z]) → (∀ k, k < W0.heap.size → ¬ ok k → w1.heap[k]? = W0.heap[k]?) → W0.heap.size ≤ w1.heap.size → wpList P ops Q rest (a.put o.dst (.slice A (xs ++ [z]).length c)) w1)
  (ht : P.underlying t = some (.slice 3)) (hinfo : (P.info? 3).map (fun i => (i.zero, i.size, i.bytes)) = some (some (.int .i64 0), 1, 8)) (hu : 29 ≠ 3)
  (hgd : o.guard = none := by rfl) (ho : o.op = .call { callee := .builtin .append, args := #[s, x], argTypes := #[t, t] } := by rfl)
  (hs : a.eval s = v := by rfl) (hx : a.eval x = .slice (some ⟨W.heap.size, 0, none⟩) 1 1 := by rfl)
  (tb : Below W0.heap.size W0 W0 → Below W0.heap.size W0 W := by
   intro k
   repeat (first | (with_reducible first | exact k | apply below_alloc | apply pw_below_drewN | apply below_drew1) | exact k)) : wpList P ops Q (o :: rest) a (W.alloc (.cells #[.int .i64 z] 3)) := by
 have hb0 := tb (Below.refl _ _)
 have K1 := K.below hb0
 have HR1 := Kd.R_below HR hb0
 refine Kd.R_append (Kd.int .i64) (w0 := w) w.heap.size hgd s x t 3 (.int .i64 0) 8 ho ht hinfo rfl (by decide) (by decide) v xs z [.int .i64 z] ok (fun _ => False) hs hx rfl (fun _ hk => hk.elim) (fun k hk => hf k (Nat.le_trans hb0.size hk)) HR1 K1.hb K1.hb.size (by omega) ?_
 intro v1 w1 ho1 hb hg hat
 obtain ⟨A, c, hv⟩ := Kd.R_slice ho1
 rw [hv] at ho1 ⊢
 refine h A c w1 ⟨hb, K.l2, K.l4, K.ne, blk_grown K1.c2 hg (Kd.R_ne HR1 K1.c2 hu.symm), blk_grown K1.c4 hg (Kd.R_ne HR1 K1.c4 hu.symm)⟩ ho1 (fun k hk hno => ?_) (Nat.le_trans hb0.size hg.size)
 exact (hg.block k (Nat.lt_of_lt_of_le hk hb0.size) (fun e => hno (HR1.1 k e.symm))).trans (hb0.block k hk)
end
theorem mod_calls (n : Int) : ∃ k, (0 ≤ k ∧ k < 1099511627776) ∧ ∀ W, Calls Try.prog 14 #[.int .i64 n, .int .i64 1099511627776] W fun e w' => e = .returned (.int .i64 k) ∧ Below W.heap.size W w' := by
 obtain ⟨k, h, h1⟩ := mod_f n
 refine ⟨k, h1, fun W => (kit_Mod.calls n 1099511627776 k W h).mono ?_⟩
 rintro e w' ⟨rfl, nd, rfl⟩
 exact ⟨rfl, pw_below_drewN (Below.refl _ _) _⟩
/-- The configuration as it is made first: the keys are v. -/
abbrev C0 (k : Int) (v : Value) : Cfg := ⟨wrap64 (2 + Int.tmod k 5), .slice none 0 0, wrap64 (1 + Int.tmod (wrap64 (Int.tdiv k 5)) 4), wrap64 (1 + Int.tmod (wrap64 (Int.tdiv k 20)) 3), Int.tmod (wrap64 (Int.tdiv k 60)) 2, Int.tmod (wrap64 (Int.tdiv k 120)) 2, wrap64 (1 + Int.tmod (wrap64 (Int.tdiv k 240)) 2), wrap64 (1 + Int.tmod (wrap64 (Int.tdiv k 480)) 2), Int.tmod (wrap64 (Int.tdiv k 960)) 2, Int.tmod (wrap64 (Int.tdiv k 1920)) 10, wrap64 (50 + Int.tmod (wrap64 (Int.tdiv k 1920)) 50), wrap64 (1 + Int.tmod (wrap64 (Int.tdiv k 7)) 3), wrap64 (1 + Int.tmod (wrap64 (Int.tdiv k 11)) 4), .slice none 0 0, .int .u64 0, 0, 0, .int .u64 0, 0, 0, .int .u64 0, 0, 0, v, wrap64 (5 + Int.tmod (wrap64 (Int.tdiv k 13)) 56)⟩
theorem C0_num (k : Int) (v : Value) (h0 : 0 ≤ k) (h1 : k < 1099511627776) : Num (C0 k v) := by
 have A : ∀ x d a : Int, 0 ≤ x → 1 ≤ d → d ≤ 1000 → 0 ≤ a → a ≤ 1000 → a ≤ wrap64 (a + Int.tmod x d) ∧ wrap64 (a + Int.tmod x d) ≤ a + d - 1 := fun x d a h0 hd hd2 ha ha2 => by
  obtain ⟨z, h1, h2⟩ := ex_md x d a h0 hd hd2 ha ha2
  rw [h1]; exact h2
 have D : ∀ c : Int, 1 ≤ c → 0 ≤ wrap64 (Int.tdiv k c) := fun c hc => (dv k c h0 h1 hc).1
 have M : ∀ c d : Int, 1 ≤ c → 1 ≤ d → 0 ≤ Int.tmod (wrap64 (Int.tdiv k c)) d ∧ Int.tmod (wrap64 (Int.tdiv k c)) d ≤ d - 1 := fun c d hc hd => md _ d (D c hc) hd
 exact ⟨A k 5 2 h0 (by omega) (by omega) (by omega) (by omega), A _ 4 1 (D 5 (by omega)) (by omega) (by omega) (by omega) (by omega), A _ 3 1 (D 20 (by omega)) (by omega) (by omega) (by omega) (by omega), M 60 2 (by omega) (by omega), M 120 2 (by omega) (by omega), A _ 2 1 (D 240 (by omega)) (by omega) (by omega) (by omega) (by omega), A _ 2 1 (D 480 (by omega)) (by omega) (by omega) (by omega) (by omega), M 960 2 (by omega) (by omega), M 1920 10 (by omega) (by omega), A _ 50 50 (D 1920 (by omega)) (by omega) (by omega) (by omega) (by omega), A _ 3 1 (D 7 (by omega)) (by omega) (by omega) (by omega) (by omega), A _ 4 1 (D 11 (by omega)) (by omega) (by omega) (by omega) (by omega), A _ 56 5 (D 13 (by omega)) (by omega) (by omega) (by omega) (by omega)⟩
/-- The keys. -/
def KOK (l : List Int) : Prop := ∃ a, 1 ≤ a ∧ a ≤ 40 ∧ (l = [a] ∨ ∃ b, 41 ≤ b ∧ b ≤ 80 ∧ l = [a, b])
theorem dvw (k c d a : Int) (h0 : 0 ≤ k) (h1 : k < 1099511627776) (hc : 1 ≤ c) (hd : 1 ≤ d) (hd2 : d ≤ 1000) (ha : 0 ≤ a) (ha2 : a ≤ 1000) : a ≤ wrap64 (a + Int.tmod (wrap64 (Int.tdiv k c)) d) ∧ wrap64 (a + Int.tmod (wrap64 (Int.tdiv k c)) d) ≤ a + d - 1 := by
 obtain ⟨z, h2, h3⟩ := ex_dv k c d a h0 h1 hc hd hd2 ha ha2
 rw [h2]; exact h3
section
variable {P : Program} {ops : Array Oper} {Q : Exit → Act → World → Prop} {rest : List Oper} {o : Oper} {a : Act} {w W W0 : World} {g2 g4 : Nat} {C : Cfg}
/-- A row is appended to a row of rows of our own. -/
theorem app1 (M M2 : Nat) (s x : Operand) (v lv : Value) (xs : List (List Int)) (l : List Int) (t : TypeId) (K : KP w g2 g4 C W0) (HR : (Kd.slice 3 (Kd.int .i64)).R 22 W0 w.heap.size (fun k => M ≤ k ∧ k < M2) v xs) (HL : (Kd.int .i64).R 3 W0 w.heap.size (fun k => M2 ≤ k) lv l) (hM : M ≤ M2) (hf : M2 ≤ W0.heap.size) (hl : xs.length ≤ 1000)
  (h : ∀ A c w1, KP w g2 g4 C w1 → (Kd.slice 3 (Kd.int .i64)).R 22 w1 w.heap.size (fun k => M ≤ k) (.slice A (xs ++ [l]).length c) (xs ++ [l]) → (∀ k, k < W0.heap.size → k < M → w1.heap[k]? = W0.heap[k]?) → W0.heap.size ≤ w1.heap.size → wpList P ops Q rest (a.put o.dst (.slice A (xs ++ [l]).length c)) w1)
  (ht : P.underlying t = some (.slice 22)) (hinfo : (P.info? 22).map (fun i => (i.zero, i.size, i.bytes)) = some (some (.slice none 0 0), 1, 24)) (hu : 29 ≠ 22)
  (hgd : o.guard = none := by rfl) (ho : o.op = .call { callee := .builtin .append, args := #[s, x], argTypes := #[t, t] } := by rfl)
  (hs : a.eval s = v := by rfl) (hx : a.eval x = .slice (some ⟨W.heap.size, 0, none⟩) 1 1 := by rfl)
  (tb : Below W0.heap.size W0 W0 → Below W0.heap.size W0 W := by
   intro k
   repeat (first | (with_reducible first | exact k | apply below_alloc | apply pw_below_drewN | apply below_drew1) | exact k)) : wpList P ops Q (o :: rest) a (W.alloc (.cells #[lv] 22)) := by
 have hb0 := tb (Below.refl _ _)
 have K1 := K.below hb0
 have HR1 := Kd.R_below HR hb0
 have HL1 := Kd.R_below HL hb0
 refine Kd.R_append (Kd.slice 3 (Kd.int .i64)) (w0 := w) w.heap.size hgd s x t 22 (.slice none 0 0) 24 ho ht hinfo rfl (by decide) (by decide) v xs l [lv] (fun k => M ≤ k) (fun k => M2 ≤ k) hs hx (Kd.M_row HL1) (fun k hk => ⟨Nat.le_trans hM hk, fun e => by have := HR1.1 k e.symm; omega⟩) (fun k hk => Nat.le_trans hM (Nat.le_trans hf (Nat.le_trans hb0.size hk))) (Kd.R_mono HR1 (fun k hk => hk.1)) K1.hb K1.hb.size (by omega) ?_
 intro v1 w1 ho1 hb hg hat
 obtain ⟨A, c, hv⟩ := Kd.R_slice ho1
 rw [hv] at ho1 ⊢
 refine h A c w1 ⟨hb, K.l2, K.l4, K.ne, blk_grown K1.c2 hg (Kd.R_ne HR1 K1.c2 hu.symm), blk_grown K1.c4 hg (Kd.R_ne HR1 K1.c4 hu.symm)⟩ ho1 (fun k hk hno => ?_) (Nat.le_trans hb0.size hg.size)
 exact (hg.block k (Nat.lt_of_lt_of_le hk hb0.size) (fun e => by have := HR1.1 k e.symm; omega)).trans (hb0.block k hk)
end
theorem OldI.ex {W : World} {g2 N g b : Nat} {v : Value} {l : List Int} {ok : Nat → Prop} (h : (Kd.int .i64).R 3 W b ok v l) (hg : ∀ k, ok k → g2 < k ∧ k ≠ g) (hN : N ≤ W.heap.size) : ∃ M, N ≤ M ∧ M ≤ W.heap.size ∧ OldI g2 M g v l W := ⟨_, hN, Nat.le_refl _, OldI.of_R h hg⟩
theorem OldR.ex {W : World} {g2 N g b : Nat} {v : Value} {l : List (List Int)} {ok : Nat → Prop} (h : (Kd.slice 3 (Kd.int .i64)).R 22 W b ok v l) (hg : ∀ k, ok k → g2 < k ∧ k ≠ g) (hN : N ≤ W.heap.size) : ∃ M, N ≤ M ∧ M ≤ W.heap.size ∧ OldR g2 M g v l W := ⟨_, hN, Nat.le_refl _, OldR.of_R h hg⟩
theorem R_cut {α : Type} {d : Kd α} {e : Nat} {W : World} {N b : Nat} {v : Value} {l : List α} {ok : Nat → Prop} (h : d.R e W b ok v l) (hN : N ≤ W.heap.size) : ∃ M, N ≤ M ∧ M ≤ W.heap.size ∧ d.R e W b (fun k => ok k ∧ k < M) v l := ⟨_, hN, Nat.le_refl _, Kd.R_mono (Kd.R_bound h) (fun k hk => ⟨hk.1, hk.2.2.1⟩)⟩
theorem fl_cases (fl : Int) (h0 : 2 ≤ fl) (h1 : fl ≤ 6) : ∃ (F : Nat) (P al : Int), fl = F ∧ 2 ≤ F ∧ F ≤ 6 ∧ shl .u64 1 fl = P ∧ IntKind.u64.wrap (P - 1) = al ∧ al = ((2 ^ F - 1 : Nat) : Int) ∧ IntKind.u64.wrap fl = fl ∧ 3 ≤ al ∧ al < 64 := by
 obtain rfl | rfl | rfl | rfl | rfl : fl = 2 ∨ fl = 3 ∨ fl = 4 ∨ fl = 5 ∨ fl = 6 := by omega
 ·exact ⟨2, 4, 3, by decide +kernel⟩
 ·exact ⟨3, 8, 7, by decide +kernel⟩
 ·exact ⟨4, 16, 15, by decide +kernel⟩
 ·exact ⟨5, 32, 31, by decide +kernel⟩
 ·exact ⟨6, 64, 63, by decide +kernel⟩
theorem and_le (e al : Int) (A : Nat) (ha : al = (A : Int)) (hA : A < 64) : 0 ≤ Go.bits .and .u64 (IntKind.u64.wrap e) al ∧ Go.bits .and .u64 (IntKind.u64.wrap e) al ≤ al := by
 have h0 : 0 ≤ IntKind.u64.wrap e ∧ IntKind.u64.wrap e < 18446744073709551616 := by
  have := wrap_within .u64 e
  have e1 : IntKind.u64.min = 0 := by decide +kernel
  have e2 : IntKind.u64.max = 18446744073709551615 := by decide +kernel
  omega
 obtain ⟨x, hx⟩ := Int.eq_ofNat_of_zero_le h0.1
 rw [hx, ha]
 rw [hx] at h0
 have e1 := (bits_nat .u64 64 (by decide) hk64 x A (by omega) (by omega)).1
 rw [e1]
 have : x &&& A ≤ A := Nat.and_le_right
 omega
theorem bit_some : (List.range 7).all (fun F => (List.range 64).all (fun m => (List.range 7).all (fun h => !(decide (2 ≤ F) && decide (0 < m) && decide (m < 2 ^ F) && decide (h < F)) || (List.range 7).any (fun j => Nat.testBit m ((h + j) % F))))) = true := by decide +kernel
theorem bit_ex (m F h : Nat) (hF : F < 7) (h2 : 2 ≤ F) (h0 : 0 < m) (hm : m < 2 ^ F) (hh : h < F) : ∃ j, j ≤ 7 ∧ Nat.testBit m ((h + j) % F) = true := by
 have : 2 ^ F ≤ 2 ^ 6 := Nat.pow_le_pow_right (by omega) (by omega)
 have h3 := List.all_eq_true.1 (List.all_eq_true.1 (List.all_eq_true.1 bit_some F (List.mem_range.2 hF)) m (List.mem_range.2 (by omega))) h (List.mem_range.2 (by omega))
 rw [decide_eq_true h2, decide_eq_true h0, decide_eq_true hm, decide_eq_true hh] at h3
 obtain ⟨j, hj, hb⟩ := List.any_eq_true.1 (by simpa only [Bool.and_self, Bool.not_true, Bool.false_or] using h3)
 exact ⟨j, by have := List.mem_range.1 hj; omega, hb⟩
theorem bitT (m h : Nat) (hm : m < 64) (hh : h < 64) : Go.bits .and .u64 (shr .u64 (m : Int) (h : Int)) 1 = if m.testBit h then 1 else 0 := by
 have hd : m / 2 ^ h ≤ m := Nat.div_le_self _ _
 have e := (bits_nat .u64 64 (by decide) hk64 (m / 2 ^ h) 1 (by omega) (by decide)).1
 rw [show ((1 : Nat) : Int) = 1 from rfl] at e
 rw [shr_nat m h hh, e, Nat.and_one_is_mod]
 have ht : m.testBit h = decide (m / 2 ^ h % 2 = 1) := Nat.testBit_eq_decide_div_mod_eq
 by_cases z : m / 2 ^ h % 2 = 1
 ·rw [ht, z]; rfl
 ·rw [ht, show m / 2 ^ h % 2 = 0 by omega]; rfl
/-- A rule that was made. -/
def RK (fl : Int) (m : Value) (h q : Int) : Prop := ∃ mm : Int, m = .int .u64 mm ∧ 0 ≤ mm ∧ mm < 64 ∧ q ≤ 5 ∧ ruleE fl mm h q = 0
theorem RK.of (F m h : Nat) (q : Int) (hF : F < 7) (h0 : 0 < m) (hm : m < 2 ^ F) (hh : h < F) (hb : m.testBit h = true) (q1 : 1 ≤ q) (q5 : q ≤ 5) : RK F (.int .u64 m) h q := by
 have : 2 ^ F ≤ 2 ^ 6 := Nat.pow_le_pow_right (by omega) (by omega)
 refine ⟨m, rfl, by omega, by omega, q5, ?_⟩
 unfold ruleE
 rw [if_neg (by omega), if_neg (by unfold highB; simp; omega), if_pos (by unfold bitB; simp [hb]; omega), if_pos (by unfold inb; simp; omega)]
/-- What stays while the rules are made. -/
structure KF (w : World) (g2 g4 M : Nat) (gv : Value) (gl : List Int) (rv : Value) (rl : List (List Int)) (kv : Value) (kl : List Int) (C : Cfg) (W : World) : Prop where
 k : KP w g2 g4 C W
 gi : OldI g2 M g4 gv gl W
 ri : OldR g2 M g4 rv rl W
 ki : OldI g2 M g4 kv kl W
 sz : M ≤ W.heap.size
section
variable {w W W' : World} {g2 g4 M : Nat} {gv : Value} {gl : List Int} {rv : Value} {rl : List (List Int)} {kv : Value} {kl : List Int} {C C' : Cfg}
theorem KF.below (h : KF w g2 g4 M gv gl rv rl kv kl C W) (hb : Below W.heap.size W W') : KF w g2 g4 M gv gl rv rl kv kl C W' :=
 have e : ∀ k, k < M → W'.heap[k]? = W.heap[k]? := fun k hk => hb.block k (Nat.lt_of_lt_of_le hk h.sz)
 ⟨h.k.below hb, h.gi.step (fun k _ hk _ => e k hk), h.ri.step (fun k _ hk _ => e k hk), h.ki.step (fun k _ hk _ => e k hk), Nat.le_trans h.sz hb.size⟩
theorem KF.cell (h : KF w g2 g4 M gv gl rv rl kv kl C W) (i : Nat) (u : Value) (e : C.cells.setIfInBounds i u = C'.cells) : KF w g2 g4 M gv gl rv rl kv kl C' (W.setCell ⟨g4, i, none⟩ u) :=
 ⟨h.k.cell i u e, h.gi.cell i u, h.ri.cell i u, h.ki.cell i u, Nat.le_trans h.sz ((Below.refl g4 W).setCell (Nat.le_refl g4) u (p := ⟨g4, i, none⟩)).size⟩
end
theorem natv (x : Int) (h : 0 < x) : ∃ m : Nat, x = m ∧ 0 < m := by
 obtain ⟨m, hm⟩ := Int.eq_ofNat_of_zero_le (show 0 ≤ x by omega)
 exact ⟨m, hm, by omega⟩
section
variable {w W : World} {g2 g4 M : Nat} {gv : Value} {gl : List Int} {rv : Value} {rl : List (List Int)} {kv : Value} {kl : List Int} {fl ca sp br tq wi dw rt em fu tr sl h0 q0 h1 q1 h2 q2 li : Int} {m0 m1 m2 : Value}
theorem KF.r0 (Z : KF w g2 g4 M gv gl rv rl kv kl ⟨fl, gv, ca, sp, br, tq, wi, dw, rt, em, fu, tr, sl, rv, m0, h0, q0, m1, h1, q1, m2, h2, q2, kv, li⟩ W) (m : Value) (h q : Int) : KF w g2 g4 M gv gl rv rl kv kl ⟨fl, gv, ca, sp, br, tq, wi, dw, rt, em, fu, tr, sl, rv, m, h, q, m1, h1, q1, m2, h2, q2, kv, li⟩ (((W.setCell ⟨g4, 14, none⟩ m).setCell ⟨g4, 15, none⟩ (.int .i64 h)).setCell ⟨g4, 16, none⟩ (.int .i64 q)) :=
 have Z1 : KF w g2 g4 M gv gl rv rl kv kl ⟨fl, gv, ca, sp, br, tq, wi, dw, rt, em, fu, tr, sl, rv, m, h0, q0, m1, h1, q1, m2, h2, q2, kv, li⟩ _ := Z.cell 14 m rfl
 have Z2 : KF w g2 g4 M gv gl rv rl kv kl ⟨fl, gv, ca, sp, br, tq, wi, dw, rt, em, fu, tr, sl, rv, m, h, q0, m1, h1, q1, m2, h2, q2, kv, li⟩ _ := Z1.cell 15 (.int .i64 h) rfl
 Z2.cell 16 (.int .i64 q) rfl
theorem KF.r1 (Z : KF w g2 g4 M gv gl rv rl kv kl ⟨fl, gv, ca, sp, br, tq, wi, dw, rt, em, fu, tr, sl, rv, m0, h0, q0, m1, h1, q1, m2, h2, q2, kv, li⟩ W) (m : Value) (h q : Int) : KF w g2 g4 M gv gl rv rl kv kl ⟨fl, gv, ca, sp, br, tq, wi, dw, rt, em, fu, tr, sl, rv, m0, h0, q0, m, h, q, m2, h2, q2, kv, li⟩ (((W.setCell ⟨g4, 17, none⟩ m).setCell ⟨g4, 18, none⟩ (.int .i64 h)).setCell ⟨g4, 19, none⟩ (.int .i64 q)) :=
 have Z1 : KF w g2 g4 M gv gl rv rl kv kl ⟨fl, gv, ca, sp, br, tq, wi, dw, rt, em, fu, tr, sl, rv, m0, h0, q0, m, h1, q1, m2, h2, q2, kv, li⟩ _ := Z.cell 17 m rfl
 have Z2 : KF w g2 g4 M gv gl rv rl kv kl ⟨fl, gv, ca, sp, br, tq, wi, dw, rt, em, fu, tr, sl, rv, m0, h0, q0, m, h, q1, m2, h2, q2, kv, li⟩ _ := Z1.cell 18 (.int .i64 h) rfl
 Z2.cell 19 (.int .i64 q) rfl
theorem KF.r2 (Z : KF w g2 g4 M gv gl rv rl kv kl ⟨fl, gv, ca, sp, br, tq, wi, dw, rt, em, fu, tr, sl, rv, m0, h0, q0, m1, h1, q1, m2, h2, q2, kv, li⟩ W) (m : Value) (h q : Int) : KF w g2 g4 M gv gl rv rl kv kl ⟨fl, gv, ca, sp, br, tq, wi, dw, rt, em, fu, tr, sl, rv, m0, h0, q0, m1, h1, q1, m, h, q, kv, li⟩ (((W.setCell ⟨g4, 20, none⟩ m).setCell ⟨g4, 21, none⟩ (.int .i64 h)).setCell ⟨g4, 22, none⟩ (.int .i64 q)) :=
 have Z1 : KF w g2 g4 M gv gl rv rl kv kl ⟨fl, gv, ca, sp, br, tq, wi, dw, rt, em, fu, tr, sl, rv, m0, h0, q0, m1, h1, q1, m, h2, q2, kv, li⟩ _ := Z.cell 20 m rfl
 have Z2 : KF w g2 g4 M gv gl rv rl kv kl ⟨fl, gv, ca, sp, br, tq, wi, dw, rt, em, fu, tr, sl, rv, m0, h0, q0, m1, h1, q1, m, h, q2, kv, li⟩ _ := Z1.cell 21 (.int .i64 h) rfl
 Z2.cell 22 (.int .i64 q) rfl
end
theorem quw (x : Int) (h : 0 ≤ x) : 1 ≤ wrap64 (1 + Int.tmod x 5) ∧ wrap64 (1 + Int.tmod x 5) ≤ 5 := by
 obtain ⟨z, h4, h5, h6⟩ := ex_md x 5 1 h (by omega) (by omega) (by omega) (by omega)
 rw [h4]; omega
theorem homv (k : Int) (d F : Nat) (h0 : 0 ≤ k) (h1 : k < 1099511627776) (hd : d ≤ 2) (hF : 2 ≤ F) : ∃ h : Nat, Int.tmod (wrap64 (wrap64 (Int.tdiv k 53) + (d : Int))) F = h ∧ h < F := by
 obtain ⟨h2, h3⟩ := dv k 53 h0 h1 (by omega)
 generalize wrap64 (Int.tdiv k 53) = q at *
 have := md (wrap64 (q + (d : Int))) F (by unfold wrap64; omega) (by omega)
 obtain ⟨h, hh⟩ := Int.eq_ofNat_of_zero_le this.1
 exact ⟨h, hh, by omega⟩
theorem rotv (k : Int) (i j : Nat) (h0 : 0 ≤ k) (h1 : k < 1099511627776) (hi : i ≤ 10) (hj : j ≤ 10) : 0 ≤ Int.tmod (wrap64 (wrap64 (wrap64 (Int.tdiv k 29) + wrap64 ((i : Int) * Int.tmod (wrap64 (Int.tdiv k 31)) 3)) + wrap64 ((j : Int) * wrap64 (1 + Int.tmod (wrap64 (Int.tdiv k 37)) 3)))) 4 ∧ Int.tmod (wrap64 (wrap64 (wrap64 (Int.tdiv k 29) + wrap64 ((i : Int) * Int.tmod (wrap64 (Int.tdiv k 31)) 3)) + wrap64 ((j : Int) * wrap64 (1 + Int.tmod (wrap64 (Int.tdiv k 37)) 3)))) 4 ≤ 3 := by
 have h2 := dv k 29 h0 h1 (by omega)
 have h3 := md _ 3 (dv k 31 h0 h1 (by omega)).1 (by omega)
 have h4 := dvw k 37 3 1 h0 h1 (by omega) (by omega) (by omega) (by omega) (by omega)
 generalize Int.tmod (wrap64 (Int.tdiv k 31)) 3 = x at *
 generalize wrap64 (1 + Int.tmod (wrap64 (Int.tdiv k 37)) 3) = y at *
 generalize wrap64 (Int.tdiv k 29) = q at *
 have h5 : 0 ≤ (i : Int) * x := Int.mul_nonneg (by omega) h3.1
 have h6 : (i : Int) * x ≤ 10 * 2 := Int.mul_le_mul (by omega) (by omega) h3.1 (by omega)
 have h7 : 0 ≤ (j : Int) * y := Int.mul_nonneg (by omega) (by omega)
 have h8 : (j : Int) * y ≤ 10 * 3 := Int.mul_le_mul (by omega) (by omega) (by omega) (by omega)
 generalize (i : Int) * x = ix at *
 generalize (j : Int) * y = jy at *
 rw [show wrap64 ix = ix by unfold wrap64; omega, show wrap64 jy = jy by unfold wrap64; omega, show wrap64 (q + ix) = q + ix by unfold wrap64; omega, show wrap64 (q + ix + jy) = q + ix + jy by unfold wrap64; omega]
 have := md (q + ix + jy) 4 (by omega) (by omega)
 omega
theorem gapv (k : Int) (j : Nat) (h0 : 0 ≤ k) (h1 : k < 1099511627776) (hj : j ≤ 100) : 1 ≤ wrap64 (1 + Int.tmod (wrap64 (wrap64 (Int.tdiv k 23) + wrap64 (5 * (j : Int)))) 6) ∧ wrap64 (1 + Int.tmod (wrap64 (wrap64 (Int.tdiv k 23) + wrap64 (5 * (j : Int)))) 6) ≤ 6 := by
 obtain ⟨h2, h3⟩ := dv k 23 h0 h1 (by omega)
 generalize wrap64 (Int.tdiv k 23) = q at *
 rw [show wrap64 (5 * (j : Int)) = 5 * j by unfold wrap64; omega, show wrap64 (q + 5 * (j : Int)) = q + 5 * j by unfold wrap64; omega]
 obtain ⟨z, h4, h5, h6⟩ := ex_md (q + 5 * (j : Int)) 6 1 (by omega) (by omega) (by omega) (by omega) (by omega)
 rw [h4]; omega
/-- What a configuration holds, its lists told. -/
structure Cont where
 f : Int
 g : List Int
 cars : Int
 sp : Int
 br : Int
 tol : Int
 w : Int
 dw : Int
 re : Int
 em : Int
 fu : Int
 tr : Int
 sl : Int
 t : List (List Int)
 m0 : Int
 h0 : Int
 k0 : Int
 m1 : Int
 h1 : Int
 k1 : Int
 m2 : Int
 h2 : Int
 k2 : Int
 ks : List Int
 li : Int
/-- A configuration of this content, wherever its lists lie. -/
def Cont.At (i : Cont) (c : Cfg) (W : World) : Prop := ∃ B1 q1 B2 q2 B3 q3, c = (⟨i.f, .slice B1 i.g.length q1, i.cars, i.sp, i.br, i.tol, i.w, i.dw, i.re, i.em, i.fu, i.tr, i.sl, .slice B2 i.t.length q2, .int .u64 i.m0, i.h0, i.k0, .int .u64 i.m1, i.h1, i.k1, .int .u64 i.m2, i.h2, i.k2, .slice B3 i.ks.length q3, i.li⟩ : Cfg) ∧ Kd.C (Kd.int .i64) W B1 i.g.length i.g ∧ i.g.length ≤ q1 ∧ Kd.C (Kd.slice 3 (Kd.int .i64)) W B2 i.t.length i.t ∧ i.t.length ≤ q2 ∧ Kd.C (Kd.int .i64) W B3 i.ks.length i.ks ∧ i.ks.length ≤ q3
def Cont.Sm (i : Cont) (kk ss : Int) : Prop := Small kk ss i.f i.g i.cars i.sp i.br i.tol i.w i.dw i.re i.em i.fu i.tr i.sl i.t i.m0 i.h0 i.k0 i.m1 i.h1 i.k1 i.m2 i.h2 i.k2 i.ks i.li
theorem KOK.len {l : List Int} (h : KOK l) : l.length ≤ 2 ∧ ksE l = 0 := by
 obtain ⟨a, h1, h2, rfl | ⟨b, h3, h4, rfl⟩⟩ := h
 ·exact ⟨by simp, keys1 a h1 h2⟩
 ·exact ⟨by simp, keys2 a b h1 h2 h3 h4⟩
set_option maxHeartbeats 8000000 in
set_option maxRecDepth 100000 in
theorem config_walk (n : Int) (w : World) :
  Calls Try.prog 13 #[.int .i64 n] w fun e w' => ∃ (i : Cont) (c : Cfg), e = .returned (.agg c.cells) ∧ c.cells.toList.all (·.oneCell') = true ∧ (i.Sm 5 4 ∧ i.At c w') ∧ Below w.heap.size w w' := by
 obtain ⟨k, ⟨k0, k1⟩, hm⟩ := mod_calls n
 have HM := Aside0.mk hm
 have K01 := Aside0.mk (And.intro k0 k1)
 clear hm k0 k1
 have HB := Aside0.mk (Below.refl w.heap.size w)
 have hu29 := Try.underlying29
 go_enter Try.func13, Try.ntmps13
 go_upto_if 71 with (first | ((with_reducible refine gate_dst (N := 2) rfl ?_); refine bxe (cs := #[.int .i64 0, .slice none 0 0, .int .i64 0, .int .i64 0, .int .i64 0, .int .i64 0, .int .i64 0, .int .i64 0, .int .i64 0, .int .i64 0, .int .i64 0, .int .i64 0, .int .i64 0, .slice none 0 0, .int .u64 0, .int .i64 0, .int .i64 0, .int .u64 0, .int .i64 0, .int .i64 0, .int .u64 0, .int .i64 0, .int .i64 0, .slice none 0 0, .int .i64 0]) (t := 29) ?_; intro g2 hg w4 hbox hb; have B2 := Aside0.mk hbox; have G2 := Aside0.mk (show w.heap.size ≤ g2 by rw [hg]; exact HB.out.size); replace HB := Aside0.mk (bst HB.out hb); clear hb hbox hg) | (go_at_call 14; (with_reducible refine (HM.out _).mono ?_); rintro e w5 ⟨rfl, hb⟩; replace B2 := Aside0.mk (blk_below B2.out hb); replace HB := Aside0.mk (below_step HB.out hb); clear hb) | ((with_reducible refine gate_dst (N := 66) rfl ?_); refine Kd.R_lit (Kd.int .i64) _ 3 ?hg (N := 66) ?hd (xs := ([wrap64 (1 + (Int.tmod (wrap64 (Int.tdiv k 17)) 40))] : List Int)) (inner := [.int .i64 (wrap64 (1 + (Int.tmod (wrap64 (Int.tdiv k 17)) 40)))]) (ok := fun _ => True) (okp := fun _ => True) ?hr ?hp (fun _ hk => hk) trivial (Below.refl _ _) (Nat.le_refl _) (by simp) ?_; (case hd => rfl); (case hg => rfl); (case hr => first | (go_simp; done) | (go_simp; rfl)); (case hp => exact (Reps.one (show Kd.M (Kd.int .i64) _ _ _ (wrap64 (1 + (Int.tmod (wrap64 (Int.tdiv k 17)) 40))) [.int .i64 (wrap64 (1 + (Int.tmod (wrap64 (Int.tdiv k 17)) 40)))] from rfl) (Reps.none _ _))); intro v17 w6 ho hb hg_ hnew_; clear hg_ hnew_; have RK := Aside0.mk ho; have N2 := Aside0.mk (blk_lt B2.out); replace B2 := Aside0.mk (blk_below B2.out hb); replace HB := Aside0.mk (below_step HB.out hb); clear hb ho; obtain ⟨Ak, ck, ek⟩ := Kd.R_slice RK.out; subst ek) | ((with_reducible refine gate_dst (N := 4) rfl ?_); refine bxe (cs := #[.int .i64 0, .slice none 0 0, .int .i64 0, .int .i64 0, .int .i64 0, .int .i64 0, .int .i64 0, .int .i64 0, .int .i64 0, .int .i64 0, .int .i64 0, .int .i64 0, .int .i64 0, .slice none 0 0, .int .u64 0, .int .i64 0, .int .i64 0, .int .u64 0, .int .i64 0, .int .i64 0, .int .u64 0, .int .i64 0, .int .i64 0, .slice none 0 0, .int .i64 0]) (t := 29) ?_; intro g4 hg w8 hbox hb; have B4 := Aside0.mk hbox; have BL := Aside0.mk hb; have G4 := Aside0.mk hg; clear hb hbox hg) | ((with_reducible refine gate_store (t := 29) (p := 4) rfl ?_); refine swm (g := g4) (vs := (C0 k (.slice Ak 1 ck)).cells.toList) B4.out ?_ (by rfl) (h1 := by rfl); intro w9 hw9 hfar hbel; have B9 := Aside0.mk hw9; have BL9 := Aside0.mk (hbel _ _ BL.out (by rw [G4.out]; exact Nat.le_refl _)); clear hw9 hfar hbel))
 go_cut [] (fun wc => ∃ (C : Cfg) (kl : List Int) (N : Nat), Aside0 (KP w g2 g4 C wc) ∧ Aside0 (OldI g2 N g4 C.keys kl wc) ∧ Aside0 (KOK kl) ∧ Aside0 (Num C) ∧ Aside0 (N ≤ wc.heap.size) ∧ Aside0 (g2 < N ∧ g4 < N) ∧ C.gaps = .slice none 0 0 ∧ C.rota = .slice none 0 0)
 case first =>
  have L9 : w6.heap.size = g4 := G4.out.symm
  have K := Aside0.mk (show KP w g2 g4 (C0 k (.slice Ak 1 ck)) w9 from ⟨below_step HB.out BL9.out, G2.out, by rw [← L9]; exact HB.out.size, by have := blk_lt B2.out; omega, blk_below B2.out BL9.out, B9.out⟩)
  have RK2 := Aside0.mk (show (Kd.int .i64).R 3 w9 w.heap.size (fun k => g2 < k ∧ k ≠ g4) (.slice Ak 1 ck) [wrap64 (1 + (Int.tmod (wrap64 (Int.tdiv k 17)) 40))] from Kd.R_below (Kd.R_lower (Kd.R_mono (Kd.R_bound RK.out) (fun k hk => ⟨by have := N2.out; have := hk.2.1; omega, by have := hk.2.2.1; omega⟩)) (by have := N2.out; have := G2.out; omega)) BL9.out)
  have HA1 := dvw k 17 40 1 K01.out.1 K01.out.2 (by omega) (by omega) (by omega) (by omega) (by omega)
  have HA2 := dvw k 19 40 41 K01.out.1 K01.out.2 (by omega) (by omega) (by omega) (by omega) (by omega)
  clear RK N2 B2 HB B4 BL G4 B9 BL9 L9 G2
  by_cases c : Int.tmod (wrap64 (Int.tdiv k 3)) 2 = 0
  ·have cb : (Int.tmod (wrap64 (Int.tdiv k 3)) 2 == 0) = true := beq_iff_eq.mpr c
   rw [cb]
   have hc := cz25 K.out.c4
   have hz := blk_frozen K.out.c4
   go_wp2_with ((with_reducible refine gate_builtin (b := .append) (xs := #[.tmp 73, .tmp 78]) rfl ?_); at_builtin; refine app0 (fun k => g2 < k ∧ k ≠ g4) (.tmp 73) (.tmp 78) (.slice Ak 1 ck) [wrap64 (1 + (Int.tmod (wrap64 (Int.tdiv k 17)) 40))] (wrap64 (41 + (Int.tmod (wrap64 (Int.tdiv k 19)) 40))) 22 K.out RK2.out (fun k hk => by have h2 := blk_lt K.out.c2; have h4 := blk_lt K.out.c4; omega) (by simp) ?_ Try.underlying22 info3 (by decide); intro A1 p1 w1 hk1 hr1 hfar hsz; have KA := Aside0.mk hk1; have RA := Aside0.mk hr1; clear hk1 hr1 hfar hsz hc hz; have hc := cz25 KA.out.c4; have hz := blk_frozen KA.out.c4)
   go_meet
   have hR := Kd.R_far (p := ⟨g4, 23, none⟩) RA.out (fun k hk => hk.2) (.slice A1 2 p1)
   have K2 : KP w g2 g4 (C0 k (.slice A1 2 p1)) (w1.setCell ⟨g4, 23, none⟩ (.slice A1 2 p1)) := KA.out.cell 23 _ rfl
   exact ⟨_, _, _, ⟨K2⟩, ⟨OldI.of_R hR (fun k hk => hk)⟩, ⟨_, HA1.1, HA1.2, .inr ⟨_, HA2.1, HA2.2, rfl⟩⟩, ⟨C0_num k _ K01.out.1 K01.out.2⟩, ⟨Nat.le_refl _⟩, ⟨blk_lt K2.c2, blk_lt K2.c4⟩, rfl, rfl⟩
  ·have cb : (Int.tmod (wrap64 (Int.tdiv k 3)) 2 == 0) = false := beq_eq_false_iff_ne.mpr c
   rw [cb]
   go_wp2_with fail
   go_meet
   exact ⟨_, _, _, K, ⟨OldI.of_R RK2.out (fun k hk => hk)⟩, ⟨_, HA1.1, HA1.2, .inl rfl⟩, ⟨C0_num k _ K01.out.1 K01.out.2⟩, ⟨Nat.le_refl _⟩, ⟨blk_lt K.out.c2, blk_lt K.out.c4⟩, rfl, rfl⟩
 case rest =>
  obtain ⟨⟨fl, gp, ca, sp, br, tq, wi, dw, rt, em, fu, tr, sl, rv, m0, h0, q0, m1, h1, q1, m2, h2, q2, kv, li⟩, kl, N, K, HI, KO, HN, NN, NG, e1, e2⟩ := hcut
  simp only at e1 e2 HI
  subst e1 e2
  clear B2 HB RK B4 B9 BL BL9 G4 N2
  replace HN := Aside0.mk (show Num ⟨fl, .slice none 0 0, ca, sp, br, tq, wi, dw, rt, em, fu, tr, sl, .slice none 0 0, .int .u64 0, 0, 0, .int .u64 0, 0, 0, .int .u64 0, 0, 0, .slice none 0 0, li⟩ from HN.out)
  have hf := HN.out.1
  simp only at hf
  go_upto_if 84 with fail
  go_loopg [5] (fl - 1).toNat (fun kq v5 w' => ∃ (j : Nat) (gl : List Int) (gv : Value), v5 = .int .i64 j ∧ Aside0 ((j : Int) + kq = fl ∧ gl.length + 1 = j ∧ ∀ x ∈ gl, 1 ≤ x ∧ x ≤ 6) ∧ Aside0 (KP w g2 g4 ⟨fl, gv, ca, sp, br, tq, wi, dw, rt, em, fu, tr, sl, .slice none 0 0, m0, h0, q0, m1, h1, q1, m2, h2, q2, kv, li⟩ w') ∧ Aside0 ((Kd.int .i64).R 3 w' w.heap.size (fun k => N ≤ k) gv gl) ∧ Aside0 (OldI g2 N g4 kv kl w') ∧ Aside0 (N ≤ w'.heap.size))
  case atStart => exact ⟨1, [], _, rfl, ⟨by omega, rfl, fun x hx => by cases hx⟩, K, ⟨Kd.R_nil _ _ _ _ _⟩, HI, NN⟩
  case round =>
   clear K HI NN
   obtain ⟨j, gl, gv, rfl, HJ, K, RG, HI, NN⟩ := hrel
   cases gk with
   | zero =>
    have hj := HJ.out
    have p1 : ((j : Int) < fl) = False := eq_false (by omega)
    have HL := Aside0.mk (show (gl.length : Int) = fl - 1 ∧ ∀ x ∈ gl, 1 ≤ x ∧ x ≤ 6 from ⟨by omega, hj.2.2⟩)
    obtain ⟨M, NM, MM, HG⟩ := OldI.ex RG.out (fun k hk => by have := NG.out; omega) NN.out (g2 := g2) (g := g4)
    have HI2 := Aside0.mk (HI.out.mono NM)
    have MG := Aside0.mk (show g2 < M ∧ g4 < M by have := NG.out; omega)
    have HG := Aside0.mk HG
    have MM := Aside0.mk MM
    clear hj HJ RG NN NG HI NM
    have hc := cz25 K.out.c4
    have hzf := blk_frozen K.out.c4
    have hca := HN.out.2.1
    simp only at hca
    go_upto_if 102 with fail
    clear hc hzf p1
    go_loopg [6] ca.toNat (fun kq v6 w' => ∃ (i : Nat) (rl : List (List Int)) (rv : Value), v6 = .int .i64 i ∧ Aside0 ((i : Int) + kq = ca ∧ rl.length = i ∧ ∀ r ∈ rl, (r.length : Int) = sl ∧ ∀ x ∈ r, 0 ≤ x ∧ x ≤ 3) ∧ Aside0 (KP w g2 g4 ⟨fl, gv, ca, sp, br, tq, wi, dw, rt, em, fu, tr, sl, rv, m0, h0, q0, m1, h1, q1, m2, h2, q2, kv, li⟩ w') ∧ Aside0 ((Kd.slice 3 (Kd.int .i64)).R 22 w' w.heap.size (fun k => M ≤ k) rv rl) ∧ Aside0 (OldI g2 M g4 kv kl w') ∧ Aside0 (OldI g2 M g4 gv gl w') ∧ Aside0 (M ≤ w'.heap.size))
    case atStart => exact ⟨0, [], _, rfl, ⟨by omega, rfl, fun x hx => by cases hx⟩, K, ⟨Kd.R_nil _ _ _ _ _⟩, HI2, HG, MM⟩
    case round =>
     clear K HI2 HG MM
     obtain ⟨i, rl, rv, rfl, HJ, K, RR, HI, HG, MM⟩ := hrel
     cases gk with
     | zero =>
      have hi := HJ.out
      have p1 : ((i : Int) < ca) = False := eq_false (by omega)
      have HRL := Aside0.mk (show (rl.length : Int) = ca ∧ ∀ r ∈ rl, (r.length : Int) = sl ∧ ∀ x ∈ r, 0 ≤ x ∧ x ≤ 3 from ⟨by omega, hi.2.2⟩)
      clear hi HJ
      obtain ⟨M3, N3, S3, RO⟩ := OldR.ex RR.out (fun k hk => by have := MG.out; omega) MM.out (g2 := g2) (g := g4)
      have Z := Aside0.mk (show KF w g2 g4 M3 gv gl rv rl kv kl ⟨fl, gv, ca, sp, br, tq, wi, dw, rt, em, fu, tr, sl, rv, m0, h0, q0, m1, h1, q1, m2, h2, q2, kv, li⟩ _ from ⟨K.out, HG.out.mono N3, RO, HI.out.mono N3, S3⟩)
      have M3G := Aside0.mk (show g2 < M3 ∧ g4 < M3 by have := MG.out; omega)
      clear K RR HI HG MM RO S3 N3 MG
      have hc := cz25 Z.out.k.c4
      have hzf := blk_frozen Z.out.k.c4
      go_upto_if 137 with fail
      clear hc hzf p1
      go_loopg [9] 3 (fun kq v9 w' => ∃ (d : Nat) (m0 : Value) (h0 q0 : Int) (m1 : Value) (h1 q1 : Int) (m2 : Value) (h2 q2 : Int), v9 = .int .i64 d ∧ Aside0 (d + kq = 3) ∧ Aside0 ((0 < d → RK fl m0 h0 q0) ∧ (1 < d → RK fl m1 h1 q1) ∧ (2 < d → RK fl m2 h2 q2)) ∧ Aside0 (KF w g2 g4 M3 gv gl rv rl kv kl ⟨fl, gv, ca, sp, br, tq, wi, dw, rt, em, fu, tr, sl, rv, m0, h0, q0, m1, h1, q1, m2, h2, q2, kv, li⟩ w'))
      case atStart => exact ⟨0, _, _, _, _, _, _, _, _, _, rfl, ⟨by omega⟩, ⟨fun h => by omega, fun h => by omega, fun h => by omega⟩, Z⟩
      case round =>
       clear Z
       obtain ⟨d, m0, h0, q0, m1, h1, q1, m2, h2, q2, rfl, HD, HRK, Z⟩ := hrel
       cases gk with
       | zero =>
        have hd : d = 3 := by have := HD.out; omega
        subst hd
        obtain ⟨r0, r1, r2⟩ := HRK.out
        obtain ⟨mm0, rfl, a0, a1, a2, a3⟩ := r0 (by decide)
        obtain ⟨mm1, rfl, b0, b1, b2, b3⟩ := r1 (by decide)
        obtain ⟨mm2, rfl, c0, c1, c2, c3⟩ := r2 (by decide)
        obtain ⟨A1, p1, rfl, l1, F1⟩ := Z.out.gi
        obtain ⟨A2, p2, rfl, l2, F2⟩ := Z.out.ri
        obtain ⟨A3, p3, rfl, l3, F3⟩ := Z.out.ki
        have HS := Aside0.mk (show (⟨fl, gl, ca, sp, br, tq, wi, dw, rt, em, fu, tr, sl, rl, mm0, h0, q0, mm1, h1, q1, mm2, h2, q2, kl, li⟩ : Cont).Sm 5 4 from by
         obtain ⟨n1, n2, n3, n4, n5, n6, n7, n8, n9, n10, n11, n12, n13⟩ := HN.out
         simp only at n1 n2 n3 n4 n5 n6 n7 n8 n9 n10 n11 n12 n13
         have hk := KO.out.len
         exact ⟨n1.1, n1.2, HL.out.1, HL.out.2, n2.1, n2.2, n3.1, n3.2, n4.1, n4.2, n5.1, n5.2, n6.1, n6.2, n7.1, n7.2, n8.1, n8.2, n9.1, n9.2, n10.1, n10.2, n11.1, n11.2, n12.1, n12.2, HRL.out.1, HRL.out.2, a3, b3, c3, a2, b2, c2, ⟨a0, a1⟩, ⟨b0, b1⟩, ⟨c0, c1⟩, hk.2, hk.1, n13.1, n13.2⟩)
        have FX := Aside0.mk (And.intro F1 (And.intro F2 F3))
        have LX := Aside0.mk (And.intro l1 (And.intro l2 l3))
        clear r0 r1 r2 a0 a1 a2 a3 b0 b1 b2 b3 c0 c1 c2 c3 F1 F2 F3 l1 l2 l3 HRK HD
        go_wp2_with (first | ((with_reducible refine gate_dst (N := 201) rfl ?_); refine lwx (g := g4) Z.out.k.c4 ?_) | ((with_reducible refine gate_store (t := 29) (p := 2) rfl ?_); refine swm (g := g2) (vs := (⟨fl, .slice A1 gl.length p1, ca, sp, br, tq, wi, dw, rt, em, fu, tr, sl, .slice A2 rl.length p2, .int .u64 mm0, h0, q0, .int .u64 mm1, h1, q1, .int .u64 mm2, h2, q2, .slice A3 kl.length p3, li⟩ : Cfg).cells.toList) Z.out.k.c2 ?_ (by rfl) (h1 := by rfl); intro w9 hw9 hfar hbel; have B9 := Aside0.mk hw9; have FAR := Aside0.mk hfar; have BEL := Aside0.mk (hbel _ _ Z.out.k.hb Z.out.k.l2); clear hw9 hfar hbel))
        refine bodyPost_ret (results_cell_row rfl _ _ g2 29 _ (0, 0) _ rfl B9.out Try.underlying29 rfl (by kernel_rfl)) rfl ?_
        exact ⟨_, ⟨fl, .slice A1 gl.length p1, ca, sp, br, tq, wi, dw, rt, em, fu, tr, sl, .slice A2 rl.length p2, .int .u64 mm0, h0, q0, .int .u64 mm1, h1, q1, .int .u64 mm2, h2, q2, .slice A3 kl.length p3, li⟩, rfl, by repeat' (first | rfl | apply And.intro), ⟨HS.out, A1, p1, A2, p2, A3, p3, rfl, Kd.F_now (Kd.F_step FX.out.1 (fun k hk _ => FAR.out k (by omega))), LX.out.1, Kd.F_now (Kd.F_step FX.out.2.1 (fun k hk _ => FAR.out k (by omega))), LX.out.2.1, Kd.F_now (Kd.F_step FX.out.2.2 (fun k hk _ => FAR.out k (by omega))), LX.out.2.2⟩, BEL.out⟩
       | succ k1 =>
        have hd := HD.out
        have p1 : ((d : Int) < 3) = True := eq_true (by omega)
        have D2 := Aside0.mk (show d ≤ 2 by omega)
        obtain ⟨F, P, al, rfl, F2, F6, hP, hal, hal2, hfw, al3, al64⟩ := fl_cases fl hf.1 hf.2
        have HAL := Aside0.mk hal2
        have FF := Aside0.mk (And.intro F2 F6)
        have HA3 := Aside0.mk al3
        clear hal2 al3 hd F2 F6
        have hP_ : (IntKind.u64.wrap (1 * 2 ^ min ((F : Int)).toNat 64)) = P := hP
        have hPz : ((F : Int)) ≤ 64 → (IntKind.u64.wrap (1 * 2 ^ ((F : Int)).toNat)) = P := shl_small hP
        have hPu : (IntKind.u64.wrap (2 ^ min ((F : Int)).toNat 64)) = P := by have h_ := hP_; rw [Int.one_mul] at h_; exact h_
        have hPn : (IntKind.u64.wrap (2 ^ min F 64)) = P := hPu
        have hPm : (IntKind.u64.wrap (1 * 2 ^ min F 64)) = P := hP_
        have hPq : IntKind.u64.wrap ((2 : Int) ^ F) = P := by
         have h_ := hPu
         rw [Int.toNat_natCast, show min F 64 = F by have := FF.out; omega] at h_
         exact h_
        have h0F : (0 ≤ (F : Int)) = True := eq_true (by omega)
        have hc := cz25 Z.out.k.c4
        have hzf := blk_frozen Z.out.k.c4
        go_upto_region 22 with fail
        clear hP hP_ hPz hPu hPn hPm hPq hal hfw hc hzf p1 h0F
        go_cut [11] (fun v11 wc => ∃ mm : Int, v11 = .int .u64 mm ∧ Aside0 (0 ≤ mm ∧ mm ≤ al) ∧ Aside0 (KF w g2 g4 M3 gv gl rv rl kv kl ⟨F, gv, ca, sp, br, tq, wi, dw, rt, em, fu, tr, sl, rv, m0, h0, q0, m1, h1, q1, m2, h2, q2, kv, li⟩ wc))
        case first =>
         have hnz : (wrap64 (43 + (d : Int)) == 0) = false := beq_eq_false_iff_ne.mpr (by have := D2.out; unfold wrap64; omega)
         have hnz2 : ¬ wrap64 (43 + (d : Int)) = 0 := by have := D2.out; unfold wrap64; omega
         go_wp2
         go_meet
         exact ⟨_, rfl, ⟨and_le _ al _ HAL.out (by have := HAL.out; omega)⟩, Z⟩
        case rest =>
         clear Z
         obtain ⟨mm, rfl, HM1, Z⟩ := hcut
         go_upto_region 23 with fail
         go_cut [168] (fun v168 wc => ∃ b : Bool, v168 = .bool b ∧ Aside0 (b = false → mm ≠ 0) ∧ Aside0 (KF w g2 g4 M3 gv gl rv rl kv kl ⟨F, gv, ca, sp, br, tq, wi, dw, rt, em, fu, tr, sl, rv, m0, h0, q0, m1, h1, q1, m2, h2, q2, kv, li⟩ wc))
         case first =>
          by_cases c : mm = 0
          ·have cb : (mm == 0) = true := beq_iff_eq.mpr c
           go_wp2
           go_meet
           exact ⟨true, rfl, ⟨fun h => by cases h⟩, Z⟩
          ·have cb : (mm == 0) = false := beq_eq_false_iff_ne.mpr c
           cases c2 : (Int.tmod (wrap64 (k + (d : Int))) 3 == 0)
           ·go_wp2
            go_meet
            exact ⟨false, rfl, ⟨fun _ => c⟩, Z⟩
           ·go_wp2
            go_meet
            exact ⟨true, rfl, ⟨fun h => by cases h⟩, Z⟩
         case rest =>
         clear Z
         obtain ⟨b, rfl, HBB, Z⟩ := hcut
         go_upto_if 168 with fail
         go_cut [11] (fun v11 wc => ∃ m : Nat, v11 = .int .u64 m ∧ Aside0 (0 < m ∧ (m : Int) ≤ al) ∧ Aside0 (KF w g2 g4 M3 gv gl rv rl kv kl ⟨F, gv, ca, sp, br, tq, wi, dw, rt, em, fu, tr, sl, rv, m0, h0, q0, m1, h1, q1, m2, h2, q2, kv, li⟩ wc))
         case first =>
          cases b with
          | true =>
           obtain ⟨A, hA, hA2⟩ := natv al (by have := HA3.out; omega)
           go_wp2
           go_meet
           exact ⟨A, by rw [← hA], ⟨hA2, by omega⟩, Z⟩
          | false =>
           obtain ⟨A, hA, hA2⟩ := natv mm (by have h1 := HBB.out rfl; have h2 := HM1.out; omega)
           go_wp2
           go_meet
           exact ⟨A, by rw [← hA], ⟨hA2, by have h2 := HM1.out; omega⟩, Z⟩
         case rest =>
          clear Z
          obtain ⟨m, rfl, HM2, Z⟩ := hcut
          go_upto_region 25 with fail
          go_cut [12] (fun v12 wc => ∃ hm : Nat, v12 = .int .i64 hm ∧ Aside0 (hm < F) ∧ Aside0 (KF w g2 g4 M3 gv gl rv rl kv kl ⟨F, gv, ca, sp, br, tq, wi, dw, rt, em, fu, tr, sl, rv, m0, h0, q0, m1, h1, q1, m2, h2, q2, kv, li⟩ wc))
          case first =>
           have hc := cz25 Z.out.k.c4
           have hzf := blk_frozen Z.out.k.c4
           obtain ⟨hm, e, hl⟩ := homv k d F K01.out.1 K01.out.2 D2.out FF.out.1
           have hF1 : ((F : Int) == 0) = false := beq_eq_false_iff_ne.mpr (by have := FF.out; omega)
           have hF2 : ¬ (F : Int) = 0 := by have := FF.out; omega
           have HM3 := Aside0.mk hl
           clear hl
           go_wp2
           go_meet
           exact ⟨hm, by first | rfl | rw [← e], HM3, Z⟩
          case rest =>
           clear Z
           obtain ⟨hm, rfl, HM3, Z⟩ := hcut
           have MF := Aside0.mk (show m < 2 ^ F ∧ 2 ^ F ≤ 64 by have h1 := HM2.out; have h2 := HAL.out; have h3 : 2 ^ F ≤ 2 ^ 6 := Nat.pow_le_pow_right (by omega) FF.out.2; omega)
           have JX := bit_ex m F hm (by have := FF.out; omega) FF.out.1 HM2.out.1 MF.out.1 HM3.out
           have JX := Aside0.mk JX
           go_wp2_with fail
           go_loopg [12] 7 (fun kq v12 w' => ∃ hm j : Nat, v12 = .int .i64 hm ∧ Aside0 (hm < F ∧ j ≤ kq ∧ Nat.testBit m ((hm + j) % F) = true) ∧ Aside0 (KF w g2 g4 M3 gv gl rv rl kv kl ⟨F, gv, ca, sp, br, tq, wi, dw, rt, em, fu, tr, sl, rv, m0, h0, q0, m1, h1, q1, m2, h2, q2, kv, li⟩ w'))
           case atStart =>
            obtain ⟨j, hj, hb⟩ := JX.out
            exact ⟨hm, j, rfl, ⟨HM3.out, hj, hb⟩, Z⟩
           case round =>
            clear Z JX HM3
            obtain ⟨hm, j, rfl, HB3, Z⟩ := hrel
            have hmF := HB3.out.1
            have hF6 := FF.out
            obtain ⟨Q, hQ⟩ : ∃ Q, shr .u64 (m : Int) (hm : Int) = Q := ⟨_, rfl⟩
            have hQ_ : ((m : Int) / 2 ^ min ((hm : Int)).toNat 64) = Q := hQ
            have hQn : ((m : Int) / 2 ^ min hm 64) = Q := hQ
            have hQm : ((m : Int) / 2 ^ hm) = Q := by have h_ := hQn; rw [show min hm 64 = hm by omega] at h_; exact h_
            have hhw : IntKind.u64.wrap (hm : Int) = hm := u64_id _ (by omega) (by omega)
            have h0h : (0 ≤ (hm : Int)) = True := eq_true (by omega)
            have hbt := bitT m hm (by have := MF.out; omega) (by omega)
            rw [hQ] at hbt
            clear hmF hF6
            cases hb : Nat.testBit m hm with
            | true =>
             rw [hb] at hbt
             replace hbt : Go.bits .and .u64 Q 1 = 1 := hbt
             have HBT := Aside0.mk hb
             clear hb
             go_upto_region 28 with fail
             have hc := cz25 Z.out.k.c4
             have hzf := blk_frozen Z.out.k.c4
             obtain rfl | rfl | rfl : d = 0 ∨ d = 1 ∨ d = 2 := by have := D2.out; omega
             ·go_wp2
              go_roundg k1
              case measure => omega
              case rel =>
               have hq := quw (wrap64 (wrap64 (Int.tdiv k 59))) (by have h2 := dv k 59 K01.out.1 K01.out.2 (by omega); generalize wrap64 (Int.tdiv k 59) = y at *; have := K01.out; unfold wrap64; omega)
               exact ⟨1, .int .u64 m, hm, _, m1, h1, q1, m2, h2, q2, rfl, ⟨by have := HD.out; omega⟩, ⟨fun _ => RK.of F m hm _ (by have := FF.out; omega) HM2.out.1 MF.out.1 HB3.out.1 HBT.out hq.1 hq.2, fun h => absurd h (by decide), fun h => absurd h (by decide)⟩, ⟨Z.out.r0 _ _ _⟩⟩
             ·go_wp2
              go_roundg k1
              case measure => omega
              case rel =>
               have hq := quw (wrap64 (wrap64 (Int.tdiv k 59) + 2)) (by have h2 := dv k 59 K01.out.1 K01.out.2 (by omega); generalize wrap64 (Int.tdiv k 59) = y at *; have := K01.out; unfold wrap64; omega)
               exact ⟨2, m0, h0, q0, .int .u64 m, hm, _, m2, h2, q2, rfl, ⟨by have := HD.out; omega⟩, ⟨fun _ => HRK.out.1 (by decide), fun _ => RK.of F m hm _ (by have := FF.out; omega) HM2.out.1 MF.out.1 HB3.out.1 HBT.out hq.1 hq.2, fun h => absurd h (by decide)⟩, ⟨Z.out.r1 _ _ _⟩⟩
             ·go_wp2
              go_roundg k1
              case measure => omega
              case rel =>
               have hq := quw (wrap64 (wrap64 (Int.tdiv k 59) + 4)) (by have h2 := dv k 59 K01.out.1 K01.out.2 (by omega); generalize wrap64 (Int.tdiv k 59) = y at *; have := K01.out; unfold wrap64; omega)
               exact ⟨3, m0, h0, q0, m1, h1, q1, .int .u64 m, hm, _, rfl, ⟨by have := HD.out; omega⟩, ⟨fun _ => HRK.out.1 (by decide), fun _ => HRK.out.2.1 (by decide), fun _ => RK.of F m hm _ (by have := FF.out; omega) HM2.out.1 MF.out.1 HB3.out.1 HBT.out hq.1 hq.2⟩, ⟨Z.out.r2 _ _ _⟩⟩
            | false =>
             rw [hb] at hbt
             replace hbt : Go.bits .and .u64 Q 1 = 0 := hbt
             cases gk with
             | zero => exact absurd HB3.out.2.2 (by have h1 := HB3.out; rw [show j = 0 by omega, Nat.add_zero, Nat.mod_eq_of_lt h1.1, hb]; decide)
             | succ k2 =>
              have hc := cz25 Z.out.k.c4
              have hzf := blk_frozen Z.out.k.c4
              have hF1 : ((F : Int) == 0) = false := beq_eq_false_iff_ne.mpr (by have := FF.out; omega)
              have hF2 : ¬ (F : Int) = 0 := by have := FF.out; omega
              have hwi : IntKind.i64.wrap ((hm : Int) + 1) = ((hm + 1 : Nat) : Int) := by have := HB3.out; have := FF.out; rw [i64_w]; unfold wrap64; omega
              go_wp2
              go_roundg k2
              case measure => omega
              case rel =>
               have hj : 1 ≤ j := by
                rcases Nat.eq_zero_or_pos j with e | e
                ·exfalso
                 subst e
                 have h1 := HB3.out.2.2
                 have h2 : (hm + 0) % F = hm := Nat.mod_eq_of_lt HB3.out.1
                 rw [h2] at h1
                 exact absurd (hb.symm.trans h1) (by decide)
                ·exact e
               exact ⟨(hm + 1) % F, j - 1, by push_cast; rfl, ⟨Nat.mod_lt _ (by have := FF.out; omega), by have := HB3.out; omega, by rw [Nat.mod_add_mod, show hm + 1 + (j - 1) = hm + j by omega]; exact HB3.out.2.2⟩, Z⟩

     | succ k1 =>
      have hi := HJ.out
      have p1 : ((i : Int) < ca) = True := eq_true (by omega)
      have hsl := HN.out.2.2.2.2.2.2.2.2.2.2.2.1
      simp only at hsl
      clear hi
      have hc := cz25 K.out.c4
      have hzf := blk_frozen K.out.c4
      go_upto_if 108 with fail
      clear hc hzf
      obtain ⟨M2, N2, S2, RR2⟩ := R_cut RR.out MM.out
      have RR2 := Aside0.mk RR2
      have S2 := Aside0.mk S2
      have N2 := Aside0.mk N2
      clear RR
      go_loopg [7, 8] sl.toNat (fun kq v7 v8 w' => ∃ (j : Nat) (l : List Int) (lv : Value), v7 = lv ∧ v8 = .int .i64 j ∧ Aside0 ((j : Int) + kq = sl ∧ l.length = j ∧ ∀ x ∈ l, 0 ≤ x ∧ x ≤ 3) ∧ Aside0 (KP w g2 g4 ⟨fl, gv, ca, sp, br, tq, wi, dw, rt, em, fu, tr, sl, rv, m0, h0, q0, m1, h1, q1, m2, h2, q2, kv, li⟩ w') ∧ Aside0 ((Kd.slice 3 (Kd.int .i64)).R 22 w' w.heap.size (fun k => M ≤ k ∧ k < M2) rv rl) ∧ Aside0 (OldI g2 M g4 kv kl w') ∧ Aside0 (OldI g2 M g4 gv gl w') ∧ Aside0 (M2 ≤ w'.heap.size) ∧ Aside0 ((Kd.int .i64).R 3 w' w.heap.size (fun k => M2 ≤ k) lv l))
      case atStart => exact ⟨0, [], _, rfl, rfl, ⟨by omega, rfl, fun x hx => by cases hx⟩, K, RR2, HI, HG, S2, ⟨Kd.R_nil _ _ _ _ _⟩⟩
      case round =>
       clear K RR2 HI HG S2
       obtain ⟨j, l, lv, rfl, rfl, HL2, K, RR2, HI, HG, S2, RL⟩ := hrel
       cases gk with
       | zero =>
        have hj := HL2.out
        have p2 : ((j : Int) < sl) = False := eq_false (by omega)
        have hwi : IntKind.i64.wrap ((i : Int) + 1) = ((i + 1 : Nat) : Int) := by have := HJ.out; rw [i64_w]; unfold wrap64; omega
        have HLX := Aside0.mk (show (l.length : Int) = sl ∧ ∀ x ∈ l, 0 ≤ x ∧ x ≤ 3 from ⟨by omega, hj.2.2⟩)
        have HLG := Aside0.mk (show rl.length ≤ 1000 by have := HJ.out; omega)
        clear hj HL2
        have hv := Kd.R_slice RL.out
        obtain ⟨Al, cl, rfl⟩ := hv
        have hc := cz25 K.out.c4
        have hzf := blk_frozen K.out.c4
        go_wp2_with ((with_reducible refine gate_builtin (b := .append) (xs := #[.tmp 131, .tmp 133]) rfl ?_); at_builtin; refine app1 M M2 (.tmp 131) (.tmp 133) rv _ rl l 23 K.out RR2.out RL.out N2.out S2.out HLG.out ?_ Try.underlying23 info22 (by decide); intro A1 p1 w1 hk1 hr1 hfar hsz; generalize hn1 : (rl ++ [l]).length = n1 at hr1 ⊢; have HN1 := Aside0.mk hn1; have KA := Aside0.mk hk1; have RA := Aside0.mk hr1; have HA := Aside0.mk (HI.out.step (fun k h1 h2 h3 => hfar k (by have := N2.out; have := S2.out; omega) h2)); have HGA := Aside0.mk (HG.out.step (fun k h1 h2 h3 => hfar k (by have := N2.out; have := S2.out; omega) h2)); have NA := Aside0.mk (Nat.le_trans (Nat.le_trans N2.out S2.out) hsz); clear hk1 hr1 hfar hsz hc hzf hn1; have hc := cz25 KA.out.c4; have hzf := blk_frozen KA.out.c4)
        go_roundg k1
        case measure => omega
        case rel => exact ⟨i + 1, rl ++ [l], _, by simp, ⟨by have := HJ.out; omega, by have := HJ.out; simp; omega, fun x hx => by rcases List.mem_append.1 hx with h | h; exact HJ.out.2.2 x h; rw [List.mem_singleton.1 h]; exact HLX.out⟩, ⟨KA.out.cell 13 _ rfl⟩, ⟨Kd.R_far (p := ⟨g4, 13, none⟩) RA.out (fun k hk => by have := MG.out; simp only; omega) _⟩, ⟨HA.out.cell 13 _⟩, ⟨HGA.out.cell 13 _⟩, ⟨Nat.le_trans NA.out ((Below.refl g4 w1).setCell (Nat.le_refl g4) _ (p := ⟨g4, 13, none⟩)).size⟩⟩
       | succ k2 =>
        have hj := HL2.out
        have p2 : ((j : Int) < sl) = True := eq_true (by omega)
        have hwi : IntKind.i64.wrap ((j : Int) + 1) = ((j + 1 : Nat) : Int) := by rw [i64_w]; unfold wrap64; omega
        have HZ := rotv k i j K01.out.1 K01.out.2 (by have := HJ.out; omega) (by omega)
        generalize hz : Int.tmod (wrap64 (wrap64 (wrap64 (Int.tdiv k 29) + wrap64 ((i : Int) * Int.tmod (wrap64 (Int.tdiv k 31)) 3)) + wrap64 ((j : Int) * wrap64 (1 + Int.tmod (wrap64 (Int.tdiv k 37)) 3)))) 4 = z at HZ
        have HZ := Aside0.mk HZ
        have hz := Aside0.mk hz
        have HLG := Aside0.mk (show l.length ≤ 1000 by omega)
        have HLn := Aside0.mk (show l.length = j from hj.2.1)
        clear hj
        have hc := cz25 K.out.c4
        have hzf := blk_frozen K.out.c4
        go_wp2_with ((with_reducible refine gate_builtin (b := .append) (xs := #[.tmp 111, .tmp 128]) rfl ?_); at_builtin; (try rw [hz.out]); refine app0 (fun k => M2 ≤ k) (.tmp 111) (.tmp 128) _ l z 22 K.out RL.out (fun k hk => Nat.le_trans S2.out hk) HLG.out ?_ Try.underlying22 info3 (by decide); intro A1 p1 w1 hk1 hr1 hfar hsz; generalize hn1 : (l ++ [z]).length = n1 at hr1 ⊢; have HN1 := Aside0.mk hn1; have KA := Aside0.mk hk1; have RA := Aside0.mk hr1; have HA := Aside0.mk (HI.out.step (fun k h1 h2 h3 => hfar k (by have := N2.out; have := S2.out; omega) (by have := N2.out; omega))); have HGA := Aside0.mk (HG.out.step (fun k h1 h2 h3 => hfar k (by have := N2.out; have := S2.out; omega) (by have := N2.out; omega))); have RRA := Aside0.mk (Kd.R_step RR2.out (fun k h1 h2 => hfar k h2 (by omega))); have NA := Aside0.mk (Nat.le_trans S2.out hsz); clear hk1 hr1 hfar hsz hc hzf hn1)
        go_roundg k2
        case measure => omega
        case rel => exact ⟨j + 1, l ++ [z], _, rfl, by simp, ⟨by have := HL2.out; omega, by have := HL2.out; simp; omega, fun x hx => by rcases List.mem_append.1 hx with h | h; exact HL2.out.2.2 x h; rw [List.mem_singleton.1 h]; exact HZ.out⟩, KA, RRA, HA, HGA, NA, RA⟩
   | succ k1 =>
    have hj := HJ.out
    have p1 : ((j : Int) < fl) = True := eq_true (by omega)
    have hwi : IntKind.i64.wrap ((j : Int) + 1) = ((j + 1 : Nat) : Int) := by rw [i64_w]; unfold wrap64; omega
    have hlg : gl.length ≤ 1000 := by omega
    have HZ := gapv k j K01.out.1 K01.out.2 (by omega)
    generalize hz : wrap64 (1 + Int.tmod (wrap64 (wrap64 (Int.tdiv k 23) + wrap64 (5 * (j : Int)))) 6) = z at HZ
    have HZ := Aside0.mk HZ
    have hz := Aside0.mk hz
    have HLG := Aside0.mk hlg
    clear hj hlg
    have hc := cz25 K.out.c4
    have hzf := blk_frozen K.out.c4
    go_wp2_with ((with_reducible refine gate_builtin (b := .append) (xs := #[.tmp 88, .tmp 96]) rfl ?_); at_builtin; (try rw [hz.out]); refine app0 (fun k => N ≤ k) (.tmp 88) (.tmp 96) gv gl z 22 K.out RG.out (fun k hk => Nat.le_trans NN.out hk) HLG.out ?_ Try.underlying22 info3 (by decide); intro A1 p1 w1 hk1 hr1 hfar hsz; generalize hn1 : (gl ++ [z]).length = n1 at hr1 ⊢; have HN1 := Aside0.mk hn1; have KA := Aside0.mk hk1; have RA := Aside0.mk hr1; have HA := Aside0.mk (HI.out.step (fun k h1 h2 h3 => hfar k (Nat.lt_of_lt_of_le h2 NN.out) (by omega))); have NA := Aside0.mk (Nat.le_trans NN.out hsz); clear hk1 hr1 hfar hsz hc hzf hn1; have hc := cz25 KA.out.c4; have hzf := blk_frozen KA.out.c4)
    go_roundg k1
    case measure => omega
    case rel => exact ⟨j + 1, gl ++ [z], _, by simp, ⟨by have := HJ.out; omega, by have := HJ.out; simp; omega, fun x hx => by rcases List.mem_append.1 hx with h | h; exact HJ.out.2.2 x h; rw [List.mem_singleton.1 h]; exact HZ.out⟩, ⟨KA.out.cell 1 _ rfl⟩, ⟨Kd.R_far (p := ⟨g4, 1, none⟩) RA.out (fun k hk => by have := NG.out; simp only; omega) _⟩, ⟨HA.out.cell 1 _⟩, ⟨Nat.le_trans NA.out ((Below.refl g4 w1).setCell (Nat.le_refl g4) _ (p := ⟨g4, 1, none⟩)).size⟩⟩
end Go.Proofs.Ytmdcjmackhjchaa.P
end

section
/- tipstafflaw41.BoundNumbers, walked by hand over what its calls answer. -/
namespace Go.Proofs.Ytmdcjmackhjchaa.P
open Go.RowKit Go.Proofs.YtmdcjmackhjchaaW.PrintWords Go.Proofs.YtmdcjmackhjchaaW.PrintLast Go.Proofs.YtmdcjmackhjchaaW.PrintMore
attribute [local go_sem] cell_same1 cell_some1
set_option linter.unusedVariables false
set_option linter.unusedSimpArgs false

end Go.Proofs.Ytmdcjmackhjchaa.P
end
