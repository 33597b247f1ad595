/- The functions of package brake that work with a pointer beside an error, with method values and with a closure: what they answer, and that the Go code comes to just this. -/
import Derived.Test.YtfibbdbpclkbgaaP0brake
import Derived.Deep.RegionLaw
namespace Go.Proofs.Ytfibbdbpclkbgaa.P
open Go.RowKit Go.Proofs.YtfibbdbpclkbgaaW.PrintWords Go.Proofs.YtfibbdbpclkbgaaW.PrintLast Go.Proofs.YtfibbdbpclkbgaaW.PrintMore
set_option linter.unusedVariables false
set_option linter.unusedSimpArgs false

/-- What Check answers. -/
def bchk (s l n : Int) : Int :=
  if n < 0 then 2 else if n > 5 then 2 else
  if s = 1 then (if l < 1 then 2 else if l > n then 2 else 0) else
  if s = 3 then (if l < 1 then 2 else if l > n then 2 else 0) else
  if s = 0 then (if l < 0 then 2 else if l > 0 then 2 else 0) else
  if s = 2 then (if l < 0 then 2 else if l > 0 then 2 else 0) else 9

theorem brake_Check_eq (k : Nat) (s l n : Int) : brake_Check.f (k + 2) s l n = some (bchk s l n) := by
  unfold brake_Check.f bchk
  by_cases h1 : n < 0
  · simp [brake_Check.j0, h1]
  · by_cases h2 : n > 5
    · simp [brake_Check.j0, h1, h2]
    · simp only [if_neg h1, decide_eq_false h2, brake_Check.j0, brake_Check.j1]
      by_cases a1 : s = 1
      · subst a1; simp [h2]; (repeat' split) <;> rfl
      · by_cases a3 : s = 3
        · subst a3; simp [h2]; (repeat' split) <;> rfl
        · by_cases a0 : s = 0
          · subst a0; simp [h2]; (repeat' split) <;> rfl
          · by_cases a2 : s = 2
            · subst a2; simp [h2]; (repeat' split) <;> rfl
            · simp [a1, a2, a3, a0, h2]

/-- One tick of a brake. -/
def bstep (s l : Int) : Int × Int :=
  if s = 1 then (if l - 1 > 0 then (1, l - 1) else (2, l - 1)) else if s = 3 then (if l - 1 > 0 then (3, l - 1) else (0, l - 1)) else (s, l)
def biter : Nat → Int → Int → Int × Int
  | 0, s, l => (s, l)
  | k + 1, s, l => bstep (biter k s l).1 (biter k s l).2

def brake_turned.f (a0_0 : Int) (a0_1 : Int) (a1 : Int) (a2 : Int) (a3 : Int) (a4 : Int) : Option (Int × Int × Int) :=
  if bchk a0_0 a0_1 a1 ≠ 0 then some (0, 0, bchk a0_0 a0_1 a1) else if a0_0 ≠ a2 then some (0, 0, 9) else if a1 = 0 then some (a4, a1, 0) else some (a3, a1, 0)
def brake_Run.f (a0_0 : Int) (a0_1 : Int) (a1 : Int) (a2 : Int) : Option (Int × Int × Int) :=
  if bchk a0_0 a0_1 a1 ≠ 0 then some (0, 0, bchk a0_0 a0_1 a1) else if a2 < 0 ∨ a2 > 1000 then some (0, 0, 2) else some ((biter a2.toNat a0_0 a0_1).1, (biter a2.toNat a0_0 a0_1).2, 0)

theorem bcell {W w1 : World} (hb : Below W.heap.size W w1) : (∀ b o, b < W.heap.size → w1.cell? ⟨b, o, none⟩ = W.cell? ⟨b, o, none⟩) ∧ (∀ b o, b < W.heap.size → w1.frozen? ⟨b, o, none⟩ = W.frozen? ⟨b, o, none⟩) :=
  ⟨fun b o h => hb.cell (p := ⟨b, o, none⟩) h, fun b o h => hb.frozen (p := ⟨b, o, none⟩) h⟩

theorem opened_bad (s l n : Int) (w : World) (h : bchk s l n ≠ 0) :
    Calls Try.prog 39 #[.agg #[.int .i64 s, .int .i64 l], .int .i64 n] w fun e w' => e = .returned (.tuple #[.pointer none, .int .i64 (bchk s l n)]) ∧ Below w.heap.size w w' := by
  have hb1 : (bchk s l n == 0) = false := beq_eq_false_iff_ne.mpr h
  have hb2 : (bchk s l n != 0) = true := bne_iff_ne.mpr h
  clear h
  go_enter Try.func39, Try.ntmps39
  go_wp2_with (go_at_call 18; refine (brake_Check.calls 2 s l n (bchk s l n) _ (brake_Check_eq 0 s l n)).mono ?_; rintro e w1 ⟨rfl, hb⟩)
  go_ret2
  exact ⟨rfl, below_step (below_alloc (Below.refl _ _) _) hb⟩

theorem opened_good (s l n : Int) (w : World) (h : bchk s l n = 0) :
    Calls Try.prog 39 #[.agg #[.int .i64 s, .int .i64 l], .int .i64 n] w fun e w' => ∃ g, e = .returned (.tuple #[.pointer (some ⟨g, 0, none⟩), .int .i64 0]) ∧ IsS51 w w' g s l ∧ Below w.heap.size w w' := by
  have hq := brake_Check_eq 0 s l n
  rw [h] at hq
  clear h
  go_enter Try.func39, Try.ntmps39
  go_wp2_with (go_at_call 18; refine (brake_Check.calls 2 s l n 0 _ hq).mono ?_; rintro e w1 ⟨rfl, hb⟩; have HB := Aside0.mk hb; have hc0 := (blk_cell (blk_below (blk_new w (.cells #[.int .i64 s, .int .i64 l] 30)) hb) 0); have hc1 := (blk_cell (blk_below (blk_new w (.cells #[.int .i64 s, .int .i64 l] 30)) hb) 1); have hsz := hb.size; clear hb)
  have HW : Below w.heap.size w w1 := below_step (below_alloc (Below.refl _ _) _) HB.out
  go_ret2
  exact ⟨w1.heap.size, rfl, IsS51.new w w1 s l HW, below_alloc HW _⟩

theorem goOn_eq (s l : Int) (hs : s = 1 ∨ s = 3) (hl : 0 ≤ l) (hl5 : l ≤ 5) : brake_machine_goOn.f s l = some ((bstep s l).1, (bstep s l).2) := by
  have hw : wrap64 (l - 1) = l - 1 := by unfold wrap64; omega
  unfold brake_machine_goOn.f bstep
  rw [hw]
  rcases hs with rfl | rfl <;> simp <;> split <;> rfl

theorem step_any (g : Nat) (s l : Int) (w0 w : World) (hI : IsS51 w0 w g s l) (hB : Below w0.heap.size w0 w) (hs : 0 ≤ s) (hs3 : s ≤ 3) (hl : 0 ≤ l) (hl5 : l ≤ 5) :
    Calls Try.prog 36 #[.pointer (some ⟨g, 0, none⟩)] w fun e w' => e = .returned (.tuple #[]) ∧ IsS51 w0 w' g (bstep s l).1 (bstep s l).2 ∧ Below w0.heap.size w0 w' ∧ KeepBut w w' g none := by
  have hmf : ∀ (fn : Fn) (first cap : Array Value) (w : World), (Instr.makeFunc fn first cap).run Try.prog w = .ok (.func fn first cap) w := fun _ _ _ _ => rfl
  have hsf := fun (a : Addr) (k : Nat) (c d : Array Value) (w : World) => run_store Try.prog w a (.func (.func k) c d) .plain rfl
  have HI := Aside0.mk hI
  have HB := Aside0.mk hB
  have hc := fun (o : Obj) => cellS51_0 (blk_alloc hI.1 o)
  clear hI hB
  have hst : (s = 0 ∨ s = 2) → brake_machine_stay.f s l = some ((bstep s l).1, (bstep s l).2) := by rintro (rfl | rfl) <;> simp [brake_machine_stay.f, bstep]
  have hgo := fun h => goOn_eq s l h hl hl5
  have HST := Aside0.mk hst
  have HGO := Aside0.mk hgo
  clear hst hgo
  obtain rfl | rfl | rfl | rfl : s = 0 ∨ s = 1 ∨ s = 2 ∨ s = 3 := by omega
  all_goals
    go_enter Try.func36, Try.ntmps36
    go_wp2_with (first | (go_at_call 42; refine (brake_machine_stay.calls g _ _ _ _ w0 _ (HI.out.alloc _) (below_alloc HB.out _) (HST.out (by decide))).mono ?_; rintro e w1 ⟨rfl, hI1, hB1, hK1⟩; have HI1 := Aside0.mk hI1; have HB1 := Aside0.mk hB1; have HK1 := Aside0.mk hK1; clear hI1 hB1 hK1) | (go_at_call 43; refine (brake_machine_goOn.calls g _ _ _ _ w0 _ (HI.out.alloc _) (below_alloc HB.out _) (HGO.out (by decide))).mono ?_; rintro e w1 ⟨rfl, hI1, hB1, hK1⟩; have HI1 := Aside0.mk hI1; have HB1 := Aside0.mk hB1; have HK1 := Aside0.mk hK1; clear hI1 hB1 hK1))
    go_end0
    exact ⟨rfl, HI1.out, HB1.out, KeepBut.trans (KeepBut.of_below (below_alloc (Below.refl _ _) _) _ _) HK1.out (.inl rfl)⟩

/-- What opened hands over, in the words of the walk. -/
theorem turned_bad (s l n a b c : Int) (w : World) (h : bchk s l n ≠ 0) :
    Calls Try.prog 38 #[.agg #[.int .i64 s, .int .i64 l], .int .i64 n, .int .i64 a, .int .i64 b, .int .i64 c] w fun e w' => e = .returned (.tuple #[.agg #[.int .i64 0, .int .i64 0], .int .i64 (bchk s l n)]) ∧ Below w.heap.size w w' := by
  have HO := Aside0.mk (fun W => opened_bad s l n W h)
  have hb1 : (bchk s l n == 0) = false := beq_eq_false_iff_ne.mpr h
  have hb2 : (bchk s l n != 0) = true := bne_iff_ne.mpr h
  clear h
  go_enter Try.func38, Try.ntmps38
  go_wp2_with (go_at_call 39; refine (HO.out _).mono ?_; rintro e w1 ⟨rfl, hb⟩; have HB := Aside0.mk hb; obtain ⟨hc, hf⟩ := bcell hb; have hz : w.heap.size + 1 < w1.heap.size := (by have := hb.size; simp at this; omega); clear hb)
  refine bodyPost_ret (v := .tuple #[.agg #[.int .i64 0, .int .i64 0], .int .i64 (bchk s l n)]) (by simp [results, Try.results38, go_sem, hc, hz]) rfl ⟨rfl, ?_⟩
  exact below_set (below_set (below_step (below_alloc (below_alloc (Below.refl _ _) _) _) HB.out) (by simp)) (by simp)

theorem turned_state (s l n a b c : Int) (w : World) (h : bchk s l n = 0) (hs : s ≠ a) :
    Calls Try.prog 38 #[.agg #[.int .i64 s, .int .i64 l], .int .i64 n, .int .i64 a, .int .i64 b, .int .i64 c] w fun e w' => e = .returned (.tuple #[.agg #[.int .i64 0, .int .i64 0], .int .i64 9]) ∧ Below w.heap.size w w' := by
  have HO := Aside0.mk (fun W => opened_good s l n W h)
  have hb1 : (s == a) = false := beq_eq_false_iff_ne.mpr hs
  have hb2 : (s != a) = true := bne_iff_ne.mpr hs
  clear h hs
  go_enter Try.func38, Try.ntmps38
  go_wp2_with (go_at_call 39; refine (HO.out _).mono ?_; rintro e w1 ⟨g, rfl, hI, hb⟩; have HI := Aside0.mk hI; have HB := Aside0.mk hb; obtain ⟨hc, hf⟩ := bcell hb; have hz : w.heap.size + 1 < w1.heap.size := (by have := hb.size; simp at this; omega); have hg0 := cellS51_0 hI.1; clear hb hI)
  refine bodyPost_ret (v := .tuple #[.agg #[.int .i64 0, .int .i64 0], .int .i64 9]) (by simp [results, Try.results38, go_sem, hc, hz]) rfl ⟨rfl, ?_⟩
  exact below_set (below_set (below_step (below_alloc (below_alloc (Below.refl _ _) _) _) HB.out) (by simp)) (by simp)

theorem isS_base {w0 W W1 : World} {g : Nat} {s l : Int} (h : IsS51 W W1 g s l) (hb : w0.heap.size ≤ W.heap.size) : IsS51 w0 W1 g s l := ⟨h.1, Nat.le_trans hb h.2⟩

theorem turned_good (s l n b c x y : Int) (w : World) (h : bchk s l n = 0) (ht : brake_machine_turn.f s l b c n = some (x, y)) :
    Calls Try.prog 38 #[.agg #[.int .i64 s, .int .i64 l], .int .i64 n, .int .i64 s, .int .i64 b, .int .i64 c] w fun e w' => e = .returned (.tuple #[.agg #[.int .i64 x, .int .i64 y], .int .i64 0]) ∧ Below w.heap.size w w' := by
  have HO := Aside0.mk (fun W => opened_good s l n W h)
  have HT := Aside0.mk ht
  clear h ht
  go_enter Try.func38, Try.ntmps38
  go_wp2_with (go_at_call 39; refine (HO.out _).mono ?_; rintro e w1 ⟨g, rfl, hI, hb⟩; have HI := Aside0.mk (isS_base (w0 := w) hI (by simp; omega)); have HB := Aside0.mk (below_step (below_alloc (below_alloc (Below.refl w.heap.size w) _) _) hb); have BK := Aside0.mk (blk_below (blk_new (w.alloc (.cells #[.int .i64 s, .int .i64 l] 30)) (.cells #[.int .i64 0, .int .i64 0] 30)) hb); have hg0 := cellS51_0 hI.1; have NE := Aside0.mk (show w.heap.size + 1 ≠ g by have := hI.2; simp at this; omega); clear hb hI)
  refine (brake_machine_turn.calls g s l b c n x y w w1 HI.out HB.out HT.out).mono ?_
  rintro e w2 ⟨rfl, hI2, hB2, hK2⟩
  have BK2 := Aside0.mk (hK2.blk BK.out (by simpa using NE.out) (by simp))
  have hc0 := cellS51_0 hI2.1
  have hc1 := cellS51_1 hI2.1
  have hd0 := blk_cell BK2.out 0
  have hd1 := blk_cell BK2.out 1
  have hf0 := blk_frozen BK2.out 0
  have hf1 := blk_frozen BK2.out 1
  have HB2 := Aside0.mk hB2
  clear hI2 hB2 hK2 hg0
  simp at hd0 hd1 hf0 hf1
  go_wp2
  refine bodyPost_ret (v := .tuple #[.agg #[.int .i64 x, .int .i64 y], .int .i64 0]) (by simp [results, Try.results38, go_sem, hd0, hd1]) rfl ⟨rfl, ?_⟩
  exact below_set (below_set HB2.out (by simp)) (by simp)

theorem brake_turned.calls (a0_0 : Int) (a0_1 : Int) (a1 : Int) (a2 : Int) (a3 : Int) (a4 : Int) (r1 : Int) (r2 : Int) (r3 : Int) (w : World) (h : brake_turned.f a0_0 a0_1 a1 a2 a3 a4 = some (r1, r2, r3)) :
    Calls Try.prog 38 #[.agg #[.int .i64 a0_0, .int .i64 a0_1], .int .i64 a1, .int .i64 a2, .int .i64 a3, .int .i64 a4] w fun e w' => e = .returned (.tuple #[.agg #[.int .i64 r1, .int .i64 r2], .int .i64 r3]) ∧ Below w.heap.size w w' := by
  unfold brake_turned.f at h
  by_cases hc : bchk a0_0 a0_1 a1 = 0
  · rw [if_neg (by simpa using hc)] at h
    by_cases hs : a0_0 = a2
    · subst hs
      rw [if_neg (by simp)] at h
      by_cases hn : a1 = 0
      · rw [if_pos hn] at h
        simp only [Option.some.injEq, Prod.mk.injEq] at h
        obtain ⟨rfl, rfl, rfl⟩ := h
        exact turned_good _ _ _ _ _ _ _ w hc (by simp [brake_machine_turn.f, hn])
      · rw [if_neg hn] at h
        simp only [Option.some.injEq, Prod.mk.injEq] at h
        obtain ⟨rfl, rfl, rfl⟩ := h
        exact turned_good _ _ _ _ _ _ _ w hc (by simp [brake_machine_turn.f, hn])
    · rw [if_pos hs] at h
      simp only [Option.some.injEq, Prod.mk.injEq] at h
      obtain ⟨rfl, rfl, rfl⟩ := h
      exact turned_state _ _ _ _ _ _ w hc hs
  · rw [if_pos hc] at h
    simp only [Option.some.injEq, Prod.mk.injEq] at h
    obtain ⟨rfl, rfl, rfl⟩ := h
    exact turned_bad _ _ _ _ _ _ w hc

theorem run_bad (s l n t : Int) (w : World) (h : bchk s l n ≠ 0) :
    Calls Try.prog 19 #[.agg #[.int .i64 s, .int .i64 l], .int .i64 n, .int .i64 t] w fun e w' => e = .returned (.tuple #[.agg #[.int .i64 0, .int .i64 0], .int .i64 (bchk s l n)]) ∧ Below w.heap.size w w' := by
  have HO := Aside0.mk (fun W => opened_bad s l n W h)
  have hb1 : (bchk s l n == 0) = false := beq_eq_false_iff_ne.mpr h
  have hb2 : (bchk s l n != 0) = true := bne_iff_ne.mpr h
  clear h
  go_enter Try.func19, Try.ntmps19
  go_wp2_with (go_at_call 39; refine (HO.out _).mono ?_; rintro e w1 ⟨rfl, hb⟩; have HB := Aside0.mk hb; obtain ⟨hc, hf⟩ := bcell hb; have hz : w.heap.size + 1 < w1.heap.size := (by have := hb.size; simp at this; omega); clear hb)
  refine bodyPost_ret (v := .tuple #[.agg #[.int .i64 0, .int .i64 0], .int .i64 (bchk s l n)]) (by simp [results, Try.results19, go_sem, hc, hz]) rfl ⟨rfl, ?_⟩
  exact below_set (below_set (below_step (below_alloc (below_alloc (Below.refl _ _) _) _) HB.out) (by simp)) (by simp)

theorem run_range (s l n t : Int) (w : World) (h : bchk s l n = 0) (ht : t < 0 ∨ t > 1000) :
    Calls Try.prog 19 #[.agg #[.int .i64 s, .int .i64 l], .int .i64 n, .int .i64 t] w fun e w' => e = .returned (.tuple #[.agg #[.int .i64 0, .int .i64 0], .int .i64 2]) ∧ Below w.heap.size w w' := by
  have HO := Aside0.mk (fun W => opened_good s l n W h)
  clear h
  by_cases ht1 : t < 0
  all_goals
    try have ht2 : t > 1000 := by omega
    clear ht
    go_enter Try.func19, Try.ntmps19
    go_wp2_with (go_at_call 39; refine (HO.out _).mono ?_; rintro e w1 ⟨g, rfl, hI, hb⟩; have HI := Aside0.mk hI; have HB := Aside0.mk hb; obtain ⟨hc, hf⟩ := bcell hb; have hz : w.heap.size + 1 < w1.heap.size := (by have := hb.size; simp at this; omega); have hg0 := cellS51_0 hI.1; clear hb hI)
    refine bodyPost_ret (v := .tuple #[.agg #[.int .i64 0, .int .i64 0], .int .i64 2]) (by simp [results, Try.results19, go_sem, hc, hz]) rfl ⟨rfl, ?_⟩
    exact below_set (below_set (below_step (below_alloc (below_alloc (Below.refl _ _) _) _) HB.out) (by simp)) (by simp)

/-- A brake that Check takes. -/
def bok (s l : Int) : Prop := 0 ≤ s ∧ s ≤ 3 ∧ 0 ≤ l ∧ l ≤ 5 ∧ (s = 1 ∨ s = 3 → 1 ≤ l) ∧ (s = 0 ∨ s = 2 → l = 0)
theorem bok_of (s l n : Int) (h : bchk s l n = 0) : bok s l := by
  unfold bchk at h
  unfold bok
  repeat' split at h
  all_goals first | (exfalso; omega) | (refine ⟨by omega, by omega, by omega, by omega, by omega, by omega⟩)
theorem bok_step (s l : Int) (h : bok s l) : bok (bstep s l).1 (bstep s l).2 := by
  obtain ⟨h1, h2, h3, h4, h5, h6⟩ := h
  unfold bstep
  repeat' split
  all_goals (refine ⟨?_, ?_, ?_, ?_, ?_, ?_⟩ <;> dsimp only <;> omega)
theorem bok_iter (k : Nat) (s l : Int) (h : bok s l) : bok (biter k s l).1 (biter k s l).2 := by
  induction k with
  | zero => exact h
  | succ k ih => exact bok_step _ _ ih

theorem run_good (s l n t : Int) (w : World) (h : bchk s l n = 0) (ht0 : 0 ≤ t) (ht1 : t ≤ 1000) :
    Calls Try.prog 19 #[.agg #[.int .i64 s, .int .i64 l], .int .i64 n, .int .i64 t] w fun e w' => e = .returned (.tuple #[.agg #[.int .i64 (biter t.toNat s l).1, .int .i64 (biter t.toNat s l).2], .int .i64 0]) ∧ Below w.heap.size w w' := by
  have HO := Aside0.mk (fun W => opened_good s l n W h)
  have HK := Aside0.mk (fun k => bok_iter k s l (bok_of s l n h))
  clear h
  obtain ⟨m, rfl⟩ := Int.eq_ofNat_of_zero_le ht0
  go_enter Try.func19, Try.ntmps19
  go_wp2_with (go_at_call 39; refine (HO.out _).mono ?_; rintro e w1 ⟨g, rfl, hI, hb⟩; have HI := Aside0.mk (isS_base (w0 := w) hI (by simp; omega)); have HB := Aside0.mk (below_step (below_alloc (below_alloc (Below.refl w.heap.size w) _) _) hb); have BK := Aside0.mk (blk_below (blk_new (w.alloc (.cells #[.int .i64 s, .int .i64 l] 30)) (.cells #[.int .i64 0, .int .i64 0] 30)) hb); have hg0 := cellS51_0 hI.1; have NE := Aside0.mk (show w.heap.size + 1 ≠ g by have := hI.2; simp at this; omega); clear hb hI)
  go_loopw [31] (fun v wr => ∃ k : Nat, k ≤ m ∧ v = .int .i64 k ∧ Aside0 (IsS51 w wr g (biter k s l).1 (biter k s l).2) ∧ Aside0 (Below w.heap.size w wr) ∧ Aside0 (wr.heap[w.heap.size + 1]? = some (.cells #[.int .i64 0, .int .i64 0] 30 (0, 0)))) (fun v _ => m - (intOf v).toNat)
  case atStart => exact ⟨0, Nat.zero_le _, rfl, HI, HB, ⟨by simpa using BK.out⟩⟩
  case round =>
    obtain ⟨k, hk, rfl, HI1, HB1, BK1⟩ := hrel
    clear hg0
    by_cases hlt : k < m
    · have hok := HK.out k
      go_wp2_with (go_at_call 36; refine (step_any g _ _ w wr HI1.out HB1.out hok.1 hok.2.1 hok.2.2.1 hok.2.2.2.1).mono ?_; clear hok; rintro e w2 ⟨rfl, hI2, hB2, hK2⟩; have HI2 := Aside0.mk hI2; have HB2 := Aside0.mk hB2; have BK2 := Aside0.mk (hK2.blk BK1.out (by simpa using NE.out) (by simp)); clear hI2 hB2 hK2)
      go_roundw
      case rel => exact ⟨k + 1, by omega, by go_num, ⟨by simpa [biter] using HI2.out⟩, HB2, BK2⟩
      case measure => simp [intOf]; omega
    · have hkm : k = m := by omega
      subst hkm
      have hc0 := cellS51_0 HI1.out.1
      have hc1 := cellS51_1 HI1.out.1
      have hd0 := blk_cell BK1.out 0
      have hd1 := blk_cell BK1.out 1
      have hf0 := blk_frozen BK1.out 0
      have hf1 := blk_frozen BK1.out 1
      simp at hd0 hd1 hf0 hf1
      go_wp2
      refine bodyPost_ret (v := .tuple #[.agg #[.int .i64 (biter k s l).1, .int .i64 (biter k s l).2], .int .i64 0]) (by simp [results, Try.results19, go_sem, hd0, hd1]) rfl ⟨rfl, ?_⟩
      exact below_set (below_set HB1.out (by simp)) (by simp)

theorem brake_Run.calls (a0_0 : Int) (a0_1 : Int) (a1 : Int) (a2 : Int) (r1 : Int) (r2 : Int) (r3 : Int) (w : World) (h : brake_Run.f a0_0 a0_1 a1 a2 = some (r1, r2, r3)) :
    Calls Try.prog 19 #[.agg #[.int .i64 a0_0, .int .i64 a0_1], .int .i64 a1, .int .i64 a2] w fun e w' => e = .returned (.tuple #[.agg #[.int .i64 r1, .int .i64 r2], .int .i64 r3]) ∧ Below w.heap.size w w' := by
  unfold brake_Run.f at h
  by_cases hc : bchk a0_0 a0_1 a1 = 0
  · rw [if_neg (by simpa using hc)] at h
    by_cases hs : a2 < 0 ∨ a2 > 1000
    · rw [if_pos hs] at h
      simp only [Option.some.injEq, Prod.mk.injEq] at h
      obtain ⟨rfl, rfl, rfl⟩ := h
      exact run_range _ _ _ _ w hc hs
    · rw [if_neg hs] at h
      simp only [Option.some.injEq, Prod.mk.injEq] at h
      obtain ⟨rfl, rfl, rfl⟩ := h
      exact run_good _ _ _ _ w hc (by omega) (by omega)
  · rw [if_pos hc] at h
    simp only [Option.some.injEq, Prod.mk.injEq] at h
    obtain ⟨rfl, rfl, rfl⟩ := h
    exact run_bad _ _ _ _ w hc

/-- The states behind the ticks 1 to k. -/
def bseq (k : Nat) (s l : Int) : List Int := (List.range k).map fun i => (biter (i + 1) s l).1
theorem bseq_succ (k : Nat) (s l : Int) : bseq (k + 1) s l = bseq k s l ++ [(bstep (biter k s l).1 (biter k s l).2).1] := by
  simp [bseq, List.range_succ, biter]
theorem bseq_len (k : Nat) (s l : Int) : (bseq k s l).length = k := by simp [bseq]

theorem states1 (B O g m : Nat) (s l : Int) (ov : Value) (xs : List Int) (w0 w : World) (hm : m ≤ 2000) (hx : xs.length ≤ 2000) (hok : bok s l)
    (hmB : w.heap[B]? = some (.cells #[.pointer (some ⟨g, 0, none⟩)] 49 (0, 0))) (hB0 : w0.heap.size ≤ B) (hO : w.heap[O]? = some (.cells #[ov] 23 (0, 0))) (hO0 : w0.heap.size ≤ O)
    (hI : IsS51 w0 w g s l) (hR : Kd.R (Kd.int .i64) 3 w w0.heap.size (fun _ => True) ov xs) (hbl : Below w0.heap.size w0 w) :
    Calls Try.prog 35 #[.int .i64 m, .pointer (some ⟨B, 0, none⟩), .pointer (some ⟨O, 0, none⟩)] w fun e w' => e = .returned (.tuple #[]) ∧ (∃ ov' : Value,
      w'.heap[B]? = some (.cells #[.pointer (some ⟨g, 0, none⟩)] 49 (0, 0)) ∧ w'.heap[O]? = some (.cells #[ov'] 23 (0, 0)) ∧
      IsS51 w0 w' g (biter m s l).1 (biter m s l).2 ∧ Kd.R (Kd.int .i64) 3 w' w0.heap.size (fun _ => True) ov' (xs ++ bseq m s l) ∧ Below w0.heap.size w0 w') := by
  have HK := Aside0.mk (fun k => bok_iter k s l hok)
  have H1 := Aside0.mk hmB
  have H2 := Aside0.mk hO
  have H3 := Aside0.mk hI
  have H4 := Aside0.mk hR
  have H5 := Aside0.mk hbl
  clear hok hmB hO hI hR hbl
  go_enter Try.func35, Try.ntmps35
  go_wp2
  go_loopw [5] (fun v wr => ∃ (k : Nat) (ov' : Value), k ≤ m ∧ v = .int .i64 k ∧ Aside0 (wr.heap[B]? = some (.cells #[.pointer (some ⟨g, 0, none⟩)] 49 (0, 0))) ∧ Aside0 (wr.heap[O]? = some (.cells #[ov'] 23 (0, 0))) ∧ Aside0 (IsS51 w0 wr g (biter k s l).1 (biter k s l).2) ∧ Aside0 (Kd.R (Kd.int .i64) 3 wr w0.heap.size (fun _ => True) ov' (xs ++ bseq k s l)) ∧ Aside0 (Below w0.heap.size w0 wr)) (fun v _ => m - (intOf v).toNat)
  case atStart => exact ⟨0, ov, Nat.zero_le _, rfl, H1, H2, H3, ⟨by simpa [bseq] using H4.out⟩, H5⟩
  case round =>
    obtain ⟨k, ov', hk, rfl, K1, K2, K3, K4, K5⟩ := hrel
    by_cases hlt : k < m
    · have hok := HK.out k
      have hc1 := blk_cell K1.out 0
      simp at hc1
      go_wp2_with (go_at_call 36; refine (step_any g _ _ w0 wr K3.out K5.out hok.1 hok.2.1 hok.2.2.1 hok.2.2.2.1).mono ?_; clear hok hc1; rintro e w2 ⟨rfl, hI2, hB2, hK2⟩; have L3 := Aside0.mk hI2; have L5 := Aside0.mk hB2; have L1 := Aside0.mk (hK2.blk K1.out (blk_ne K1.out K3.out.1 (by decide)) (by simp)); have L2 := Aside0.mk (hK2.blk K2.out (blk_ne K2.out K3.out.1 (by decide)) (by simp)); have L4 := Aside0.mk (Kd.R_keep (ok := fun k_ => k_ ≠ g) (Kd.R_mono (Kd.R_types K4.out K3.out.1 (by decide)) (fun _ h => h.2)) hK2 (fun _ h => h)); clear hI2 hB2 hK2)
      have hc1 := blk_cell L1.out 0
      have hc2 := blk_cell L2.out 0
      have hc3 := cellS51_0 L3.out.1
      have hf2 := blk_frozen L2.out 0
      simp at hc1 hc2
      have hne : w0.heap.size ≤ w2.heap.size := L5.out.size
      have hl : (xs ++ bseq k s l).length + 1 ≤ 5000 := by rw [List.length_append, bseq_len]; omega
      have hown := Aside0.mk (Kd.own_of_R L4.out)
      obtain ⟨i0, hi0, hz0, hz1, hz2⟩ := info_parts info3
      have nB := Aside0.mk (show ov'.ownBlock ≠ some B from fun e => by obtain ⟨cs, h⟩ := own_typed hown.out B e; rw [L1.out] at h; simp at h)
      have nO := Aside0.mk (show ov'.ownBlock ≠ some O from fun e => by obtain ⟨cs, h⟩ := own_typed hown.out O e; rw [L2.out] at h; simp at h)
      have ng := Aside0.mk (show ov'.ownBlock ≠ some g from fun e => by obtain ⟨cs, h⟩ := own_typed hown.out g e; rw [L3.out.1] at h; simp at h)
      have hfal : ∀ o : Obj, (w2.alloc o).drew.frozen? ⟨O, 0, none⟩ = false := fun o => blk_frozen (blk_alloc L2.out o) 0
      have bB := blk_lt L1.out
      have bO := blk_lt L2.out
      have bg := blk_lt L3.out.1
      go_region_law ((refine step_append_lies _ (by rfl) _ _ _ (by rfl) w0.heap.size 3 i0 _ 1 8 Try.underlying23 hi0 hz0 hz1 hz2 rfl (by omega) ov' (xs ++ bseq k s l).length _ (by rfl) ((hown.out.alloc _).drew) ⟨w2.heap.size, 0, none⟩ 1 1 [.int .i64 (bstep (biter k s l).1 (biter k s l).2).1] (by rfl) (by rfl) (World.news_of_block (cs := #[.int .i64 (bstep (biter k s l).1 (biter k s l).2).1]) (t := 3) (fr := (0, 0)) (heap_alloc_new w2 _)) (by simp [Value.oneCell']) (by omega) (by unfold maxLen; omega) (by omega) (by simp; omega) (w2.heap.size + 1) (by simp) ?_; intro gg cap w3 hown1 hgrow hat hlt; have hcO := hgrow.cell_far (⟨O, 0, none⟩ : Addr) (by simp; omega) (Ne.symm nO.out); have hfO := hgrow.frozen_far (⟨O, 0, none⟩ : Addr) (by simp; omega) (Ne.symm nO.out)))
      all_goals
        have hL : (xs ++ bseq (k + 1) s l).length = (xs ++ bseq k s l).length + 1 := by rw [bseq_succ]; simp; omega
        have hown2 := Aside0.mk (show w3.ownsRow w0.heap.size 3 1 (.slice (some ⟨gg, 0, none⟩) ((xs ++ bseq k s l).length + 1) cap) (xs ++ bseq (k + 1) s l).length (encs (Value.int .i64) (xs ++ bseq (k + 1) s l)) from by rw [hL, bseq_succ, ← List.append_assoc]; simpa [encs] using hown1)
        have kg := Aside0.mk hgrow
        have gB : gg ≠ B := fun e => by rcases hat with h | h; exact nB.out (by rw [h, e]); omega
        have gO : gg ≠ O := fun e => by rcases hat with h | h; exact nO.out (by rw [h, e]); omega
        have kat := Aside0.mk hat
        clear hown1 hgrow hat
        go_wp2
        go_roundw
        case rel => exact ⟨k + 1, .slice (some ⟨gg, 0, none⟩) ((xs ++ bseq k s l).length + 1) cap, by omega, by go_num, ⟨blk_far (blk_grown (blk_drew (blk_alloc L1.out _)) kg.out (Ne.symm nB.out)) (blk_ne L1.out L2.out (by decide)) _⟩,
          ⟨blk_put (blk_grown (blk_drew (blk_alloc L2.out _)) kg.out (Ne.symm nO.out)) 0 _ (by simp)⟩,
          ⟨by simpa [biter] using IsS51.far (IsS51.grown (IsS51.drew (IsS51.alloc L3.out _)) kg.out (Ne.symm ng.out)) (p := ⟨O, 0, none⟩) (fun e => blk_ne L2.out L3.out.1 (by decide) e.symm) _⟩,
          ⟨Kd.R_mono (Kd.R_far (p := ⟨O, 0, none⟩) (ok := fun k_ => k_ ≠ O) (Kd.R_of_own hown2.out (fun k_ h_ => by simp [Value.ownBlock] at h_; omega)) (fun _ h => h) _) (fun _ _ => trivial)⟩,
          ⟨below_set (Below.grown (below_drew1 (below_alloc L5.out _)) kg.out (by simp; omega) (fun k_ h_ => own_base hown.out k_ h_)) hO0⟩⟩
        case measure => simp [intOf]; omega
    · have hkm : k = m := by omega
      subst hkm
      go_wp2
      go_end0
      exact ⟨rfl, ov', K1.out, K2.out, K3.out, K4.out, K5.out⟩

def brake_States.f (a0 : Int) (a1 : Int) : Option (List Int × Int) :=
  if a0 < 0 ∨ a0 > 5 ∨ a1 < 0 ∨ a1 > 1000 then some ([], 2)
  else if a0 = 0 then some (bseq (a0 + a1).toNat 2 a0 ++ bseq a0.toNat 0 a0, 0) else some (bseq (a0 + a1).toNat 1 a0 ++ bseq a0.toNat 3 a0, 0)

theorem states_bad (n t : Int) (w : World) (h : n < 0 ∨ n > 5 ∨ t < 0 ∨ t > 1000) :
    Calls Try.prog 11 #[.int .i64 n, .int .i64 t] w fun e w' => e = .returned (.tuple #[.slice none 0 0, .int .i64 2]) ∧ w' = w := by
  by_cases h1 : n < 0
  · clear h
    go_enter Try.func11, Try.ntmps11
    go_wp2
    go_ret2
    exact ⟨rfl, rfl⟩
  · by_cases h2 : n > 5
    · clear h
      go_enter Try.func11, Try.ntmps11
      go_wp2
      go_ret2
      exact ⟨rfl, rfl⟩
    · by_cases h3 : t < 0
      · clear h
        go_enter Try.func11, Try.ntmps11
        go_wp2
        go_ret2
        exact ⟨rfl, rfl⟩
      · have h4 : t > 1000 := by omega
        clear h
        go_enter Try.func11, Try.ntmps11
        go_wp2
        go_ret2
        exact ⟨rfl, rfl⟩

theorem states_good (n t : Nat) (s1 s2 : Int) (w : World) (hn : n ≤ 5) (ht : t ≤ 1000) (h1 : brake_machine_turn.f 0 0 1 2 n = some (s1, (n : Int))) (h2 : ∀ s l, brake_machine_turn.f s l 3 0 n = some (s2, (n : Int))) (o1 : bok s1 n) (o2 : bok s2 n) :
    Calls Try.prog 11 #[.int .i64 n, .int .i64 t] w fun e w' => ∃ v0_ : Value, e = .returned (.tuple #[v0_, .int .i64 0]) ∧ Kd.R (Kd.int .i64) 3 w' w.heap.size (fun _ => True) v0_ (bseq (n + t) s1 n ++ bseq n s2 n) ∧ Below w.heap.size w w' := by
  have G1 := Aside0.mk h1
  have G2 := Aside0.mk h2
  have P1 := Aside0.mk o1
  have P2 := Aside0.mk o2
  have hmf : ∀ (fn : Fn) (first cap : Array Value) (w : World), (Instr.makeFunc fn first cap).run Try.prog w = .ok (.func fn first cap) w := fun _ _ _ _ => rfl
  clear h1 h2 o1 o2
  go_enter Try.func11, Try.ntmps11
  go_wp2_with (go_at_call 13; refine (brake_New.calls 0 0 _ rfl).mono ?_; rintro e w1 ⟨rfl, hb⟩; have HB := Aside0.mk hb; clear hb)
  have I0 := Aside0.mk (((IsS51.new w w1 0 0 HB.out).alloc (.cells #[.pointer (some ⟨w1.heap.size, 0, none⟩)] 49)).alloc (.cells #[.slice none 0 0] 23))
  have B0 := Aside0.mk (blk_alloc (by simpa using blk_new (w1.alloc (.cells #[.int .i64 0, .int .i64 0] 51)) (.cells #[.pointer (some ⟨w1.heap.size, 0, none⟩)] 49) : ((w1.alloc (.cells #[.int .i64 0, .int .i64 0] 51)).alloc (.cells #[.pointer (some ⟨w1.heap.size, 0, none⟩)] 49)).heap[w1.heap.size + 1]? = _) (.cells #[.slice none 0 0] 23))
  have O0 := Aside0.mk (by simpa using blk_new ((w1.alloc (.cells #[.int .i64 0, .int .i64 0] 51)).alloc (.cells #[.pointer (some ⟨w1.heap.size, 0, none⟩)] 49)) (.cells #[.slice none 0 0] 23) : (((w1.alloc (.cells #[.int .i64 0, .int .i64 0] 51)).alloc (.cells #[.pointer (some ⟨w1.heap.size, 0, none⟩)] 49)).alloc (.cells #[.slice none 0 0] 23)).heap[w1.heap.size + 1 + 1]? = some (.cells #[.slice none 0 0] 23 (0, 0)))
  have L0 := Aside0.mk (below_alloc (below_alloc (below_alloc HB.out (.cells #[.int .i64 0, .int .i64 0] 51)) (.cells #[.pointer (some ⟨w1.heap.size, 0, none⟩)] 49)) (.cells #[.slice none 0 0] 23))
  have S0 := Aside0.mk HB.out.size
  refine (brake_machine_turn.calls w1.heap.size 0 0 1 2 n s1 n w _ I0.out L0.out G1.out).mono ?_
  rintro e w2 ⟨rfl, hI, hB, hK⟩
  have I1 := Aside0.mk hI
  have L1 := Aside0.mk hB
  have B1 := Aside0.mk (hK.blk B0.out (by simp) (by simp))
  have O1 := Aside0.mk (hK.blk O0.out (by simp; omega) (by simp))
  clear hI hB hK
  go_wp2_with fail
  rw [show ((n : Int) + (t : Int)) = ((n + t : Nat) : Int) from by omega]
  refine (states1 _ _ w1.heap.size (n + t) s1 n _ [] w w2 (by omega) (by simp) P1.out B1.out (by have := S0.out; omega) O1.out (by have := S0.out; omega) I1.out (Kd.R_nil _ _ _ _ _) L1.out).mono ?_
  rintro e w3 ⟨rfl, ov, hB3, hO3, hI3, hR3, hL3⟩
  have B3 := Aside0.mk hB3
  have O3 := Aside0.mk hO3
  have I3 := Aside0.mk hI3
  have R3 := Aside0.mk hR3
  have L3 := Aside0.mk hL3
  have hc := blk_cell hB3 0
  simp at hc
  clear hB3 hO3 hI3 hR3 hL3 B0 O0 I0 L0 B1 O1 I1 L1
  go_wp2_with fail
  refine (brake_machine_turn.calls w1.heap.size _ _ 3 0 n s2 n w _ I3.out L3.out (G2.out _ _)).mono ?_
  rintro e w4 ⟨rfl, hI, hB, hK⟩
  have I4 := Aside0.mk hI
  have L4 := Aside0.mk hB
  have B4 := Aside0.mk (hK.blk B3.out (by simp) (by simp))
  have O4 := Aside0.mk (hK.blk O3.out (by simp; omega) (by simp))
  have R4 := Aside0.mk (Kd.R_keep (ok := fun k_ => k_ ≠ w1.heap.size) (Kd.R_mono (Kd.R_types R3.out I3.out.1 (by decide)) (fun _ h => h.2)) hK (fun _ h => h))
  clear hI hB hK hc
  go_wp2_with fail
  refine (states1 _ _ w1.heap.size n s2 n _ _ w w4 (by omega) (by simp [bseq_len]; omega) P2.out B4.out (by have := S0.out; omega) O4.out (by have := S0.out; omega) I4.out (Kd.R_mono R4.out (fun _ _ => trivial)) L4.out).mono ?_
  rintro e w5 ⟨rfl, ov2, hB5, hO5, hI5, hR5, hL5⟩
  have R5 := Aside0.mk hR5
  have L5 := Aside0.mk hL5
  have hc := blk_cell hO5 0
  simp at hc
  clear hB5 hO5 hI5 hR5 hL5
  go_wp2
  go_ret2
  exact ⟨ov2, rfl, by simpa using R5.out, L5.out⟩

theorem brake_States.calls (a0 : Int) (a1 : Int) (r1 : List Int) (r2 : Int) (w : World) (h : brake_States.f a0 a1 = some (r1, r2)) :
    Calls Try.prog 11 #[.int .i64 a0, .int .i64 a1] w fun e w' => ∃ v0_ : Value, e = .returned (.tuple #[v0_, .int .i64 r2]) ∧ Kd.R (Kd.int .i64) 3 w' w.heap.size (fun _ => True) v0_ r1 ∧ Below w.heap.size w w' := by
  unfold brake_States.f at h
  by_cases hb : a0 < 0 ∨ a0 > 5 ∨ a1 < 0 ∨ a1 > 1000
  · rw [if_pos hb] at h
    simp only [Option.some.injEq, Prod.mk.injEq] at h
    obtain ⟨rfl, rfl⟩ := h
    refine (states_bad a0 a1 w hb).mono ?_
    rintro e w' ⟨rfl, rfl⟩
    exact ⟨_, rfl, Kd.R_nil _ _ _ _ _, Below.refl _ _⟩
  · rw [if_neg hb] at h
    obtain ⟨n, rfl⟩ := Int.eq_ofNat_of_zero_le (show 0 ≤ a0 by omega)
    obtain ⟨t, rfl⟩ := Int.eq_ofNat_of_zero_le (show 0 ≤ a1 by omega)
    have e1 : ((n : Int) + (t : Int)).toNat = n + t := by omega
    have e2 : ((n : Int)).toNat = n := by omega
    rw [e1, e2] at h
    by_cases hn : (n : Int) = 0
    · rw [if_pos hn] at h
      simp only [Option.some.injEq, Prod.mk.injEq] at h
      obtain ⟨rfl, rfl⟩ := h
      exact states_good n t 2 0 w (by omega) (by omega) (by simp [brake_machine_turn.f, hn]) (by simp [brake_machine_turn.f, hn]) (by unfold bok; omega) (by unfold bok; omega)
    · rw [if_neg hn] at h
      simp only [Option.some.injEq, Prod.mk.injEq] at h
      obtain ⟨rfl, rfl⟩ := h
      exact states_good n t 1 3 w (by omega) (by omega) (by unfold brake_machine_turn.f; rw [if_neg hn]) (by intro s l; unfold brake_machine_turn.f; rw [if_neg hn]) (by unfold bok; omega) (by unfold bok; omega)

end Go.Proofs.Ytfibbdbpclkbgaa.P
