/- Package door: a door after several ticks, by a range over an iterator that keeps the door: what it answers, and that the Go code comes to just this. -/
import Derived.Test.YtofffhnhinolnaaRs
import Derived.Test.YtofffhnhinolnaaRf
import Derived.Shelf.Abstract
import Derived.Shelf.RegionOpen
import Derived.OwnWalkIn
import Derived.TacticsInMore
import Derived.LoopNIn
import Derived.LoopIn
namespace Go.Proofs.Ytofffhnhinolnaa.P
open Go.RowKit Go.Proofs.YtofffhnhinolnaaW.PrintWords Go.Proofs.YtofffhnhinolnaaW.PrintLast Go.Proofs.YtofffhnhinolnaaW.PrintMore
set_option linter.unusedVariables false
set_option linter.unusedSimpArgs false

attribute [local go_sem] Oper.semAt_some
theorem blk_newN (w : World) (o : Obj) {n : Nat} (h : n = w.heap.size) : (w.alloc o).heap[n]? = some o := by subst h; exact blk_new w o
set_option maxHeartbeats 4000000 in
theorem run_good (p x l t wd dw rt : Int) (A2 : Option Addr) (c2 : Nat) (l2 : List Bool) (w : World) (hr2 : Kd.C Kd.bool w A2 l2.length l2) (hc2 : l2.length ≤ c2) (hV : dV p x l t wd dw rt) (hl : l2.length ≤ 1000) :
    Calls Try.prog 24 #[.agg #[.int .i64 p, .int .i64 x, .int .i64 l, .int .i64 t], .agg #[.int .i64 wd, .int .i64 dw, .int .i64 rt], .slice A2 l2.length c2] w
      fun e w' => ∃ v, e = .returned (.tuple #[.agg #[.int .i64 (dqs (p, x, l, t) wd dw rt l2 l2.length).1, .int .i64 (dqs (p, x, l, t) wd dw rt l2 l2.length).2.1, .int .i64 (dqs (p, x, l, t) wd dw rt l2 l2.length).2.2.1, .int .i64 (dqs (p, x, l, t) wd dw rt l2 l2.length).2.2.2], v, .int .i64 0]) ∧ Kd.R (Kd.int .i64) 3 w' w.heap.size (fun _ => True) v (dls (p, x, l, t) wd dw rt l2 l2.length) ∧ Below w.heap.size w w' := by
  have HC : Aside0 (door_Check.f 2 p x l t wd dw rt = some 0) := ⟨(door_Check_eq 0 p x l t wd dw rt).trans (congrArg some (dchk_zero.2 hV))⟩
  have hb1 : decide ((1000 : Int) < (l2.length : Int)) = false := decide_eq_false (by omega)
  have hb2 : decide ((l2.length : Int) > 1000) = false := decide_eq_false (by omega)
  refine (callsIn_wide (n := 3)).1 ?_
  refine callsIn_of_wp_marks Try.func24 rfl trivial ?_ rfl
  simp only [Try.ntmps24, List.size_toArray, List.length_cons, List.length_nil, Nat.reduceAdd, Nat.reduceSub, Array.replicate_succ, Array.replicate_zero, List.push_toArray, List.append_toArray, List.nil_append, List.cons_append]
  gi_wp2_with (first
    | (refine ⟨trivial, ?_⟩; gi_at_call 13; refine (callsIn_wide.2 (door_Check.calls 2 p x l t wd dw rt _ _ HC.out)).mono ?_; rintro e w1 ⟨rfl, hb⟩; have HB := Aside0.mk hb; have HD := Aside0.mk (blk_below (blk_alloc (blk_alloc (blk_new w (.cells #[.int .i64 p, .int .i64 x, .int .i64 l, .int .i64 t] 23)) (.cells #[.int .i64 wd, .int .i64 dw, .int .i64 rt] 25)) (.cells #[.int .i64 0, .int .i64 0, .int .i64 0, .int .i64 0] 23)) hb); have HR : Aside0 (w1.heap[w.heap.size + 1]? = some (.cells #[.int .i64 wd, .int .i64 dw, .int .i64 rt] 25)) := ⟨blk_below (blk_alloc (by have := blk_new (w.alloc (.cells #[.int .i64 p, .int .i64 x, .int .i64 l, .int .i64 t] 23)) (.cells #[.int .i64 wd, .int .i64 dw, .int .i64 rt] 25); rwa [World.size_alloc] at this) (.cells #[.int .i64 0, .int .i64 0, .int .i64 0, .int .i64 0] 23)) hb⟩; have HZ : Aside0 (w1.heap[w.heap.size + 1 + 1]? = some (.cells #[.int .i64 0, .int .i64 0, .int .i64 0, .int .i64 0] 23)) := ⟨blk_below (by have := blk_new ((w.alloc (.cells #[.int .i64 p, .int .i64 x, .int .i64 l, .int .i64 t] 23)).alloc (.cells #[.int .i64 wd, .int .i64 dw, .int .i64 rt] 25)) (.cells #[.int .i64 0, .int .i64 0, .int .i64 0, .int .i64 0] 23); rwa [World.size_alloc, World.size_alloc] at this) hb⟩; have dd := fun o o2 i => blk_cell (blk_alloc (blk_alloc HD.out o) o2) i; have d0 := fun o o2 => (dd o o2 0).trans rfl; have d1 := fun o o2 => (dd o o2 1).trans rfl; have d2 := fun o o2 => (dd o o2 2).trans rfl; have d3 := fun o o2 => (dd o o2 3).trans rfl; have rr := fun o o2 i => blk_cell (blk_alloc (blk_alloc HR.out o) o2) i; have r0 := fun o o2 => (rr o o2 0).trans rfl; have r1 := fun o o2 => (rr o o2 1).trans rfl; have r2 := fun o o2 => (rr o o2 2).trans rfl; clear hb dd rr)
    | (refine ⟨trivial, ?_⟩; gi_at_call 39; refine (callsIn_wide.2 (ticks_calls _ _ _ _ _ _ _ _ _ _ _)).mono ?_; rintro e w2 ⟨rfl, hw2⟩))
  have hn := HB.out.size
  simp only [World.size_alloc] at hn
  have hbN : w.heap.size + 3 ≤ w1.heap.size := by omega
  have hB1 : Below w.heap.size w w1 := below_step (below_alloc (below_alloc (below_alloc (Below.refl _ _) _) _) _) HB.out
  have hsz : w2.heap.size = w1.heap.size + 5 := by rw [hw2]; simp
  have hSt : ∀ o o2, RunSt w w1.heap.size (p, x, l, t) wd dw rt A2 c2 l2 0 0 ((w2.alloc o).alloc o2) := fun o o2 => by
    subst hw2
    exact {
      below := below_alloc (below_alloc (below_alloc (below_alloc (below_alloc (below_alloc (below_alloc hB1 _) _) _) _) _) _) _
      size := by simp
      cg := blk_alloc (blk_alloc (blk_alloc (blk_alloc (blk_alloc (blk_alloc (blk_alloc HD.out _) _) _) _) _) _) _
      cz := blk_alloc (blk_alloc (blk_alloc (blk_alloc (blk_alloc (blk_alloc (blk_alloc HZ.out _) _) _) _) _) _) _
      co := ⟨_, blk_alloc (blk_alloc (blk_alloc (blk_alloc (blk_alloc (blk_alloc (blk_new w1 _) _) _) _) _) _) _, World.ownsRow_nil _ _ _ _⟩
      ci := blk_alloc (blk_alloc (blk_alloc (blk_alloc (blk_alloc (blk_newN _ _ (by simp)) _) _) _) _) _
      td := blk_alloc (blk_alloc (blk_alloc (blk_alloc (blk_newN _ _ (by simp)) _) _) _) _
      tr := blk_alloc (blk_alloc (blk_alloc (blk_newN _ _ (by simp)) _) _) _
      ts := blk_alloc (blk_alloc (blk_newN _ _ (by simp)) _) _ }
  rw [← hw2]
  clear hw2 d0 d1 d2 d3 r0 r1 r2 HC hb1 hb2 HB HD HR HZ hn hB1
  refine rf_law (gf := 41) (lb := #[.pointer (some ⟨w1.heap.size + 1 + 1 + 2, 0, none⟩), .pointer (some ⟨w1.heap.size + 1 + 1, 0, none⟩), .pointer (some ⟨w1.heap.size + 1 + 1 + 1, 0, none⟩)])
    (encs := fun y : Nat × Nat => #[.agg #[.int .i64 (dqs (p, x, l, t) wd dw rt l2 (y.1 + 1)).1, .int .i64 (dqs (p, x, l, t) wd dw rt l2 (y.1 + 1)).2.1, .int .i64 (dqs (p, x, l, t) wd dw rt l2 (y.1 + 1)).2.2.1, .int .i64 (dqs (p, x, l, t) wd dw rt l2 (y.1 + 1)).2.2.2], .bool (dopen (dqs (p, x, l, t) wd dw rt l2 y.1) wd)]) rfl (by decide) rfl trivial (enters_of Try.func41 (by kernel_rfl) rfl) (fun _ => rfl)
    (fun y W => RunSt w w1.heap.size (p, x, l, t) wd dw rt A2 c2 l2 y.1 y.1 W ∧ W.heap[y.2]? = some (.cells #[.int .i64 (dqs (p, x, l, t) wd dw rt l2 (y.1 + 1)).1, .int .i64 (dqs (p, x, l, t) wd dw rt l2 (y.1 + 1)).2.1, .int .i64 (dqs (p, x, l, t) wd dw rt l2 (y.1 + 1)).2.2.1, .int .i64 (dqs (p, x, l, t) wd dw rt l2 (y.1 + 1)).2.2.2] 23) ∧ w1.heap.size + 7 ≤ y.2 ∧ y.1 < l2.length)
    (fun y W1 a' W2 => a' = { tmps := #[Value.agg #[.int .i64 p, .int .i64 x, .int .i64 l, .int .i64 t], Value.agg #[.int .i64 wd, .int .i64 dw, .int .i64 rt], .slice A2 l2.length c2, .pointer (some ⟨w.heap.size, 0, none⟩), .pointer (some ⟨w.heap.size + 1, 0, none⟩), undef, .pointer (some ⟨w.heap.size + 1 + 1, 0, none⟩), .slice none 0 0, .int .i64 0, .int .i64 0, .pointer (some ⟨w1.heap.size, 0, none⟩), .pointer (some ⟨w1.heap.size + 1, 0, none⟩), .pointer (some ⟨W1.heap.size, 0, none⟩), .bool (dopen (dqs (p, x, l, t) wd dw rt l2 y.1) wd), Value.agg #[.int .i64 p, .int .i64 x, .int .i64 l, .int .i64 t], Value.agg #[.int .i64 wd, .int .i64 dw, .int .i64 rt], .int .i64 0, .int .i64 0, .bool false, undef, undef, .slice A2 l2.length c2, .int .i64 l2.length, .bool false, undef, Value.agg #[.int .i64 p, .int .i64 x, .int .i64 l, .int .i64 t], Value.agg #[.int .i64 wd, .int .i64 dw, .int .i64 rt], .slice A2 l2.length c2, .func (.func 41) #[] #[.pointer (some ⟨w1.heap.size + 1 + 1 + 2, 0, none⟩), .pointer (some ⟨w1.heap.size + 1 + 1, 0, none⟩), .pointer (some ⟨w1.heap.size + 1 + 1 + 1, 0, none⟩)], .agg #[.int .i64 (dqs (p, x, l, t) wd dw rt l2 (y.1 + 1)).1, .int .i64 (dqs (p, x, l, t) wd dw rt l2 (y.1 + 1)).2.1, .int .i64 (dqs (p, x, l, t) wd dw rt l2 (y.1 + 1)).2.2.1, .int .i64 (dqs (p, x, l, t) wd dw rt l2 (y.1 + 1)).2.2.2], .bool (dopen (dqs (p, x, l, t) wd dw rt l2 y.1) wd), undef, undef, undef, undef, undef, undef, undef, undef, undef, undef], defers := [] } ∧ W2 = W1.alloc (.cells #[.int .i64 (dqs (p, x, l, t) wd dw rt l2 (y.1 + 1)).1, .int .i64 (dqs (p, x, l, t) wd dw rt l2 (y.1 + 1)).2.1, .int .i64 (dqs (p, x, l, t) wd dw rt l2 (y.1 + 1)).2.2.1, .int .i64 (dqs (p, x, l, t) wd dw rt l2 (y.1 + 1)).2.2.2] 23) ∧ RunSt w w1.heap.size (p, x, l, t) wd dw rt A2 c2 l2 y.1 y.1 W1 ∧ W1.heap[y.2]? = some (.cells #[.int .i64 (dqs (p, x, l, t) wd dw rt l2 (y.1 + 1)).1, .int .i64 (dqs (p, x, l, t) wd dw rt l2 (y.1 + 1)).2.1, .int .i64 (dqs (p, x, l, t) wd dw rt l2 (y.1 + 1)).2.2.1, .int .i64 (dqs (p, x, l, t) wd dw rt l2 (y.1 + 1)).2.2.2] 23) ∧ w1.heap.size + 7 ≤ y.2 ∧ y.1 < l2.length)
    (RunPost w w1.heap.size (p, x, l, t) wd dw rt A2 c2 l2)
    (fun _ _ _ _ => False) (fun W => RunSt w w1.heap.size (p, x, l, t) wd dw rt A2 c2 l2 l2.length l2.length W) (fun _ _ => False) ?assign ?body ?iter ?done ?stop
  case assign =>
    rintro ⟨k, nb⟩ W1 K ⟨h1, h2, h3, h4⟩ hK
    gi_wp2
    exact hK _ _ (Below.heap_alloc _ _ _ (by rw [hsz]; have := h1.size; omega)) (Below.heap_alloc _ _ _ (by rw [hsz]; have := h1.size; omega)) ⟨rfl, rfl, h1, h2, h3, h4⟩
  case body =>
    rintro ⟨k, nb⟩ W1 a' W2 Rb ⟨rfl, rfl, h1, h2, h3, h4⟩
    have hlr : w2.heap.size + 1 = w1.heap.size + 6 := by rw [hsz]
    rw [hlr]
    have hX1 := (h1.step (below_alloc (Below.refl _ _) (.cells #[.int .i64 (dqs (p, x, l, t) wd dw rt l2 (k + 1)).1, .int .i64 (dqs (p, x, l, t) wd dw rt l2 (k + 1)).2.1, .int .i64 (dqs (p, x, l, t) wd dw rt l2 (k + 1)).2.2.1, .int .i64 (dqs (p, x, l, t) wd dw rt l2 (k + 1)).2.2.2] 23)) hbN).putl Rb hbN
    have hX2 : ((W1.alloc (.cells #[.int .i64 (dqs (p, x, l, t) wd dw rt l2 (k + 1)).1, .int .i64 (dqs (p, x, l, t) wd dw rt l2 (k + 1)).2.1, .int .i64 (dqs (p, x, l, t) wd dw rt l2 (k + 1)).2.2.1, .int .i64 (dqs (p, x, l, t) wd dw rt l2 (k + 1)).2.2.2] 23)).putObj (w1.heap.size + 6) Rb).heap[nb]? = some (.cells #[.int .i64 (dqs (p, x, l, t) wd dw rt l2 (k + 1)).1, .int .i64 (dqs (p, x, l, t) wd dw rt l2 (k + 1)).2.1, .int .i64 (dqs (p, x, l, t) wd dw rt l2 (k + 1)).2.2.1, .int .i64 (dqs (p, x, l, t) wd dw rt l2 (k + 1)).2.2.2] 23) := (World.putObj_heap_other (by omega)).trans (blk_alloc h2 _)
    have hX3 : ((W1.alloc (.cells #[.int .i64 (dqs (p, x, l, t) wd dw rt l2 (k + 1)).1, .int .i64 (dqs (p, x, l, t) wd dw rt l2 (k + 1)).2.1, .int .i64 (dqs (p, x, l, t) wd dw rt l2 (k + 1)).2.2.1, .int .i64 (dqs (p, x, l, t) wd dw rt l2 (k + 1)).2.2.2] 23)).putObj (w1.heap.size + 6) Rb).heap[W1.heap.size]? = some (.cells #[.int .i64 (dqs (p, x, l, t) wd dw rt l2 (k + 1)).1, .int .i64 (dqs (p, x, l, t) wd dw rt l2 (k + 1)).2.1, .int .i64 (dqs (p, x, l, t) wd dw rt l2 (k + 1)).2.2.1, .int .i64 (dqs (p, x, l, t) wd dw rt l2 (k + 1)).2.2.2] 23) := (World.putObj_heap_other (by have := h1.size; omega)).trans (blk_new _ _)
    have hne : w1.heap.size + 7 ≤ W1.heap.size := h1.size
    generalize (W1.alloc (.cells #[.int .i64 (dqs (p, x, l, t) wd dw rt l2 (k + 1)).1, .int .i64 (dqs (p, x, l, t) wd dw rt l2 (k + 1)).2.1, .int .i64 (dqs (p, x, l, t) wd dw rt l2 (k + 1)).2.2.1, .int .i64 (dqs (p, x, l, t) wd dw rt l2 (k + 1)).2.2.2] 23)).putObj (w1.heap.size + 6) Rb = X at hX1 hX2 hX3 ⊢
    obtain ⟨a0, a1, a2, a3, ha⟩ : ∃ a0 a1 a2 a3, dqs (p, x, l, t) wd dw rt l2 k = (a0, a1, a2, a3) := ⟨_, _, _, _, rfl⟩
    obtain ⟨b0, b1, b2, b3, hb⟩ : ∃ b0 b1 b2 b3, dqs (p, x, l, t) wd dw rt l2 (k + 1) = (b0, b1, b2, b3) := ⟨_, _, _, _, rfl⟩
    dsimp only at h1 h2 h3 h4 hX1 hX2 hX3 ⊢
    have hd : dls (p, x, l, t) wd dw rt l2 (k + 1) = dls (p, x, l, t) wd dw rt l2 k ++ (if dopen (dqs (p, x, l, t) wd dw rt l2 k) wd = true then [(k : Int)] else []) := rfl
    have hlen := dls_len (p, x, l, t) wd dw rt l2 k
    obtain ⟨v, hv, hrow⟩ := hX1.co
    have hg := hX1.cg
    have hci := hX1.ci
    simp only [ha] at hg
    simp only [hb] at hX2 hX3
    have s0 : X.cell? ⟨w.heap.size, 0, none⟩ = some (.int .i64 a0) := (blk_cell hg 0).trans rfl
    have s1 : X.cell? ⟨w.heap.size, 1, none⟩ = some (.int .i64 a1) := (blk_cell hg 1).trans rfl
    have s2 : X.cell? ⟨w.heap.size, 2, none⟩ = some (.int .i64 a2) := (blk_cell hg 2).trans rfl
    have s3 : X.cell? ⟨w.heap.size, 3, none⟩ = some (.int .i64 a3) := (blk_cell hg 3).trans rfl
    have n0 : X.cell? ⟨W1.heap.size, 0, none⟩ = some (.int .i64 b0) := (blk_cell hX3 0).trans rfl
    have n1 : X.cell? ⟨W1.heap.size, 1, none⟩ = some (.int .i64 b1) := (blk_cell hX3 1).trans rfl
    have n2 : X.cell? ⟨W1.heap.size, 2, none⟩ = some (.int .i64 b2) := (blk_cell hX3 2).trans rfl
    have n3 : X.cell? ⟨W1.heap.size, 3, none⟩ = some (.int .i64 b3) := (blk_cell hX3 3).trans rfl
    have f0 : X.frozen? ⟨w.heap.size, 0, none⟩ = false := blk_frozen hg 0
    have f1 : X.frozen? ⟨w.heap.size, 1, none⟩ = false := blk_frozen hg 1
    have f2 : X.frozen? ⟨w.heap.size, 2, none⟩ = false := blk_frozen hg 2
    have f3 : X.frozen? ⟨w.heap.size, 3, none⟩ = false := blk_frozen hg 3
    have c0 : X.cell? ⟨w1.heap.size, 0, none⟩ = some v := (blk_cell hv 0).trans rfl
    have cf : X.frozen? ⟨w1.heap.size, 0, none⟩ = false := blk_frozen hv 0
    have i0 : X.cell? ⟨w1.heap.size + 1, 0, none⟩ = some (.int .i64 k) := (blk_cell hci 0).trans rfl
    have if0 : X.frozen? ⟨w1.heap.size + 1, 0, none⟩ = false := blk_frozen hci 0
    have hbl := h1.below.size
    have q1 : w1.heap.size ≠ w.heap.size := by omega
    have q2 : w1.heap.size + 1 ≠ w.heap.size := by omega
    have q3 : W1.heap.size ≠ w.heap.size := by omega
    have q4 : W1.heap.size ≠ w1.heap.size := by omega
    have q5 : W1.heap.size ≠ w1.heap.size + 1 := by omega
    have HX := Aside0.mk hX1
    have HR := Aside0.mk hrow
    have HB := Aside0.mk hb
    by_cases ho : dopen (dqs (p, x, l, t) wd dw rt l2 k) wd = true
    · rw [ho] at hd ⊢
      simp only [hb]
      have HD := Aside0.mk hd
      have HL := Aside0.mk hlen
      clear hSt hr2 hd ha h2 h1 hlen hX1 hrow hb
      have hge := own_ge HR.out
      have hneN : v.ownBlock ≠ some W1.heap.size := own_ne HR.out hX3 (by decide)
      have hneB : v.ownBlock ≠ some nb := own_ne HR.out hX2 (by decide)
      obtain ⟨ii, hii, hz0, hz1, hz2⟩ := info_parts info3
      repeat (first
        | (gi_at_builtin
           refine wpListIn_append_own _ rfl _ _ 41 rfl (w1.heap.size + 7) 3 ii (.int .i64 0) 1 8 Try.underlying41 hii hz0 hz1 hz2 rfl (by decide) _ _ _ rfl (HR.out.alloc _) ⟨X.heap.size, 0, none⟩ 1 1 [.int .i64 k] rfl rfl (cell_one_new _ _ _) (by simp [Value.oneCell']) (by have := HL.out; simp [maxLen]; omega) (by have := HL.out; omega) (by have := HX.out.size; simp; omega) ?_
           intro v' w' hown' hgrow _
           obtain ⟨g', cap', rfl⟩ := ownsRow_succ hown'
           have hgr : (X.alloc (.cells #[.int .i64 k] 3)).grownBy w' v.ownBlock := hgrow
           have hown2 := Aside0.mk hown'
           have z1 := blk_grown (blk_alloc hg (.cells #[.int .i64 k] 3)) hgr (fun e => by have := hge _ e.symm; omega)
           have z2 := blk_grown (blk_alloc hv (.cells #[.int .i64 k] 3)) hgr (fun e => by have := hge _ e.symm; omega)
           have z3 := blk_grown (blk_alloc hci (.cells #[.int .i64 k] 3)) hgr (fun e => by have := hge _ e.symm; omega)
           have z4 := blk_grown (blk_alloc hX3 (.cells #[.int .i64 k] 3)) hgr (fun e => hneN e.symm)
           have hgr2 := Aside0.mk hgr
           have t0 : w'.cell? ⟨w.heap.size, 0, none⟩ = some (.int .i64 a0) := (blk_cell z1 0).trans rfl
           have t1 : w'.cell? ⟨w.heap.size, 1, none⟩ = some (.int .i64 a1) := (blk_cell z1 1).trans rfl
           have t2 : w'.cell? ⟨w.heap.size, 2, none⟩ = some (.int .i64 a2) := (blk_cell z1 2).trans rfl
           have t3 : w'.cell? ⟨w.heap.size, 3, none⟩ = some (.int .i64 a3) := (blk_cell z1 3).trans rfl
           have u0 : w'.cell? ⟨W1.heap.size, 0, none⟩ = some (.int .i64 b0) := (blk_cell z4 0).trans rfl
           have u1 : w'.cell? ⟨W1.heap.size, 1, none⟩ = some (.int .i64 b1) := (blk_cell z4 1).trans rfl
           have u2 : w'.cell? ⟨W1.heap.size, 2, none⟩ = some (.int .i64 b2) := (blk_cell z4 2).trans rfl
           have u3 : w'.cell? ⟨W1.heap.size, 3, none⟩ = some (.int .i64 b3) := (blk_cell z4 3).trans rfl
           have g0 : w'.frozen? ⟨w.heap.size, 0, none⟩ = false := blk_frozen z1 0
           have g1 : w'.frozen? ⟨w.heap.size, 1, none⟩ = false := blk_frozen z1 1
           have g2 : w'.frozen? ⟨w.heap.size, 2, none⟩ = false := blk_frozen z1 2
           have g3 : w'.frozen? ⟨w.heap.size, 3, none⟩ = false := blk_frozen z1 3
           have v0 : w'.cell? ⟨w1.heap.size, 0, none⟩ = some v := (blk_cell z2 0).trans rfl
           have vf : w'.frozen? ⟨w1.heap.size, 0, none⟩ = false := blk_frozen z2 0
           have j0 : w'.cell? ⟨w1.heap.size + 1, 0, none⟩ = some (.int .i64 k) := (blk_cell z3 0).trans rfl
           have jf : w'.frozen? ⟨w1.heap.size + 1, 0, none⟩ = false := blk_frozen z3 0
           clear hgr hgrow hown')
        | gi_step)
      have hXs := HX.out.size
      have hXb := HX.out.below
      have bw : Below w.heap.size w w' := (below_alloc hXb (.cells #[.int .i64 k] 3)).grown hgr2.out (by simp; omega) (fun r e => by have := hge _ e; omega)
      have kw : Kept X w' (fun j => w1.heap.size + 7 ≤ j ∧ j ≠ nb) := Kept.of_grown hgr2.out ((Kept.refl X _).alloc _) (fun r e => .inl ⟨hge _ e, fun e2 => hneB (e.trans (congrArg some e2))⟩)
      have zb := blk_grown (blk_alloc hX2 (.cells #[.int .i64 k] 3)) hgr2.out (fun e => hneB e.symm)
      generalize hsv : Value.slice (some ⟨g', 0, none⟩) ((dls (p, x, l, t) wd dw rt l2 k).length + 1) cap' = sv at hown2 ⊢
      have kV : Kept w' (w'.setCell ⟨w1.heap.size, 0, none⟩ sv) (fun j => j = w1.heap.size) := kept_cell _ _ _ _
      have bV : Below w.heap.size w (w'.setCell ⟨w1.heap.size, 0, none⟩ sv) := below_set bw (by omega)
      have v1 := blk_kept z1 kV q1.symm
      have v2 : (w'.setCell ⟨w1.heap.size, 0, none⟩ sv).heap[w1.heap.size]? = some (.cells #[sv] 41) := (blk_set z2 0 sv).trans rfl
      have v3 := blk_kept z3 kV (by omega)
      have vb := blk_kept zb kV (by omega)
      generalize w'.setCell ⟨w1.heap.size, 0, none⟩ sv = V at kV bV v1 v2 v3 vb ⊢
      have kY := kept_store V w.heap.size (.int .i64 b0) (.int .i64 b1) (.int .i64 b2) (.int .i64 b3)
      have bY := below_store bV (Nat.le_refl _) (.int .i64 b0) (.int .i64 b1) (.int .i64 b2) (.int .i64 b3)
      have y1 := blk_store v1 (.int .i64 b0) (.int .i64 b1) (.int .i64 b2) (.int .i64 b3)
      have y2 := blk_kept v2 kY q1
      have y3 := blk_kept v3 kY q2
      have yb := blk_kept vb kY (by omega)
      generalize (((V.setCell ⟨w.heap.size, 0, none⟩ (.int .i64 b0)).setCell ⟨w.heap.size, 1, none⟩ (.int .i64 b1)).setCell ⟨w.heap.size, 2, none⟩ (.int .i64 b2)).setCell ⟨w.heap.size, 3, none⟩ (.int .i64 b3) = Y at kY bY y1 y2 y3 yb ⊢
      have kZ : Kept Y (Y.setCell ⟨w1.heap.size + 1, 0, none⟩ (.int .i64 (k + 1))) (fun j => j = w1.heap.size + 1) := kept_cell _ _ _ _
      have bZ : Below w.heap.size w (Y.setCell ⟨w1.heap.size + 1, 0, none⟩ (.int .i64 (k + 1))) := below_set bY (by omega)
      have x1 := blk_kept y1 kZ (by omega)
      have x2 := blk_kept y2 kZ (by omega)
      have x3 : (Y.setCell ⟨w1.heap.size + 1, 0, none⟩ (.int .i64 (k + 1))).heap[w1.heap.size + 1]? = some (.cells #[.int .i64 (k + 1 : Nat)] 3) := (blk_set y3 0 _).trans rfl
      have xb := blk_kept yb kZ (by omega)
      generalize Y.setCell ⟨w1.heap.size + 1, 0, none⟩ (.int .i64 (k + 1)) = Z at kZ bZ x1 x2 x3 xb ⊢
      have kw1 : Kept w' Y (fun j => j = w1.heap.size ∨ j = w.heap.size) := (kV.mono (fun j hj => .inl hj)).then_ kY (fun j hj => .inl (.inr hj))
      have kw2 : Kept w' Z (fun j => j = w1.heap.size ∨ j = w.heap.size ∨ j = w1.heap.size + 1) := (kw1.mono (fun j hj => hj.elim .inl (fun h => .inr (.inl h)))).then_ kZ (fun j hj => .inl (.inr (.inr hj)))
      have k2 : Kept X Z (fun j => j = w.heap.size ∨ j = w1.heap.size ∨ j = w1.heap.size + 1 ∨ (w1.heap.size + 7 ≤ j ∧ j ≠ nb)) :=
        (kw.mono (fun j hj => .inr (.inr (.inr hj)))).then_ kw2 (fun j hj => .inl (hj.elim (fun h => .inr (.inl h)) (fun h => h.elim .inl (fun h => .inr (.inr (.inl h))))))
      have y4 := HX.out.round k2 bZ hbN (by rw [HB.out]; exact x1) ⟨sv, x2, by
        rw [HD.out, if_pos rfl, List.length_append, List.map_append]
        exact own_kept hown2.out kw2 (fun j hj hj2 => by rcases hj2 with h | h | h <;> omega)⟩ x3
      refine ⟨k2.2 _ (by omega) (by omega), k2.2 _ (by omega) (by omega), fun Ra => ⟨y4.putl Ra hbN, ?_⟩⟩
      rw [HB.out]
      exact (World.putObj_heap_other (by omega)).trans xb
    · rw [Bool.not_eq_true] at ho
      rw [ho] at hd ⊢
      simp only [hb]
      have HD := Aside0.mk hd
      clear hSt hr2 hd ha h2 h1 hlen hX1 hrow hb
      repeat gi_step
      have k1 : Kept X ((((X.setCell ⟨w.heap.size, 0, none⟩ (.int .i64 b0)).setCell ⟨w.heap.size, 1, none⟩ (.int .i64 b1)).setCell ⟨w.heap.size, 2, none⟩ (.int .i64 b2)).setCell ⟨w.heap.size, 3, none⟩ (.int .i64 b3)) (fun j => j = w.heap.size) := kept_store X _ _ _ _ _
      generalize hY : (((X.setCell ⟨w.heap.size, 0, none⟩ (.int .i64 b0)).setCell ⟨w.heap.size, 1, none⟩ (.int .i64 b1)).setCell ⟨w.heap.size, 2, none⟩ (.int .i64 b2)).setCell ⟨w.heap.size, 3, none⟩ (.int .i64 b3) = Y at k1 ⊢
      have b1' : Below w.heap.size w Y := by rw [← hY]; exact below_store HX.out.below (Nat.le_refl _) _ _ _ _
      have y1 : Y.heap[w.heap.size]? = some (.cells #[.int .i64 b0, .int .i64 b1, .int .i64 b2, .int .i64 b3] 23) := by rw [← hY]; exact blk_store hg _ _ _ _
      have y2 := blk_kept hci k1 q2
      have k3 : Kept X (Y.setCell ⟨w1.heap.size + 1, 0, none⟩ (.int .i64 (k + 1))) (fun j => j = w.heap.size ∨ j = w1.heap.size + 1) := (k1.mono (fun j hj => .inl hj)).setCell (.inl (.inr rfl)) _
      have k2 : Kept X (Y.setCell ⟨w1.heap.size + 1, 0, none⟩ (.int .i64 (k + 1))) (fun j => j = w.heap.size ∨ j = w1.heap.size ∨ j = w1.heap.size + 1 ∨ (w1.heap.size + 7 ≤ j ∧ j ≠ nb)) := (k1.mono (fun j hj => .inl hj)).setCell (.inl (.inr (.inr (.inl rfl)))) _
      have b2' : Below w.heap.size w (Y.setCell ⟨w1.heap.size + 1, 0, none⟩ (.int .i64 (k + 1))) := below_set b1' (by omega)
      have y3 : (Y.setCell ⟨w1.heap.size + 1, 0, none⟩ (.int .i64 (k + 1))).heap[w1.heap.size + 1]? = some (.cells #[.int .i64 (k + 1 : Nat)] 3) := (blk_set y2 0 _).trans rfl
      have hXs := HX.out.size
      have y4 := HX.out.round k2 b2' hbN (by rw [HB.out]; exact blk_far y1 (by simpa using q2.symm) _) ⟨v, blk_kept hv k3 (by omega), by
        rw [HD.out, if_neg (by decide), List.append_nil]
        refine own_kept HR.out (S := fun j => j = w.heap.size ∨ j = w1.heap.size + 1) ?_ (fun j hj hj2 => by rcases hj2 with h | h <;> omega)
        exact k3⟩ y3
      refine ⟨k2.2 _ (by omega) (by omega), k2.2 _ (by omega) (by omega), fun Ra => ⟨y4.putl Ra hbN, ?_⟩⟩
      rw [HB.out]
      exact (World.putObj_heap_other (by omega)).trans (blk_kept hX2 k2 (by omega))
  case iter =>
    intro R0 Rs W hW hYY
    have hD : w2.heap.size = w1.heap.size + 5 := hsz
    rw [hD] at hYY ⊢
    refine (iter_ok (w1.heap.size + 7) (w1.heap.size + 5 + 1) (w1.heap.size + 1 + 1) (w1.heap.size + 1 + 1 + 1) (w1.heap.size + 1 + 1 + 2) (p, x, l, t) wd dw rt A2 c2 l2 hl hV
      (fun k W => RunSt w w1.heap.size (p, x, l, t) wd dw rt A2 c2 l2 k k W ∧ W.heap[w1.heap.size + 5 + 1]? = some R0 ∧ W.heap[w1.heap.size + 5]? = some (.deferred (some [])))
      (fun k W => RunSt w w1.heap.size (p, x, l, t) wd dw rt A2 c2 l2 (k + 1) k W ∧ W.heap[w1.heap.size + 5 + 1]? = some R0 ∧ W.heap[w1.heap.size + 5]? = some (.deferred (some [])))
      ?jt ?jlo ?jb ?jn ?js ?jy W ?j0).mono ?jm
    case jt =>
      rintro k W ⟨h1, _, _⟩
      exact ⟨h1.td, h1.tr, h1.ts, Kd.C_below hr2 h1.below⟩
    case jlo =>
      rintro k W ⟨h1, _, _⟩
      exact h1.size
    case jb =>
      rintro k W W' ⟨h1, h2, h3⟩ hb
      exact ⟨h1.step hb hbN, blk_below h2 hb, blk_below h3 hb⟩
    case jn =>
      rintro k W ⟨h1, _, _⟩
      exact h1.td
    case js =>
      rintro k W ⟨h1, h2, h3⟩
      have hk := kept_store W (w1.heap.size + 1 + 1) (.int .i64 (dqs (p, x, l, t) wd dw rt l2 (k + 1)).1) (.int .i64 (dqs (p, x, l, t) wd dw rt l2 (k + 1)).2.1) (.int .i64 (dqs (p, x, l, t) wd dw rt l2 (k + 1)).2.2.1) (.int .i64 (dqs (p, x, l, t) wd dw rt l2 (k + 1)).2.2.2)
      exact ⟨h1.store hbN, blk_kept h2 hk (by omega), blk_kept h3 hk (by omega)⟩
    case jy =>
      rintro k nb W1 hk hnb ⟨h1, h2, h3⟩ hc
      obtain ⟨fn, tmps, assign, body, hy, hR⟩ := hYY (k, nb) W1 ⟨h1, hc, hnb, hk⟩ h2 h3
      refine ⟨fn, tmps, assign, body, hy, hR.mono ?_⟩
      rintro e W' (⟨rfl, hp, g1, g2⟩ | ⟨rfl, c, hf, _⟩)
      · exact ⟨rfl, ⟨hp.st, g1, g2⟩, hp.nb⟩
      · exact hf.elim
    case j0 =>
      subst hW
      exact ⟨hSt _ _, blk_newN _ _ (by simp [hsz]), blk_alloc (blk_newN _ _ hsz.symm) _⟩
    case jm =>
      rintro e W' ⟨hv, h1, h2, h3⟩
      exact ⟨hv, h3, .inl ⟨h1, h2⟩⟩
  case done =>
    intro W Rx hE hK
    have hlr : w2.heap.size + 1 = w1.heap.size + 6 := by rw [hsz]
    rw [hlr, hsz]
    have hP := hE.putl Rx hbN
    have hK2 : (W.putObj (w1.heap.size + 6) Rx).heap[w1.heap.size + 5]? = some (.deferred (some [])) := (World.putObj_heap_other (by omega)).trans (by rw [← hsz]; exact hK)
    generalize W.putObj (w1.heap.size + 6) Rx = X at hP hK2 ⊢
    obtain ⟨v, hv, hrow⟩ := hP.co
    have hg := hP.cg
    have hz := hP.cz
    obtain ⟨b0, b1, b2, b3, hb⟩ : ∃ b0 b1 b2 b3, dqs (p, x, l, t) wd dw rt l2 l2.length = (b0, b1, b2, b3) := ⟨_, _, _, _, rfl⟩
    simp only [hb] at hg
    have s0 : X.cell? ⟨w.heap.size, 0, none⟩ = some (.int .i64 b0) := (blk_cell hg 0).trans rfl
    have s1 : X.cell? ⟨w.heap.size, 1, none⟩ = some (.int .i64 b1) := (blk_cell hg 1).trans rfl
    have s2 : X.cell? ⟨w.heap.size, 2, none⟩ = some (.int .i64 b2) := (blk_cell hg 2).trans rfl
    have s3 : X.cell? ⟨w.heap.size, 3, none⟩ = some (.int .i64 b3) := (blk_cell hg 3).trans rfl
    have n0 : X.cell? ⟨w.heap.size + 1 + 1, 0, none⟩ = some (.int .i64 0) := (blk_cell hz 0).trans rfl
    have n1 : X.cell? ⟨w.heap.size + 1 + 1, 1, none⟩ = some (.int .i64 0) := (blk_cell hz 1).trans rfl
    have n2 : X.cell? ⟨w.heap.size + 1 + 1, 2, none⟩ = some (.int .i64 0) := (blk_cell hz 2).trans rfl
    have n3 : X.cell? ⟨w.heap.size + 1 + 1, 3, none⟩ = some (.int .i64 0) := (blk_cell hz 3).trans rfl
    have f0 : X.frozen? ⟨w.heap.size + 1 + 1, 0, none⟩ = false := blk_frozen hz 0
    have f1 : X.frozen? ⟨w.heap.size + 1 + 1, 1, none⟩ = false := blk_frozen hz 1
    have f2 : X.frozen? ⟨w.heap.size + 1 + 1, 2, none⟩ = false := blk_frozen hz 2
    have f3 : X.frozen? ⟨w.heap.size + 1 + 1, 3, none⟩ = false := blk_frozen hz 3
    have c0 : X.cell? ⟨w1.heap.size, 0, none⟩ = some v := (blk_cell hv 0).trans rfl
    have q1 : w1.heap.size ≠ w.heap.size + 1 + 1 := by omega
    have HP := Aside0.mk hP
    have HR := Aside0.mk hrow
    have HK := Aside0.mk hK2
    have HB := Aside0.mk hb
    clear hSt hr2 hP hrow hE hK hK2 hb hlr hsz hV
    obtain ⟨c, hc⟩ : ∃ c, c = w.heap.size + 1 + 1 := ⟨_, rfl⟩
    repeat gi_step
    gi_region
    have kY := kept_store X (w.heap.size + 1 + 1) (.int .i64 b0) (.int .i64 b1) (.int .i64 b2) (.int .i64 b3)
    have bY := below_store HP.out.below (show w.heap.size ≤ w.heap.size + 1 + 1 by omega) (.int .i64 b0) (.int .i64 b1) (.int .i64 b2) (.int .i64 b3)
    have y1 := blk_store hz (.int .i64 b0) (.int .i64 b1) (.int .i64 b2) (.int .i64 b3)
    have hK := blk_kept HK.out kY (by omega)
    have hO := own_kept HR.out kY (fun j hj hj2 => by have : j = w.heap.size + 1 + 1 := hj2; omega)
    generalize (((X.setCell ⟨w.heap.size + 1 + 1, 0, none⟩ (.int .i64 b0)).setCell ⟨w.heap.size + 1 + 1, 1, none⟩ (.int .i64 b1)).setCell ⟨w.heap.size + 1 + 1, 2, none⟩ (.int .i64 b2)).setCell ⟨w.heap.size + 1 + 1, 3, none⟩ (.int .i64 b3) = Y0 at kY bY y1 hK hO ⊢
    have bY := below_drew1 bY
    have y1 := blk_drew y1
    have hK := blk_drew hK
    have hO : Y0.drew.ownsRow _ _ _ _ _ _ := hO
    generalize Y0.drew = Y at bY y1 hK hO ⊢
    repeat gi_step
    refine ⟨by simp, .inl ⟨_, _, rfl, run_takeDeferred hK, ?_⟩⟩
    have z1 : (Y.putObj (w1.heap.size + 5) (.deferred none)).heap[w.heap.size + 1 + 1]? = _ := (World.putObj_heap_other (by omega)).trans y1
    have bZ := below_putObj bY (w1.heap.size + 5) (.deferred none) (by omega) bY.size
    have oZ := own_kept hO (kept_putObj Y (w1.heap.size + 5) (.deferred none)) (fun j hj hj2 => by have : j = w1.heap.size + 5 := hj2; omega)
    generalize Y.putObj (w1.heap.size + 5) (.deferred none) = Z at z1 bZ oZ ⊢
    have g0 : Z.cell? ⟨w.heap.size + 1 + 1, 0, none⟩ = some (.int .i64 b0) := (blk_cell z1 0).trans rfl
    have g1 : Z.cell? ⟨w.heap.size + 1 + 1, 1, none⟩ = some (.int .i64 b1) := (blk_cell z1 1).trans rfl
    have g2 : Z.cell? ⟨w.heap.size + 1 + 1, 2, none⟩ = some (.int .i64 b2) := (blk_cell z1 2).trans rfl
    have g3 : Z.cell? ⟨w.heap.size + 1 + 1, 3, none⟩ = some (.int .i64 b3) := (blk_cell z1 3).trans rfl
    refine ⟨.tuple #[.agg #[.int .i64 b0, .int .i64 b1, .int .i64 b2, .int .i64 b3], v, .int .i64 0], by simp [results, Try.results24, go_sem, g0, g1, g2, g3], v, by rw [HB.out], ?_, bZ⟩
    exact Kd.R_of_own (own_base oZ (by omega)) (fun _ _ => trivial)
  case stop => 
    intro c W Rx h
    exact h.elim

theorem door_Run.calls (a0_0 : Int) (a0_1 : Int) (a0_2 : Int) (a0_3 : Int) (a1_0 : Int) (a1_1 : Int) (a1_2 : Int) (A2 : Option Addr) (c2 : Nat) (l2 : List Bool) (r1 : Int) (r2 : Int) (r3 : Int) (r4 : Int) (r5 : List Int) (r6 : Int) (w : World) (hr2 : Kd.C Kd.bool w A2 l2.length l2) (hc2 : l2.length ≤ c2) (h : door_Run.f a0_0 a0_1 a0_2 a0_3 a1_0 a1_1 a1_2 l2 = some (r1, r2, r3, r4, r5, r6)) :
    Calls Try.prog 24 #[.agg #[.int .i64 a0_0, .int .i64 a0_1, .int .i64 a0_2, .int .i64 a0_3], .agg #[.int .i64 a1_0, .int .i64 a1_1, .int .i64 a1_2], .slice A2 l2.length c2] w fun e w' => ∃ v4_ : Value, e = .returned (.tuple #[.agg #[.int .i64 r1, .int .i64 r2, .int .i64 r3, .int .i64 r4], v4_, .int .i64 r6]) ∧ Kd.R (Kd.int .i64) 3 w' w.heap.size (fun _ => True) v4_ r5 ∧ Below w.heap.size w w' := by
  unfold door_Run.f at h
  by_cases h1 : dchk a0_0 a0_1 a0_2 a0_3 a1_0 a1_1 a1_2 = 0
  · rw [if_pos h1] at h
    by_cases h2 : l2.length > 1000
    · rw [if_pos h2] at h
      by_cases h3 : l2.length < 1000000000000000000
      · rw [if_pos h3] at h
        obtain ⟨rfl, rfl, rfl, rfl, rfl, rfl⟩ : 0 = r1 ∧ 0 = r2 ∧ 0 = r3 ∧ 0 = r4 ∧ [] = r5 ∧ 4 = r6 := by simpa using h
        refine (run_long _ _ _ _ _ _ _ _ _ _ w h1 h2 h3).mono ?_
        rintro e w' ⟨rfl, hb⟩
        exact ⟨_, rfl, Kd.R_of_own (xs := []) (World.ownsRow_nil _ _ _ _) (fun _ _ => trivial), hb⟩
      · rw [if_neg h3] at h
        cases h
    · rw [if_neg h2] at h
      obtain ⟨rfl, rfl, rfl, rfl, rfl, rfl⟩ : _ = r1 ∧ _ = r2 ∧ _ = r3 ∧ _ = r4 ∧ _ = r5 ∧ 0 = r6 := by simpa using h
      exact run_good _ _ _ _ _ _ _ _ _ _ w hr2 hc2 (dchk_zero.1 h1) (by omega)
  · rw [if_neg h1] at h
    obtain ⟨rfl, rfl, rfl, rfl, rfl, rfl⟩ : 0 = r1 ∧ 0 = r2 ∧ 0 = r3 ∧ 0 = r4 ∧ [] = r5 ∧ _ = r6 := by simpa using h
    refine (run_bad _ _ _ _ _ _ _ _ _ _ w h1).mono ?_
    rintro e w' ⟨rfl, hb⟩
    exact ⟨_, rfl, Kd.R_of_own (xs := []) (World.ownsRow_nil _ _ _ _) (fun _ _ => trivial), hb⟩
end Go.Proofs.Ytofffhnhinolnaa.P
