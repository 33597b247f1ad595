/- Package door: the iterator over the ticks of a door, which keeps the door in memory. -/
import Derived.Test.YtofffhnhinolnaaRb0
import Derived.Test.YtofffhnhinolnaaRf
import Derived.Shelf.Abstract
import Derived.Shelf.RegionOpen
import Derived.OwnWalkIn
import Derived.TacticsInMore
import Derived.LoopNIn
import Derived.LoopIn
namespace Go.Proofs.Ytofffhnhinolnaa.P
open Go.RowKit Go.Proofs.YtofffhnhinolnaaW.PrintWords Go.Proofs.YtofffhnhinolnaaW.PrintLast Go.Proofs.YtofffhnhinolnaaW.PrintMore
set_option linter.unusedVariables false
set_option linter.unusedSimpArgs false

attribute [local go_sem] Oper.semAt_some
set_option maxHeartbeats 4000000 in
theorem iter_ok (lo lr td tr ts : Nat) (q : Int × Int × Int × Int) (wd dw rt : Int) (A2 : Option Addr) (c2 : Nat) (l2 : List Bool) (hl : l2.length ≤ 1000)
    (hq : dV q.1 q.2.1 q.2.2.1 q.2.2.2 wd dw rt) (J Jn : Nat → World → Prop)
    (hJt : ∀ (k : Nat) (W : World), J k W → W.heap[td]? = some (.cells #[.int .i64 (dqs q wd dw rt l2 k).1, .int .i64 (dqs q wd dw rt l2 k).2.1, .int .i64 (dqs q wd dw rt l2 k).2.2.1, .int .i64 (dqs q wd dw rt l2 k).2.2.2] 23) ∧ W.heap[tr]? = some (.cells #[.int .i64 wd, .int .i64 dw, .int .i64 rt] 25) ∧ W.heap[ts]? = some (.cells #[.slice A2 l2.length c2] 40) ∧ Kd.C Kd.bool W A2 l2.length l2)
    (hlo : ∀ (k : Nat) (W : World), J k W → lo ≤ W.heap.size)
    (hJb : ∀ (k : Nat) (W W' : World), J k W → Below W.heap.size W W' → J k W')
    (hJn : ∀ (k : Nat) (W : World), Jn k W → W.heap[td]? = some (.cells #[.int .i64 (dqs q wd dw rt l2 k).1, .int .i64 (dqs q wd dw rt l2 k).2.1, .int .i64 (dqs q wd dw rt l2 k).2.2.1, .int .i64 (dqs q wd dw rt l2 k).2.2.2] 23))
    (hJs : ∀ (k : Nat) (W : World), Jn k W → J (k + 1) ((((W.setCell ⟨td, 0, none⟩ (.int .i64 (dqs q wd dw rt l2 (k + 1)).1)).setCell ⟨td, 1, none⟩ (.int .i64 (dqs q wd dw rt l2 (k + 1)).2.1)).setCell ⟨td, 2, none⟩ (.int .i64 (dqs q wd dw rt l2 (k + 1)).2.2.1)).setCell ⟨td, 3, none⟩ (.int .i64 (dqs q wd dw rt l2 (k + 1)).2.2.2)))
    (hY : ∀ (k nb : Nat) (W1 : World), k < l2.length → lo ≤ nb → J k W1 → W1.heap[nb]? = some (.cells #[.int .i64 (dqs q wd dw rt l2 (k + 1)).1, .int .i64 (dqs q wd dw rt l2 (k + 1)).2.1, .int .i64 (dqs q wd dw rt l2 (k + 1)).2.2.1, .int .i64 (dqs q wd dw rt l2 (k + 1)).2.2.2] 23) → YieldAt Fence.wide 1 Try.prog lr #[.agg #[.int .i64 (dqs q wd dw rt l2 (k + 1)).1, .int .i64 (dqs q wd dw rt l2 (k + 1)).2.1, .int .i64 (dqs q wd dw rt l2 (k + 1)).2.2.1, .int .i64 (dqs q wd dw rt l2 (k + 1)).2.2.2], .bool (dopen (dqs q wd dw rt l2 k) wd)] W1
      fun e W' => e = .returned (.bool true) ∧ Jn k W' ∧ W'.heap[nb]? = some (.cells #[.int .i64 (dqs q wd dw rt l2 (k + 1)).1, .int .i64 (dqs q wd dw rt l2 (k + 1)).2.1, .int .i64 (dqs q wd dw rt l2 (k + 1)).2.2.1, .int .i64 (dqs q wd dw rt l2 (k + 1)).2.2.2] 23))
    (W : World) (h0 : J 0 W) :
    CallsIn Fence.wide 2 Try.prog 41 #[.func (.yield lr) #[] #[], .pointer (some ⟨ts, 0, none⟩), .pointer (some ⟨td, 0, none⟩), .pointer (some ⟨tr, 0, none⟩)] W fun e W' => (∃ v, e = .returned v) ∧ J l2.length W' := by
  have HJT := Aside0.mk hJt
  have HJB := Aside0.mk hJb
  have HJN := Aside0.mk hJn
  have HJS := Aside0.mk hJs
  have HY := Aside0.mk hY
  have HQ := Aside0.mk (dqs_ok l2 hq)
  have e0 : W.cell? ⟨ts, 0, none⟩ = some (.slice A2 l2.length c2) := (blk_cell (hJt 0 W h0).2.2.1 0).trans rfl
  have H0 := Aside0.mk h0
  have HL := Aside0.mk hlo
  clear hlo hY hJs hJn hJb h0 hJt hq
  refine callsIn_of_wp Try.func41 rfl trivial ?_ rfl
  simp only [Try.ntmps41, List.size_toArray, List.length_cons, List.length_nil, Nat.reduceAdd, Nat.reduceSub, Array.replicate_succ, Array.replicate_zero, List.push_toArray, List.append_toArray, List.nil_append, List.cons_append]
  gi_wp2
  gi_loopw [10] (fun v wr => ∃ k : Nat, k ≤ l2.length ∧ v = .int .i64 k ∧ Aside0 (J k wr)) (fun v _ => l2.length - (intOf v).toNat)
  case atStart => exact ⟨0, Nat.zero_le _, rfl, H0⟩
  case round =>
    obtain ⟨k, hk, rfl, JK⟩ := hrel
    by_cases hlt : k < l2.length
    · obtain ⟨t1, t2, t3, t4⟩ := HJT.out k wr JK.out
      have hV := HQ.out k
      obtain ⟨ad, hA, ea⟩ := Kd.at_bool t4 (k : Int) (by omega) (by omega)
      rw [Int.toNat_natCast] at ea
      subst hA
      obtain ⟨a0, a1, a2, a3, ha⟩ : ∃ a0 a1 a2 a3, dqs q wd dw rt l2 k = (a0, a1, a2, a3) := ⟨_, _, _, _, rfl⟩
      obtain ⟨b0, b1, b2, b3, hn⟩ : ∃ b0 b1 b2 b3, dqs q wd dw rt l2 (k + 1) = (b0, b1, b2, b3) := ⟨_, _, _, _, rfl⟩
      have HY1 := HY.out k
      have HS1 := HJS.out k
      have HN1 := HJN.out k
      have hT := door_tick_eq _ _ _ _ _ _ _ (rdOf false l2 k) hV
      have hn2 : dtk (dqs q wd dw rt l2 k).1 (dqs q wd dw rt l2 k).2.1 (dqs q wd dw rt l2 k).2.2.1 (dqs q wd dw rt l2 k).2.2.2 wd dw rt (rdOf false l2 k) = (b0, b1, b2, b3) := hn
      rw [hn2, ha] at hT
      simp only [ha, hn] at HY1 HS1 HN1 t1 hn2
      have HY2 := Aside0.mk HY1
      have HS2 := Aside0.mk HS1
      have HN2 := Aside0.mk HN1
      have HT := Aside0.mk hT
      have d0 : wr.cell? ⟨td, 0, none⟩ = some (.int .i64 a0) := (blk_cell t1 0).trans rfl
      have d1 : wr.cell? ⟨td, 1, none⟩ = some (.int .i64 a1) := (blk_cell t1 1).trans rfl
      have d2 : wr.cell? ⟨td, 2, none⟩ = some (.int .i64 a2) := (blk_cell t1 2).trans rfl
      have d3 : wr.cell? ⟨td, 3, none⟩ = some (.int .i64 a3) := (blk_cell t1 3).trans rfl
      have r0 : wr.cell? ⟨tr, 0, none⟩ = some (.int .i64 wd) := (blk_cell t2 0).trans rfl
      have r1 : wr.cell? ⟨tr, 1, none⟩ = some (.int .i64 dw) := (blk_cell t2 1).trans rfl
      have r2 : wr.cell? ⟨tr, 2, none⟩ = some (.int .i64 rt) := (blk_cell t2 2).trans rfl
      have hk63 : decide ((k : Int) < (l2.length : Int)) = true := decide_eq_true (by omega)
      clear t2 t3 hV t4 HY1 HS1 HN1 hT hn
      by_cases ha1 : a0 = 1
      · have hop : (b0 == 2) = dopen (a0, a1, a2, a3) wd := by have := dopen_at (x := a1) (l := a2) (t := a3) (wd := wd) (dw := dw) (rt := rt) (rdOf false l2 k) ha1; rw [hn2] at this; exact this
        have hb1 : (a0 == 1) = true := beq_iff_eq.mpr ha1
        clear hn2 ha1
        gi_wp2_with (refine ⟨trivial, ?_⟩; gi_at_call 33; refine (callsIn_wide.2 (door_tick.calls _ _ _ _ _ _ _ _ _ _ _ _ _ HT.out)).mono ?_; rintro e w1 ⟨rfl, hb⟩; have g0 := fun o => blk_cell (blk_alloc (blk_below t1 hb) o) 0; simp at g0; obtain ⟨fn, tmps, assign, body, hy, hR⟩ := HY2.out w1.heap.size (w1.alloc (.cells #[.int .i64 b0, .int .i64 b1, .int .i64 b2, .int .i64 b3] 23)) hlt (Nat.le_trans (HL.out _ _ JK.out) hb.size) (HJB.out _ _ _ JK.out (below_alloc hb _)) (blk_new _ _))
        refine hR.mono ?_
        rintro e W3 ⟨rfl, hN, hnb⟩
        have n0 : W3.cell? ⟨w1.heap.size, 0, none⟩ = some (.int .i64 b0) := (blk_cell hnb 0).trans rfl
        have n1 : W3.cell? ⟨w1.heap.size, 1, none⟩ = some (.int .i64 b1) := (blk_cell hnb 1).trans rfl
        have n2 : W3.cell? ⟨w1.heap.size, 2, none⟩ = some (.int .i64 b2) := (blk_cell hnb 2).trans rfl
        have n3 : W3.cell? ⟨w1.heap.size, 3, none⟩ = some (.int .i64 b3) := (blk_cell hnb 3).trans rfl
        have htd := HN2.out W3 hN
        have m0 : W3.cell? ⟨td, 0, none⟩ = some (.int .i64 a0) := (blk_cell htd 0).trans rfl
        have m1 : W3.cell? ⟨td, 1, none⟩ = some (.int .i64 a1) := (blk_cell htd 1).trans rfl
        have m2 : W3.cell? ⟨td, 2, none⟩ = some (.int .i64 a2) := (blk_cell htd 2).trans rfl
        have m3 : W3.cell? ⟨td, 3, none⟩ = some (.int .i64 a3) := (blk_cell htd 3).trans rfl
        have f0 : W3.frozen? ⟨td, 0, none⟩ = false := blk_frozen htd 0
        have f1 : W3.frozen? ⟨td, 1, none⟩ = false := blk_frozen htd 1
        have f2 : W3.frozen? ⟨td, 2, none⟩ = false := blk_frozen htd 2
        have f3 : W3.frozen? ⟨td, 3, none⟩ = false := blk_frozen htd 3
        gi_wp2
        exact ⟨⟨k + 1, hlt, congrArg (Value.int .i64) (by omega), ⟨HS2.out W3 hN⟩⟩, by show l2.length - ((k : Int) + 1).toNat < l2.length - (k : Int).toNat; omega⟩
      · have hop : dopen (a0, a1, a2, a3) wd = false := decide_eq_false (fun h => ha1 h.1)
        have hb1 : (a0 == 1) = false := beq_eq_false_iff_ne.mpr ha1
        clear hn2 ha1
        rw [hop] at HY2
        gi_wp2_with (refine ⟨trivial, ?_⟩; gi_at_call 33; refine (callsIn_wide.2 (door_tick.calls _ _ _ _ _ _ _ _ _ _ _ _ _ HT.out)).mono ?_; rintro e w1 ⟨rfl, hb⟩; have g0 := fun o => blk_cell (blk_alloc (blk_below t1 hb) o) 0; simp at g0; obtain ⟨fn, tmps, assign, body, hy, hR⟩ := HY2.out w1.heap.size (w1.alloc (.cells #[.int .i64 b0, .int .i64 b1, .int .i64 b2, .int .i64 b3] 23)) hlt (Nat.le_trans (HL.out _ _ JK.out) hb.size) (HJB.out _ _ _ JK.out (below_alloc hb _)) (blk_new _ _))
        refine hR.mono ?_
        rintro e W3 ⟨rfl, hN, hnb⟩
        have n0 : W3.cell? ⟨w1.heap.size, 0, none⟩ = some (.int .i64 b0) := (blk_cell hnb 0).trans rfl
        have n1 : W3.cell? ⟨w1.heap.size, 1, none⟩ = some (.int .i64 b1) := (blk_cell hnb 1).trans rfl
        have n2 : W3.cell? ⟨w1.heap.size, 2, none⟩ = some (.int .i64 b2) := (blk_cell hnb 2).trans rfl
        have n3 : W3.cell? ⟨w1.heap.size, 3, none⟩ = some (.int .i64 b3) := (blk_cell hnb 3).trans rfl
        have htd := HN2.out W3 hN
        have m0 : W3.cell? ⟨td, 0, none⟩ = some (.int .i64 a0) := (blk_cell htd 0).trans rfl
        have m1 : W3.cell? ⟨td, 1, none⟩ = some (.int .i64 a1) := (blk_cell htd 1).trans rfl
        have m2 : W3.cell? ⟨td, 2, none⟩ = some (.int .i64 a2) := (blk_cell htd 2).trans rfl
        have m3 : W3.cell? ⟨td, 3, none⟩ = some (.int .i64 a3) := (blk_cell htd 3).trans rfl
        have f0 : W3.frozen? ⟨td, 0, none⟩ = false := blk_frozen htd 0
        have f1 : W3.frozen? ⟨td, 1, none⟩ = false := blk_frozen htd 1
        have f2 : W3.frozen? ⟨td, 2, none⟩ = false := blk_frozen htd 2
        have f3 : W3.frozen? ⟨td, 3, none⟩ = false := blk_frozen htd 3
        gi_wp2
        exact ⟨⟨k + 1, hlt, congrArg (Value.int .i64) (by omega), ⟨HS2.out W3 hN⟩⟩, by show l2.length - ((k : Int) + 1).toNat < l2.length - (k : Int).toNat; omega⟩
    · obtain rfl : k = l2.length := by omega
      gi_wp2
      go_end0
      exact ⟨⟨_, rfl⟩, JK.out⟩
end Go.Proofs.Ytofffhnhinolnaa.P
