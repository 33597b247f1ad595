/- Package profile: a ride, tick by tick: its closed form, and the iterator over its speeds. -/
import Derived.Test.YtckaofgkepcibaaPa
import Derived.Test.YtckaofgkepcibaaRf
import Derived.Shelf.Abstract
import Derived.Shelf.RegionOpen
import Derived.OwnWalkIn
import Derived.TacticsInMore
import Derived.LoopNIn
import Derived.LoopIn
namespace Go.Proofs.Ytckaofgkepcibaa.P
open Go.RowKit Go.Proofs.YtckaofgkepcibaaW.PrintWords Go.Proofs.YtckaofgkepcibaaW.PrintLast Go.Proofs.YtckaofgkepcibaaW.PrintMore
set_option linter.unusedVariables false
set_option linter.unusedSimpArgs false

/-- The speed and what is left, a tick later. -/
def pnx (lim : Int) (q : Int × Int) : Int × Int := ((pnext q.1 q.2 lim).1, q.2 - (pnext q.1 q.2 lim).1)
def pst (lim : Int) (q : Int × Int) : Nat → Int × Int
  | 0 => q
  | k + 1 => pnx lim (pst lim q k)
/-- The greatest speed of k ticks. -/
def ppk (lim : Int) (q : Int × Int) : Nat → Int
  | 0 => 0
  | k + 1 => max (ppk lim q k) (pst lim q (k + 1)).1
/-- How many ticks it takes, if this many are enough to tell. -/
def pcnt (lim : Int) : Nat → Int × Int → Option Nat
  | 0, _ => none
  | K + 1, q => if q.2 > 0 then (if 0 ≤ q.1 ∧ q.1 ≤ 1000 ∧ q.2 ≤ 1000000 then (pcnt lim K (pnx lim q)).map (· + 1) else none) else some 0

theorem pcnt_lt (lim : Int) : ∀ (K : Nat) (q : Int × Int) (n : Nat), pcnt lim K q = some n → n < K := by
  intro K
  induction K with
  | zero => intro q n h; cases h
  | succ K ih =>
    intro q n h
    rw [pcnt] at h
    by_cases h0 : q.2 > 0
    · rw [if_pos h0] at h
      by_cases h1 : 0 ≤ q.1 ∧ q.1 ≤ 1000 ∧ q.2 ≤ 1000000
      · rw [if_pos h1] at h
        obtain ⟨m, hm, rfl⟩ := Option.map_eq_some_iff.mp h
        have := ih _ _ hm
        omega
      · rw [if_neg h1] at h; cases h
    · rw [if_neg h0] at h; have := Option.some.inj h; omega
theorem pcnt_mono (lim : Int) : ∀ (K : Nat) (q : Int × Int) (n : Nat), pcnt lim K q = some n → pcnt lim (K + 1) q = some n := by
  intro K
  induction K with
  | zero => intro q n h; cases h
  | succ K ih =>
    intro q n h
    rw [pcnt] at h ⊢
    by_cases h0 : q.2 > 0
    · rw [if_pos h0] at h ⊢
      by_cases h1 : 0 ≤ q.1 ∧ q.1 ≤ 1000 ∧ q.2 ≤ 1000000
      · rw [if_pos h1] at h ⊢
        obtain ⟨m, hm, rfl⟩ := Option.map_eq_some_iff.mp h
        rw [ih _ _ hm]; rfl
      · rw [if_neg h1] at h; cases h
    · rw [if_neg h0] at h ⊢; exact h
/-- The run that pcnt tells of. -/
theorem pcnt_run (lim : Int) : ∀ (K : Nat) (q : Int × Int) (T : Nat), pcnt lim K q = some T →
    ¬ (pst lim q T).2 > 0 ∧ ∀ k, k < T → (pst lim q k).2 > 0 ∧ (0 ≤ (pst lim q k).1 ∧ (pst lim q k).1 ≤ 1000 ∧ (pst lim q k).2 ≤ 1000000) ∧ pcnt lim K (pst lim q (k + 1)) = some (T - (k + 1)) := by
  intro K
  induction K with
  | zero => intro q T h; cases h
  | succ K ih =>
    intro q T h
    rw [pcnt] at h
    by_cases h0 : q.2 > 0
    · rw [if_pos h0] at h
      by_cases h1 : 0 ≤ q.1 ∧ q.1 ≤ 1000 ∧ q.2 ≤ 1000000
      · rw [if_pos h1] at h
        obtain ⟨m, hm, rfl⟩ := Option.map_eq_some_iff.mp h
        have hs : ∀ k, pst lim q (k + 1) = pst lim (pnx lim q) k := by
          intro k
          induction k with
          | zero => rfl
          | succ k ihk => rw [pst, ihk]; rfl
        obtain ⟨g1, g2⟩ := ih (pnx lim q) m hm
        refine ⟨by rw [hs]; exact g1, fun k hk => ?_⟩
        cases k with
        | zero => exact ⟨h0, h1, by rw [hs]; exact pcnt_mono lim K _ _ hm⟩
        | succ k =>
          obtain ⟨q1, q2, q3⟩ := g2 k (by omega)
          rw [hs k, hs (k + 1)]
          exact ⟨q1, q2, by rw [pcnt_mono lim K _ _ q3]; congr 1; omega⟩
      · rw [if_neg h1] at h; cases h
    · rw [if_neg h0] at h
      obtain rfl := Option.some.inj h
      exact ⟨h0, fun k hk => by omega⟩

attribute [local go_sem] Oper.semAt_some
theorem ride_calls (n lim : Int) (w : World) :
    Calls Try.prog 48 #[.int .i64 n, .int .i64 lim] w
      fun e w' => e = .returned (.func (.func 56) #[] #[.pointer (some ⟨w.heap.size, 0, none⟩), .pointer (some ⟨w.heap.size + 1, 0, none⟩)]) ∧
        w' = (w.alloc (.cells #[.int .i64 n] 3)).alloc (.cells #[.int .i64 lim] 3) := by
  have hmf : ∀ (fn : Fn) (first cap : Array Value) (w : World), (Instr.makeFunc fn first cap).run Try.prog w = .ok (.func fn first cap) w := fun _ _ _ _ => rfl
  go_enter Try.func48, Try.ntmps48
  go_wp2
  go_ret
  exact ⟨rfl, rfl⟩

set_option maxHeartbeats 4000000 in
theorem ride_ok (lr tn tl : Nat) (n lim : Int) (K T : Nat) (hT : pcnt lim K (0, n) = some T) (J : Nat → World → Prop) (Jx : World → Prop)
    (hJt : ∀ (k : Nat) (W : World), J k W → W.heap[tl]? = some (.cells #[.int .i64 lim] 3) ∧ W.heap[tn]? = some (.cells #[.int .i64 n] 3))
    (hJb : ∀ (k : Nat) (W W' : World), J k W → Below W.heap.size W W' → J k W')
    (hY : ∀ (k : Nat) (W1 : World), k < T → J k W1 → YieldAt Fence.wide 1 Try.prog lr #[.int .i64 (pst lim (0, n) (k + 1)).1] W1
      fun e W' => (e = .returned (.bool true) ∧ J (k + 1) W') ∨ (e = .returned (.bool false) ∧ Jx W'))
    (W : World) (h0 : J 0 W) :
    CallsIn Fence.wide 2 Try.prog 56 #[.func (.yield lr) #[] #[], .pointer (some ⟨tn, 0, none⟩), .pointer (some ⟨tl, 0, none⟩)] W fun e W' => (∃ v, e = .returned v) ∧ (J T W' ∨ Jx W') := by
  have HJT := Aside0.mk hJt
  have HJB := Aside0.mk hJb
  have HY := Aside0.mk hY
  have HR := Aside0.mk (pcnt_run lim K (0, n) T hT)
  have HT := Aside0.mk hT
  have H0 := Aside0.mk h0
  have e0 : W.cell? ⟨tn, 0, none⟩ = some (.int .i64 n) := (blk_cell (hJt 0 W h0).2 0).trans rfl
  clear hY hJb h0 hJt hT
  refine callsIn_of_wp Try.func56 rfl trivial ?_ rfl
  simp only [Try.ntmps56, List.size_toArray, List.length_cons, List.length_nil, Nat.reduceAdd, Nat.reduceSub, Array.replicate_succ, Array.replicate_zero, List.push_toArray, List.append_toArray, List.nil_append, List.cons_append]
  gi_wp2
  gi_loopw [4, 5] (fun v4 v5 wr => ∃ k : Nat, k ≤ T ∧ v4 = .int .i64 (pst lim (0, n) k).1 ∧ v5 = .int .i64 (pst lim (0, n) k).2 ∧ Aside0 (J k wr)) (fun v4 v5 _ => (pcnt lim K (intOf v4, intOf v5)).getD 0)
  case atStart => exact ⟨0, Nat.zero_le _, rfl, rfl, H0⟩
  case round =>
    obtain ⟨k, hk, rfl, rfl, JK⟩ := hrel
    obtain ⟨t1, t2⟩ := HJT.out k wr JK.out
    have r0 : wr.cell? ⟨tl, 0, none⟩ = some (.int .i64 lim) := (blk_cell t1 0).trans rfl
    obtain ⟨a0, a1, ha⟩ : ∃ a0 a1, pst lim (0, n) k = (a0, a1) := ⟨_, _, rfl⟩
    have HM : Aside0 ((pcnt lim K (a0, a1)).getD 0 = T - k) := ⟨by
      rw [← ha]
      cases k with
      | zero => show (pcnt lim K (0, n)).getD 0 = _; rw [HT.out]; rfl
      | succ k => rw [(HR.out.2 k (by omega)).2.2]; rfl⟩
    simp only [ha]
    clear t1 t2
    by_cases hlt : k < T
    · obtain ⟨q1, q2, q3⟩ := HR.out.2 k hlt
      rw [ha] at q1 q2
      obtain ⟨b0, b1, hb⟩ : ∃ b0 b1, pst lim (0, n) (k + 1) = (b0, b1) := ⟨_, _, rfl⟩
      have hb2 : b0 = (pnext a0 a1 lim).1 ∧ b1 = a1 - b0 := by
        have : pnx lim (pst lim (0, n) k) = (b0, b1) := hb
        rw [ha] at this
        have := Prod.mk.inj this
        exact ⟨this.1.symm, by rw [← this.1, ← this.2]⟩
      have hv : -1 ≤ b0 ∧ b0 ≤ 1001 := by
        rw [hb2.1]; unfold pnext
        dsimp only at q2
        repeat' split
        all_goals dsimp only
        all_goals omega
      have hw : wrap64 (a1 - b0) = b1 := by
        dsimp only at q1 q2
        rw [hb2.2]; exact wsm _ (by omega) (by omega)
      have HN : Aside0 (profile_next.f a0 a1 lim = some (b0, (pnext a0 a1 lim).2)) := ⟨by
        unfold profile_next.f
        dsimp only at q2
        rw [if_pos (by omega), hb2.1]⟩
      have p3 : decide (a1 > 0) = true := decide_eq_true q1
      have hy := fun W => HY.out k W hlt
      simp only [hb] at hy
      rw [hb] at q3
      have HYY := Aside0.mk hy
      have HB := Aside0.mk hb
      have HQ3 := Aside0.mk q3
      clear hy q1 q2 q3 hb hb2 hv ha
      gi_wp2_with (refine ⟨trivial, ?_⟩; gi_at_call 57; refine (callsIn_wide.2 (profile_next.calls _ _ _ _ _ _ HN.out)).mono ?_; rintro e w1 ⟨rfl, hb⟩; obtain ⟨fn, tmps, assign, body, hy, hR⟩ := HYY.out _ (HJB.out _ _ _ JK.out hb))
      refine hR.mono ?_
      rintro e W3 (⟨rfl, hJ3⟩ | ⟨rfl, hx⟩)
      · have J3 := Aside0.mk hJ3
        clear hJ3 hR hy
        gi_wp2
        rw [hw]
        refine ⟨⟨k + 1, hlt, by rw [HB.out], by rw [HB.out], J3⟩, ?_⟩
        show (pcnt lim K (b0, b1)).getD 0 < (pcnt lim K (a0, a1)).getD 0
        rw [HQ3.out, HM.out]
        show T - (k + 1) < T - k
        omega
      · gi_wp2
        refine bodyPost_ret (results_none rfl _ _ _) rfl ?_
        exact ⟨⟨_, rfl⟩, .inr hx⟩
    · obtain rfl : k = T := by omega
      have p3 : decide (a1 > 0) = false := decide_eq_false (by have := HR.out.1; rw [ha] at this; dsimp only at this; omega)
      gi_wp2
      go_end0
      exact ⟨⟨_, rfl⟩, .inl JK.out⟩
end Go.Proofs.Ytckaofgkepcibaa.P
