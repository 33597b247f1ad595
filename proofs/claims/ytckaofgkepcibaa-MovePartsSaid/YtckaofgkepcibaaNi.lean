/- Package drive: the ticks of a drive until it is at rest: their closed form, and the iterator over them, which keeps the drive in memory. -/
import Derived.Test.YtckaofgkepcibaaP1drivea
import Derived.Test.YtckaofgkepcibaaRf
import Derived.Shelf.Abstract
import Derived.Shelf.RegionOpen
import Derived.OwnWalkIn
import Derived.TacticsInMore
import Derived.LoopNIn
import Derived.LoopIn
import Derived.Laws.EntriesVeiled
namespace Go.Proofs.Ytckaofgkepcibaa.P
open Go.RowKit Go.Proofs.YtckaofgkepcibaaW.PrintWords Go.Proofs.YtckaofgkepcibaaW.PrintLast Go.Proofs.YtckaofgkepcibaaW.PrintMore
set_option linter.unusedVariables false
set_option linter.unusedSimpArgs false

/-- A drive as numbers: Pos, Goal, Speed, Part, Left. -/
abbrev DS := Int × Int × Int × Int × Int
def dcells (s : DS) : Array Value := #[.int .i64 s.1, .int .i64 s.2.1, .int .i64 s.2.2.1, .int .i64 s.2.2.2.1, .int .i64 s.2.2.2.2]
def dtick? (sp br : Int) (s : DS) : Option (Int × Int × Int × Int × Int × Bool) := drive_rule_tick.f 20 sp br s.1 s.2.1 s.2.2.1 s.2.2.2.1 s.2.2.2.2
/-- The drive a tick later; whether the motor ran. -/
def dnx (sp br : Int) (s : DS) : DS := match dtick? sp br s with | some r => (r.1, r.2.1, r.2.2.1, r.2.2.2.1, r.2.2.2.2.1) | none => s
def dmo (sp br : Int) (s : DS) : Bool := match dtick? sp br s with | some r => r.2.2.2.2.2 | none => false
/-- The drive after k ticks. -/
def dst (sp br : Int) (s : DS) : Nat → DS
  | 0 => s
  | k + 1 => dnx sp br (dst sp br s k)
/-- How many ticks it takes, if this many are enough to tell. -/
def dcnt (sp br : Int) : Nat → DS → Option Nat
  | 0, _ => none
  | K + 1, s => if s.2.2.2.1 = 0 then some 0 else (dtick? sp br s).bind fun r => (dcnt sp br K (r.1, r.2.1, r.2.2.1, r.2.2.2.1, r.2.2.2.2.1)).map (· + 1)

theorem dcnt_mono (sp br : Int) : ∀ (K : Nat) (s : DS) (n : Nat), dcnt sp br K s = some n → dcnt sp br (K + 1) s = some n := by
  intro K
  induction K with
  | zero => intro s n h; cases h
  | succ K ih =>
    intro s n h
    rw [dcnt] at h ⊢
    by_cases h0 : s.2.2.2.1 = 0
    · rw [if_pos h0] at h ⊢; exact h
    · rw [if_neg h0] at h ⊢
      obtain ⟨r, hr, h⟩ := Option.bind_eq_some_iff.mp h
      rw [hr, Option.bind_some]
      obtain ⟨m, hm, rfl⟩ := Option.map_eq_some_iff.mp h
      rw [ih _ _ hm]; rfl
theorem dcnt_mono' (sp br : Int) (s : DS) (n : Nat) (K : Nat) (h : dcnt sp br K s = some n) : ∀ d, dcnt sp br (K + d) s = some n
  | 0 => h
  | d + 1 => dcnt_mono sp br _ s n (dcnt_mono' sp br s n K h d)
/-- The run that dcnt tells of. -/
theorem dcnt_run (sp br : Int) : ∀ (K : Nat) (s : DS) (T : Nat), dcnt sp br K s = some T →
    (dst sp br s T).2.2.2.1 = 0 ∧ ∀ k, k < T → (dst sp br s k).2.2.2.1 ≠ 0 ∧ (∃ r, dtick? sp br (dst sp br s k) = some r) ∧ dcnt sp br K (dst sp br s (k + 1)) = some (T - (k + 1)) := by
  intro K
  induction K with
  | zero => intro s T h; cases h
  | succ K ih =>
    intro s T h
    have h1 := h
    rw [dcnt] at h
    by_cases h0 : s.2.2.2.1 = 0
    · rw [if_pos h0] at h
      obtain rfl := Option.some.inj h
      exact ⟨h0, fun k hk => by omega⟩
    · rw [if_neg h0] at h
      obtain ⟨r, hr, h⟩ := Option.bind_eq_some_iff.mp h
      obtain ⟨m, hm, rfl⟩ := Option.map_eq_some_iff.mp h
      have e : dnx sp br s = (r.1, r.2.1, r.2.2.1, r.2.2.2.1, r.2.2.2.2.1) := by unfold dnx; rw [hr]
      rw [← e] at hm
      have hs : ∀ k, dst sp br s (k + 1) = dst sp br (dnx sp br s) k := by
        intro k
        induction k with
        | zero => rfl
        | succ k ihk => rw [dst, ihk]; rfl
      obtain ⟨g1, g2⟩ := ih (dnx sp br s) m hm
      refine ⟨by rw [hs]; exact g1, fun k hk => ?_⟩
      cases k with
      | zero => exact ⟨h0, ⟨r, hr⟩, by rw [hs]; exact dcnt_mono sp br K _ _ hm⟩
      | succ k =>
        obtain ⟨q1, q2, q3⟩ := g2 k (by omega)
        rw [hs k, hs (k + 1)]
        exact ⟨q1, q2, by rw [dcnt_mono sp br K _ _ q3]; congr 1; omega⟩

attribute [local go_sem] Oper.semAt_some

theorem ticks_calls (sp br a0 a1 a2 a3 a4 : Int) (w : World) :
    Calls Try.prog 60 #[.agg #[.int .i64 sp, .int .i64 br], .agg #[.int .i64 a0, .int .i64 a1, .int .i64 a2, .int .i64 a3, .int .i64 a4]] w
      fun e w' => e = .returned (.func (.func 67) #[] #[.pointer (some ⟨w.heap.size + 1, 0, none⟩), .pointer (some ⟨w.heap.size + 1 + 1, 0, none⟩), .pointer (some ⟨w.heap.size, 0, none⟩)]) ∧
        w' = ((w.alloc (.cells #[.int .i64 sp, .int .i64 br] 85)).alloc (.cells #[.int .i64 a0, .int .i64 a1, .int .i64 a2, .int .i64 a3, .int .i64 a4] 33)).alloc (.cells #[.func (.func 58) #[] #[]] 102) := by
  have hmf : ∀ (fn : Fn) (first cap : Array Value) (w : World), (Instr.makeFunc fn first cap).run Try.prog w = .ok (.func fn first cap) w := fun _ _ _ _ => rfl
  go_enter Try.func60, Try.ntmps60
  go_wp2
  go_ret
  exact ⟨rfl, rfl⟩

def rdSt (W : World) (td : Nat) : DS := (intOf ((W.cell? ⟨td, 0, none⟩).getD undef), intOf ((W.cell? ⟨td, 1, none⟩).getD undef), intOf ((W.cell? ⟨td, 2, none⟩).getD undef), intOf ((W.cell? ⟨td, 3, none⟩).getD undef), intOf ((W.cell? ⟨td, 4, none⟩).getD undef))
theorem rdSt_eq {W : World} {td : Nat} {s : DS} (h : W.heap[td]? = some (.cells (dcells s) 33)) : rdSt W td = s := by
  obtain ⟨a0, a1, a2, a3, a4⟩ := s
  have h0 : W.cell? ⟨td, 0, none⟩ = some (.int .i64 a0) := (blk_cell h 0).trans rfl
  have h1 : W.cell? ⟨td, 1, none⟩ = some (.int .i64 a1) := (blk_cell h 1).trans rfl
  have h2 : W.cell? ⟨td, 2, none⟩ = some (.int .i64 a2) := (blk_cell h 2).trans rfl
  have h3 : W.cell? ⟨td, 3, none⟩ = some (.int .i64 a3) := (blk_cell h 3).trans rfl
  have h4 : W.cell? ⟨td, 4, none⟩ = some (.int .i64 a4) := (blk_cell h 4).trans rfl
  unfold rdSt
  rw [h0, h1, h2, h3, h4]
  rfl

set_option maxHeartbeats 4000000 in
theorem iter_ok (lr td tst trr : Nat) (sp br : Int) (s : DS) (K T : Nat) (hT : dcnt sp br K s = some T) (J Jn : Nat → World → Prop) (Jx : World → Prop)
    (hJt : ∀ (k : Nat) (W : World), J k W → W.heap[td]? = some (.cells (dcells (dst sp br s k)) 33) ∧ W.heap[tst]? = some (.cells #[.func (.func 58) #[] #[]] 102) ∧ W.heap[trr]? = some (.cells #[.int .i64 sp, .int .i64 br] 85))
    (hJb : ∀ (k : Nat) (W W' : World), J k W → Below W.heap.size W W' → J k W')
    (hJs : ∀ (k : Nat) (W : World), k < T → J k W → Jn k (((((W.setCell ⟨td, 0, none⟩ (.int .i64 (dst sp br s (k + 1)).1)).setCell ⟨td, 1, none⟩ (.int .i64 (dst sp br s (k + 1)).2.1)).setCell ⟨td, 2, none⟩ (.int .i64 (dst sp br s (k + 1)).2.2.1)).setCell ⟨td, 3, none⟩ (.int .i64 (dst sp br s (k + 1)).2.2.2.1)).setCell ⟨td, 4, none⟩ (.int .i64 (dst sp br s (k + 1)).2.2.2.2)))
    (hY : ∀ (k : Nat) (W1 : World), k < T → Jn k W1 → YieldAt Fence.wide 1 Try.prog lr #[.agg (dcells (dst sp br s (k + 1))), .bool (dmo sp br (dst sp br s k))] W1
      fun e W' => (e = .returned (.bool true) ∧ J (k + 1) W') ∨ (e = .returned (.bool false) ∧ Jx W'))
    (W : World) (h0 : J 0 W) :
    CallsIn Fence.wide 2 Try.prog 67 #[.func (.yield lr) #[] #[], .pointer (some ⟨td, 0, none⟩), .pointer (some ⟨tst, 0, none⟩), .pointer (some ⟨trr, 0, none⟩)] W fun e W' => (∃ v, e = .returned v) ∧ (J T W' ∨ Jx W') := by
  have HJT := Aside0.mk hJt
  have HJB := Aside0.mk hJb
  have HJS := Aside0.mk hJs
  have HY := Aside0.mk hY
  have HR := Aside0.mk (dcnt_run sp br K s T hT)
  have HT := Aside0.mk hT
  have H0 := Aside0.mk h0
  clear hY hJs hJb h0 hJt hT
  refine callsIn_of_wp Try.func67 rfl trivial ?_ rfl
  simp only [Try.ntmps67, List.size_toArray, List.length_cons, List.length_nil, Nat.reduceAdd, Nat.reduceSub, Array.replicate_succ, Array.replicate_zero, List.push_toArray, List.append_toArray, List.nil_append, List.cons_append]
  gi_wp2
  gi_loopw [5] (fun v wr => ∃ k : Nat, k ≤ T ∧ (∃ b, v = .bool b) ∧ Aside0 (J k wr)) (fun _ wr => (dcnt sp br K (rdSt wr td)).getD 0)
  case atStart => exact ⟨0, Nat.zero_le _, ⟨_, rfl⟩, H0⟩
  case round =>
    obtain ⟨k, hk, ⟨b, rfl⟩, JK⟩ := hrel
    obtain ⟨t1, t2, t3⟩ := HJT.out k wr JK.out
    obtain ⟨a0, a1, a2, a3, a4, ha⟩ : ∃ a0 a1 a2 a3 a4, dst sp br s k = (a0, a1, a2, a3, a4) := ⟨_, _, _, _, _, rfl⟩
    have hm : (dcnt sp br K (rdSt wr td)).getD 0 = T - k := by
      rw [rdSt_eq t1]
      cases k with
      | zero => show (dcnt sp br K s).getD 0 = _; rw [HT.out]; rfl
      | succ k => rw [(HR.out.2 k (by omega)).2.2]; rfl
    have HM := Aside0.mk hm
    clear hm
    have HA := Aside0.mk ha
    simp only [ha, dcells] at t1
    have d0 : wr.cell? ⟨td, 0, none⟩ = some (.int .i64 a0) := (blk_cell t1 0).trans rfl
    have d1 : wr.cell? ⟨td, 1, none⟩ = some (.int .i64 a1) := (blk_cell t1 1).trans rfl
    have d2 : wr.cell? ⟨td, 2, none⟩ = some (.int .i64 a2) := (blk_cell t1 2).trans rfl
    have d3 : wr.cell? ⟨td, 3, none⟩ = some (.int .i64 a3) := (blk_cell t1 3).trans rfl
    have d4 : wr.cell? ⟨td, 4, none⟩ = some (.int .i64 a4) := (blk_cell t1 4).trans rfl
    have r0 : wr.cell? ⟨trr, 0, none⟩ = some (.int .i64 sp) := (blk_cell t3 0).trans rfl
    have r1 : wr.cell? ⟨trr, 1, none⟩ = some (.int .i64 br) := (blk_cell t3 1).trans rfl
    have st0 : wr.cell? ⟨tst, 0, none⟩ = some (.func (.func 58) #[] #[]) := (blk_cell t2 0).trans rfl
    clear t2 t3
    by_cases hlt : k < T
    · obtain ⟨q1, ⟨r, hr⟩, q3⟩ := HR.out.2 k hlt
      obtain ⟨b0, b1, b2, b3, b4, mb⟩ := r
      have hn : dst sp br s (k + 1) = (b0, b1, b2, b3, b4) := by rw [dst, dnx, hr]
      have hmo : dmo sp br (dst sp br s k) = mb := by rw [dmo, hr]
      have p3 : (a3 != 0) = true := by rw [ha] at q1; exact bne_iff_ne.mpr q1
      have hr2 : drive_rule_tick.f 20 sp br a0 a1 a2 a3 a4 = some (b0, b1, b2, b3, b4, mb) := by rw [ha] at hr; exact hr
      have H58 := Aside0.mk hr2
      have hs := fun W => HJS.out k W hlt
      have hy := fun W => HY.out k W hlt
      simp only [hn, hmo, dcells] at hs hy
      have HS := Aside0.mk hs
      have HYY := Aside0.mk hy
      have HN := Aside0.mk hn
      have HQ3 := Aside0.mk q3
      clear hs hy q1 q3 hr hr2 hn hmo ha
      gi_wp2_with (refine ⟨trivial, ?_⟩; gi_at_call 58; refine (callsIn_wide.2 (drive_rule_tick.calls 20 _ _ _ _ _ _ _ _ _ _ _ _ _ _ H58.out)).mono ?_; rintro e w1 ⟨rfl, hb⟩; have k1 := blk_below t1 hb; have g0 : w1.cell? ⟨td, 0, none⟩ = some (.int .i64 a0) := (blk_cell k1 0).trans rfl; have g1 : w1.cell? ⟨td, 1, none⟩ = some (.int .i64 a1) := (blk_cell k1 1).trans rfl; have g2 : w1.cell? ⟨td, 2, none⟩ = some (.int .i64 a2) := (blk_cell k1 2).trans rfl; have g3 : w1.cell? ⟨td, 3, none⟩ = some (.int .i64 a3) := (blk_cell k1 3).trans rfl; have g4 : w1.cell? ⟨td, 4, none⟩ = some (.int .i64 a4) := (blk_cell k1 4).trans rfl; have f0 := blk_frozen k1 0; have f1 := blk_frozen k1 1; have f2 := blk_frozen k1 2; have f3 := blk_frozen k1 3; have f4 := blk_frozen k1 4; obtain ⟨fn, tmps, assign, body, hy, hR⟩ := HYY.out _ (HS.out w1 (HJB.out _ _ _ JK.out hb)))
      refine hR.mono ?_
      rintro e W3 (⟨rfl, hJ3⟩ | ⟨rfl, hx⟩)
      · have hm3 : (dcnt sp br K (rdSt W3 td)).getD 0 < (dcnt sp br K (rdSt wr td)).getD 0 := by
          rw [HM.out, rdSt_eq (HJT.out (k + 1) W3 hJ3).1, HQ3.out]
          show T - (k + 1) < T - k
          omega
        have HM3 := Aside0.mk hm3
        have J3 := Aside0.mk hJ3
        clear hm3 hJ3 hR hy
        gi_wp2
        exact ⟨⟨k + 1, hlt, ⟨_, rfl⟩, J3⟩, HM3.out⟩
      · gi_wp2
        refine bodyPost_ret (results_none rfl _ _ _) rfl ?_
        exact ⟨⟨_, rfl⟩, .inr hx⟩
    · obtain rfl : k = T := by omega
      have p3 : (a3 != 0) = false := by have := HR.out.1; rw [ha] at this; exact bne_eq_false_iff_eq.mpr this
      gi_wp2
      go_end0
      exact ⟨⟨_, rfl⟩, .inl JK.out⟩
end Go.Proofs.Ytckaofgkepcibaa.P
