/- Package cycle: a tick of a run in memory, and the iterator over the numbers of its ticks. -/
import Derived.Test.YtmjmdnpenpdmhaaYc
import Derived.Deep.RegionLaw
import Derived.Test.YtmjmdnpenpdmhaaRo
namespace Go.Proofs.Ytmjmdnpenpdmhaa.P
open Go.RowKit Go.Proofs.YtmjmdnpenpdmhaaW.PrintWords Go.Proofs.YtmjmdnpenpdmhaaW.PrintLast Go.Proofs.YtmjmdnpenpdmhaaW.PrintMore
set_option linter.unusedVariables false
set_option linter.unusedSimpArgs false

theorem kept_store6 (W : World) (g : Nat) (u0 u1 u2 u3 u4 u5 : Value) : Kept W ((((((W.setCell ⟨g, 0, none⟩ u0).setCell ⟨g, 1, none⟩ u1).setCell ⟨g, 2, none⟩ u2).setCell ⟨g, 3, none⟩ u3).setCell ⟨g, 4, none⟩ u4).setCell ⟨g, 5, none⟩ u5) (fun k => k = g) := by
  refine Kept.setCell (S := fun k => k = g) (p := ⟨g, 5, none⟩) ?_ (Or.inl rfl) _
  refine Kept.setCell (S := fun k => k = g) (p := ⟨g, 4, none⟩) ?_ (Or.inl rfl) _
  refine Kept.setCell (S := fun k => k = g) (p := ⟨g, 3, none⟩) ?_ (Or.inl rfl) _
  refine Kept.setCell (S := fun k => k = g) (p := ⟨g, 2, none⟩) ?_ (Or.inl rfl) _
  refine Kept.setCell (S := fun k => k = g) (p := ⟨g, 1, none⟩) ?_ (Or.inl rfl) _
  exact kept_cell W g 0 u0
theorem below_store6 {m : Nat} {w W : World} {g : Nat} (h : Below m w W) (hg : m ≤ g) (u0 u1 u2 u3 u4 u5 : Value) : Below m w ((((((W.setCell ⟨g, 0, none⟩ u0).setCell ⟨g, 1, none⟩ u1).setCell ⟨g, 2, none⟩ u2).setCell ⟨g, 3, none⟩ u3).setCell ⟨g, 4, none⟩ u4).setCell ⟨g, 5, none⟩ u5) :=
  (((((h.setCell hg _).setCell hg _).setCell hg _).setCell hg _).setCell hg _).setCell hg _
theorem blk_store6 {W : World} {g : Nat} {t : TypeId} {x0 x1 x2 x3 x4 x5 y6 y7 y8 : Value} (h : W.heap[g]? = some (.cells #[x0, x1, x2, x3, x4, x5, y6, y7, y8] t)) (u0 u1 u2 u3 u4 u5 : Value) :
    ((((((W.setCell ⟨g, 0, none⟩ u0).setCell ⟨g, 1, none⟩ u1).setCell ⟨g, 2, none⟩ u2).setCell ⟨g, 3, none⟩ u3).setCell ⟨g, 4, none⟩ u4).setCell ⟨g, 5, none⟩ u5).heap[g]? = some (.cells #[u0, u1, u2, u3, u4, u5, y6, y7, y8] t) := (blk_set (blk_set (blk_set (blk_set (blk_set (blk_set h 0 _) 1 _) 2 _) 3 _) 4 _) 5 _).trans rfl
set_option maxHeartbeats 4000000 in
/-- A tick of a run. -/
theorem runtick_calls (rb so : Nat) (p x l t a : Int) (ps : Bool) (wd dw rt : Int) (o : Bool) (v : Value) (n base : Nat) (xs : List Int) (w : World)
    (hr : w.heap[rb]? = some (.cells #[.int .i64 p, .int .i64 x, .int .i64 l, .int .i64 t, .int .i64 a, .bool ps, .int .i64 wd, .int .i64 dw, .int .i64 rt] 72)) (hs : w.heap[so]? = some (.cells #[v] 27))
    (own : w.ownsRow base 3 1 v n (xs.map (Value.int .i64))) (hV : dV p x l t wd dw rt) (ha : 0 ≤ a ∧ a ≤ 100000) (hn : n ≤ 1000000) (hbase : base ≤ w.heap.size) (hso : so < base) (hrb : rb < base) (hrs : rb ≠ so) :
    Calls Try.prog 49 #[.pointer (some ⟨rb, 0, none⟩), .bool o, .pointer (some ⟨so, 0, none⟩)] w fun e w' => e = .returned (.tuple #[]) ∧
      w'.heap[rb]? = some (.cells #[.int .i64 (dtk p x l t wd dw rt o).1, .int .i64 (dtk p x l t wd dw rt o).2.1, .int .i64 (dtk p x l t wd dw rt o).2.2.1, .int .i64 (dtk p x l t wd dw rt o).2.2.2, .int .i64 (a + 1), .bool ps, .int .i64 wd, .int .i64 dw, .int .i64 rt] 72) ∧
      (∃ v', w'.heap[so]? = some (.cells #[v'] 27) ∧ w'.ownsRow base 3 1 v' (n + 1) ((xs ++ [(dtk p x l t wd dw rt o).2.1]).map (Value.int .i64))) ∧ Kept w w' (fun k => k = rb ∨ k = so ∨ base ≤ k) ∧ ∀ m, m ≤ rb → m ≤ so → Below m w w' := by
  have hmf : ∀ (fn : Fn) (first cap : Array Value) (w : World), (Instr.makeFunc fn first cap).run Try.prog w = .ok (.func fn first cap) w := fun _ _ _ _ => rfl
  have HT := Aside0.mk (ctick_ok 0 a ps o hV ha)
  obtain ⟨q, hq⟩ : ∃ q, q = dtk p x l t wd dw rt o := ⟨_, rfl⟩
  rw [← hq] at HT ⊢
  obtain ⟨q0, q1, q2, q3⟩ := q
  dsimp only at HT ⊢
  have b1 := blk_alloc (blk_alloc hr (.cells #[.pointer (some ⟨rb, 0, none⟩)] 70)) (.cells #[.pointer (some ⟨so, 0, none⟩)] 77)
  have b2 := blk_alloc (blk_new w (.cells #[.pointer (some ⟨rb, 0, none⟩)] 70)) (.cells #[.pointer (some ⟨so, 0, none⟩)] 77)
  have b3 : ((w.alloc (.cells #[.pointer (some ⟨rb, 0, none⟩)] 70)).alloc (.cells #[.pointer (some ⟨so, 0, none⟩)] 77)).heap[w.heap.size + 1]? = _ := blk_newN _ _ (by simp)
  have b4 := blk_alloc (blk_alloc hs (.cells #[.pointer (some ⟨rb, 0, none⟩)] 70)) (.cells #[.pointer (some ⟨so, 0, none⟩)] 77)
  have bo : ((w.alloc (.cells #[.pointer (some ⟨rb, 0, none⟩)] 70)).alloc (.cells #[.pointer (some ⟨so, 0, none⟩)] 77)).ownsRow base 3 1 v n (xs.map (Value.int .i64)) := (own.alloc _).alloc _
  have hsz : ((w.alloc (.cells #[.pointer (some ⟨rb, 0, none⟩)] 70)).alloc (.cells #[.pointer (some ⟨so, 0, none⟩)] 77)).heap.size = w.heap.size + 2 := by simp
  have k0 := (Kept.refl w (fun k => k = rb ∨ k = so ∨ base ≤ k)).alloc (.cells #[.pointer (some ⟨rb, 0, none⟩)] 70) |>.alloc (.cells #[.pointer (some ⟨so, 0, none⟩)] 77)
  have l0 : ∀ m, m ≤ rb → m ≤ so → Below m w ((w.alloc (.cells #[.pointer (some ⟨rb, 0, none⟩)] 70)).alloc (.cells #[.pointer (some ⟨so, 0, none⟩)] 77)) := fun m h1 h2 => ((Below.refl m w).alloc (by omega) _).alloc (by simp; omega) _
  have hrl := blk_lt hr
  have hsl := blk_lt hs
  go_enter_defers Try.func49, Try.ntmps49
  go_wp2
  generalize (w.alloc (.cells #[.pointer (some ⟨rb, 0, none⟩)] 70)).alloc (.cells #[.pointer (some ⟨so, 0, none⟩)] 77) = W0 at b1 b2 b3 b4 bo hsz k0 l0 ⊢
  have c0 : W0.cell? ⟨rb, 0, none⟩ = some (.int .i64 p) := (blk_cell b1 0).trans rfl
  have c1 : W0.cell? ⟨rb, 1, none⟩ = some (.int .i64 x) := (blk_cell b1 1).trans rfl
  have c2 : W0.cell? ⟨rb, 2, none⟩ = some (.int .i64 l) := (blk_cell b1 2).trans rfl
  have c3 : W0.cell? ⟨rb, 3, none⟩ = some (.int .i64 t) := (blk_cell b1 3).trans rfl
  have c4 : W0.cell? ⟨rb, 4, none⟩ = some (.int .i64 a) := (blk_cell b1 4).trans rfl
  have c5 : W0.cell? ⟨rb, 5, none⟩ = some (.bool ps) := (blk_cell b1 5).trans rfl
  have c6 : W0.cell? ⟨rb, 6, none⟩ = some (.int .i64 wd) := (blk_cell b1 6).trans rfl
  have c7 : W0.cell? ⟨rb, 7, none⟩ = some (.int .i64 dw) := (blk_cell b1 7).trans rfl
  have c8 : W0.cell? ⟨rb, 8, none⟩ = some (.int .i64 rt) := (blk_cell b1 8).trans rfl
  have cc : W0.cell? ⟨w.heap.size, 0, none⟩ = some (.pointer (some ⟨rb, 0, none⟩)) := (blk_cell b2 0).trans rfl
  refine wp_region_noPanic ?_
  refine wp_region_J (fun W => W.cell? ⟨rb, 0, none⟩ = some (.int .i64 p) ∧ W.cell? ⟨rb, 1, none⟩ = some (.int .i64 x) ∧ W.cell? ⟨rb, 2, none⟩ = some (.int .i64 l) ∧ W.cell? ⟨rb, 3, none⟩ = some (.int .i64 t) ∧ W.cell? ⟨rb, 4, none⟩ = some (.int .i64 a) ∧ W.cell? ⟨rb, 5, none⟩ = some (.bool ps) ∧ W.cell? ⟨rb, 6, none⟩ = some (.int .i64 wd) ∧ W.cell? ⟨rb, 7, none⟩ = some (.int .i64 dw) ∧ W.cell? ⟨rb, 8, none⟩ = some (.int .i64 rt) ∧ W.cell? ⟨w.heap.size, 0, none⟩ = some (.pointer (some ⟨rb, 0, none⟩))) 16 (by kernel_rfl) ⟨c0, c1, c2, c3, c4, c5, c6, c7, c8, cc⟩ (fun hS => ?_)
  repeat ((first | refine tk 0 (some 8) ?_ | refine tk 1 (some 9) ?_ | refine tk0 2 (some 10) ?_ | refine tk0 3 (some 11) ?_ | refine tk 4 (some 12) ?_ | refine tk 5 (some 13) ?_ | refine tk0 6 (some 14) ?_ | refine tk0 7 (some 15) ?_ | refine tk 8 (some 16) ?_ | refine tk0 9 (some 17) ?_ | refine tk0 11 (some 7) ?_ | refine tk0 12 (some 19) ?_ | refine tk0 13 (some 20) ?_ | refine tk0 14 (some 21) ?_ | refine tk0 15 (some 22) ?_); simp only [Act.put, List.setIfInBounds_toArray, List.set_cons_zero, List.set_cons_succ])
  refine wpAnyJ_one (i := 10) (by kernel_rfl) rfl (fun K hK => ?_)
  go_simp
  go_at_call 35
  refine (cycle_tick.calls 2 _ _ _ _ _ _ _ _ _ _ _ _ _ _ _ _ _ _ HT.out).mono ?_
  rintro e w1 ⟨rfl, hb⟩
  have d1 := blk_below (blk_drew b1) hb
  have d2 := blk_below (blk_drew b2) hb
  have d4 := blk_below (blk_drew b4) hb
  refine hK.out _ _ (fun _ => ⟨(blk_cell d1 0).trans rfl, (blk_cell d1 1).trans rfl, (blk_cell d1 2).trans rfl, (blk_cell d1 3).trans rfl, (blk_cell d1 4).trans rfl, (blk_cell d1 5).trans rfl, (blk_cell d1 6).trans rfl, (blk_cell d1 7).trans rfl, (blk_cell d1 8).trans rfl, (blk_cell d2 0).trans rfl⟩) (fun hS => ?_)
  have hS := hS (by decide +kernel)
  clear hK K
  try simp only [Act.put, List.setIfInBounds_toArray, List.set_cons_zero, List.set_cons_succ]
  repeat ((first | refine tk 0 (some 8) ?_ | refine tk 1 (some 9) ?_ | refine tk0 2 (some 10) ?_ | refine tk0 3 (some 11) ?_ | refine tk 4 (some 12) ?_ | refine tk 5 (some 13) ?_ | refine tk0 6 (some 14) ?_ | refine tk0 7 (some 15) ?_ | refine tk 8 (some 16) ?_ | refine tk0 9 (some 17) ?_ | refine tk0 11 (some 7) ?_ | refine tk0 12 (some 19) ?_ | refine tk0 13 (some 20) ?_ | refine tk0 14 (some 21) ?_ | refine tk0 15 (some 22) ?_); simp only [Act.put, List.setIfInBounds_toArray, List.set_cons_zero, List.set_cons_succ])
  have f0 := blk_frozen d1 0
  have f1 := blk_frozen d1 1
  have f2 := blk_frozen d1 2
  have f3 := blk_frozen d1 3
  have f4 := blk_frozen d1 4
  have f5 := blk_frozen d1 5
  obtain ⟨g0, g1, g2, g3, g4, g5, g6⟩ := hS
  refine wpAnyJ_one (i := 16) (by kernel_rfl) rfl (fun K hK => ?_)
  go_simp
  refine hK.out _ _ (fun q => absurd q (by decide +kernel)) (fun _ => ?_)
  clear hK K
  refine wpAnyJ_done (by kernel_rfl) ?_ _
  refine NoPanic.normal ?_
  have kS := kept_store6 w1 rb (.int .i64 q0) (.int .i64 q1) (.int .i64 q2) (.int .i64 q3) (.int .i64 (a + 1)) (.bool ps)
  have s1 := blk_store6 d1 (.int .i64 q0) (.int .i64 q1) (.int .i64 q2) (.int .i64 q3) (.int .i64 (a + 1)) (.bool ps)
  have s2 := blk_kept d2 kS (by omega)
  have s3 := blk_kept (blk_below (blk_drew b3) hb) kS (by omega)
  have s4 := blk_kept d4 kS (Ne.symm hrs)
  have so' := own_kept (own_kept (S := fun _ => False) (show W0.drew.ownsRow base 3 1 v n (xs.map (Value.int .i64)) from bo) (Kept.of_below hb _) (fun _ _ h => h)) kS (fun k hk e => by have : k = rb := e; omega)
  have kW : Kept w1 _ (fun k => k = rb ∨ k = so ∨ base ≤ k) := kS.mono (fun k e => .inl e)
  have k1 : Kept w _ (fun k => k = rb ∨ k = so ∨ base ≤ k) := ((k0.drew).below hb).then_ kW (fun k e => .inl e)
  have hs1 := hb.size
  have hs2 := kS.1
  have lS : ∀ m, m ≤ rb → m ≤ so → Below m w _ := fun m h1 h2 => below_store6 ((((l0 m h1 h2).drew).trans (hb.mono (show m ≤ W0.drew.heap.size by show m ≤ W0.heap.size; omega)))) h1 (.int .i64 q0) (.int .i64 q1) (.int .i64 q2) (.int .i64 q3) (.int .i64 (a + 1)) (.bool ps)
  have hsw : w.heap.size + 2 ≤ w1.heap.size := by have : W0.heap.size ≤ w1.heap.size := hs1; omega
  generalize ((((((w1.setCell ⟨rb, 0, none⟩ (.int .i64 q0)).setCell ⟨rb, 1, none⟩ (.int .i64 q1)).setCell ⟨rb, 2, none⟩ (.int .i64 q2)).setCell ⟨rb, 3, none⟩ (.int .i64 q3)).setCell ⟨rb, 4, none⟩ (.int .i64 (a + 1))).setCell ⟨rb, 5, none⟩ (.bool ps)) = W2 at kS s1 s2 s3 s4 so' kW k1 lS hs2 ⊢
  refine leaves_cons (f := 61) (args := #[.pointer (some ⟨w.heap.size + 1, 0, none⟩), .pointer (some ⟨w.heap.size, 0, none⟩)]) (by simp) (by simp [go_sem]) ?_
  refine (tick1_calls (w.heap.size + 1) w.heap.size so rb _ _ _ _ _ _ _ _ q1 v n base xs .returning W2 s3 s2 s1 s4 so' hn (by omega) hso hrb hrs (by omega) (by omega)).mono ?_
  rintro e u' w3 ⟨rfl, rfl, v', t1, t2, t3, t4⟩
  have t5 := blk_kept s1 t3 (by omega)
  exact ⟨_, results_none rfl _ _ _, rfl, t5, ⟨v', t1, t2⟩, k1.then_ t3 (fun k e => .inl (.inr e)), fun m h1 h2 => (lS m h1 h2).trans (t4.mono h2)⟩
attribute [local go_sem] Oper.semAt_some

theorem cticks_calls (rb : Nat) (n : Int) (w : World) :
    Calls Try.prog 48 #[.pointer (some ⟨rb, 0, none⟩), .int .i64 n] w
      fun e w' => e = .returned (.func (.func 60) #[] #[.pointer (some ⟨w.heap.size, 0, none⟩)]) ∧ w' = w.alloc (.cells #[.int .i64 n] 3) := by
  have hmf : ∀ (fn : Fn) (first cap : Array Value) (w : World), (Instr.makeFunc fn first cap).run Try.prog w = .ok (.func fn first cap) w := fun _ _ _ _ => rfl
  go_enter Try.func48, Try.ntmps48
  go_wp2
  go_ret
  exact ⟨rfl, rfl⟩

set_option maxHeartbeats 4000000 in
theorem citer_ok (lr tn n : Nat) (hn : n ≤ 100000) (J : Nat → World → Prop)
    (hJt : ∀ (k : Nat) (W : World), J k W → W.heap[tn]? = some (.cells #[.int .i64 n] 3))
    (hY : ∀ (k : Nat) (W1 : World), k < n → J k W1 → YieldAt Fence.wide 1 Try.prog lr #[.int .i64 k] W1 fun e W' => e = .returned (.bool true) ∧ J (k + 1) W')
    (W : World) (h0 : J 0 W) :
    CallsIn Fence.wide 2 Try.prog 60 #[.func (.yield lr) #[] #[], .pointer (some ⟨tn, 0, none⟩)] W fun e W' => (∃ v, e = .returned v) ∧ J n W' := by
  have HJT := Aside0.mk hJt
  have HY := Aside0.mk hY
  have H0 := Aside0.mk h0
  clear hY h0 hJt
  refine callsIn_of_wp Try.func60 rfl trivial ?_ rfl
  simp only [Try.ntmps60, List.size_toArray, List.length_cons, List.length_nil, Nat.reduceAdd, Nat.reduceSub, Array.replicate_succ, Array.replicate_zero, List.push_toArray, List.append_toArray, List.nil_append, List.cons_append]
  gi_wp2
  gi_loopw [3] (fun v wr => ∃ k : Nat, k ≤ n ∧ v = .int .i64 k ∧ Aside0 (J k wr)) (fun v _ => n - (intOf v).toNat)
  case atStart => exact ⟨0, Nat.zero_le _, rfl, H0⟩
  case round =>
    obtain ⟨k, hk, rfl, JK⟩ := hrel
    have t1 := HJT.out k wr JK.out
    have r0 : wr.cell? ⟨tn, 0, none⟩ = some (.int .i64 n) := (blk_cell t1 0).trans rfl
    clear t1
    by_cases hlt : k < n
    · have p3 : decide ((k : Int) < (n : Int)) = true := decide_eq_true (by omega)
      have hy := HY.out k wr hlt JK.out
      obtain ⟨fn, tmps, assign, body, hy, hR⟩ := hy
      gi_wp2_with fail
      refine hR.mono ?_
      rintro e W3 ⟨rfl, hJ3⟩
      have J3 := Aside0.mk hJ3
      clear hJ3 hR hy
      gi_wp2
      exact ⟨⟨k + 1, hlt, by simp, J3⟩, by simp [intOf]; omega⟩
    · obtain rfl : k = n := by omega
      have p3 : decide ((k : Int) < (k : Int)) = false := decide_eq_false (by omega)
      gi_wp2
      refine ⟨fun f hf => (by cases hf), ?_⟩
      gi_wp2
      go_end0
      exact ⟨⟨_, rfl⟩, JK.out⟩

set_option maxHeartbeats 4000000 in
theorem pan_rule (wd dw rt : Int) (A1 : Option Addr) (n1 c1 : Nat) (a : Int) (f : Bool) (w : World) (h : ¬ dRule wd dw rt) :
    Calls Try.prog 32 #[.agg #[.int .i64 wd, .int .i64 dw, .int .i64 rt], .slice A1 n1 c1, .int .i64 a, .bool f] w
      fun en w' => en = .returned (.tuple #[.slice none 0 0, .int .i64 2]) ∧ Below w.heap.size w w' := by
  have HC : Aside0 (cycle_worst.f wd dw rt = some (0, 2)) := ⟨by rw [worst_eq, if_neg h]⟩
  go_enter Try.func32, Try.ntmps32
  go_wp2_with (go_at_call 34; refine (cycle_worst.calls wd dw rt 0 2 _ HC.out).mono ?_; rintro e w1 ⟨rfl, hb⟩; have HB := Aside0.mk (below_step (below_alloc (below_alloc (below_alloc (below_alloc (Below.refl _ _) _) _) _) _) hb); clear hb)
  exact bodyPost_ret (v := .tuple #[.slice none 0 0, .int .i64 2]) (by simp [results, Try.results32, go_sem]) rfl ⟨rfl, HB.out⟩

/-- What is known of the parameters' variables behind the call of worst. -/
structure CPar (w w1 : World) (wd dw rt : Int) (A1 : Option Addr) (n1 c1 : Nat) (a : Int) (f : Bool) : Prop where
  below : Below w.heap.size w w1
  size : w.heap.size + 4 ≤ w1.heap.size
  c0 : w1.heap[w.heap.size]? = some (.cells #[.int .i64 wd, .int .i64 dw, .int .i64 rt] 23)
  c1 : w1.heap[w.heap.size + 1]? = some (.cells #[.slice A1 n1 c1] 24)
  c2 : w1.heap[w.heap.size + 1 + 1]? = some (.cells #[.int .i64 a] 3)
  c3 : w1.heap[w.heap.size + 1 + 1 + 1]? = some (.cells #[.bool f] 4)
theorem CPar.of {w w1 : World} {wd dw rt : Int} {A1 : Option Addr} {n1 c1 : Nat} {a : Int} {f : Bool}
    (hb : Below ((((w.alloc (.cells #[.int .i64 wd, .int .i64 dw, .int .i64 rt] 23)).alloc (.cells #[.slice A1 n1 c1] 24)).alloc (.cells #[.int .i64 a] 3)).alloc (.cells #[.bool f] 4)).heap.size ((((w.alloc (.cells #[.int .i64 wd, .int .i64 dw, .int .i64 rt] 23)).alloc (.cells #[.slice A1 n1 c1] 24)).alloc (.cells #[.int .i64 a] 3)).alloc (.cells #[.bool f] 4)) w1) : CPar w w1 wd dw rt A1 n1 c1 a f :=
  { below := below_step (below_alloc (below_alloc (below_alloc (below_alloc (Below.refl _ _) _) _) _) _) hb
    size := by have := hb.size; simp at this; omega
    c0 := blk_below (blk_alloc (blk_alloc (blk_alloc (blk_newN _ _ (by simp)) _) _) _) hb
    c1 := blk_below (blk_alloc (blk_alloc (blk_newN _ _ (by simp)) _) _) hb
    c2 := blk_below (blk_alloc (blk_newN _ _ (by simp)) _) hb
    c3 := blk_below (blk_newN _ _ (by simp)) hb }

set_option maxHeartbeats 4000000 in
theorem pan_long (wd dw rt : Int) (A1 : Option Addr) (n1 c1 : Nat) (a : Int) (f : Bool) (w : World) (h : dRule wd dw rt) (hl : (n1 : Int) > cwst wd dw rt) (hm : n1 < 1000000000000000000) :
    Calls Try.prog 32 #[.agg #[.int .i64 wd, .int .i64 dw, .int .i64 rt], .slice A1 n1 c1, .int .i64 a, .bool f] w
      fun en w' => en = .returned (.tuple #[.slice none 0 0, .int .i64 4]) ∧ Below w.heap.size w w' := by
  have HC : Aside0 (cycle_worst.f wd dw rt = some (cwst wd dw rt, 0)) := ⟨by rw [worst_eq, if_pos h]⟩
  have hb1 : decide ((n1 : Int) > cwst wd dw rt) = true := decide_eq_true hl
  have hb2 : decide (cwst wd dw rt < (n1 : Int)) = true := decide_eq_true hl
  go_enter Try.func32, Try.ntmps32
  go_wp2_with (go_at_call 34; refine (cycle_worst.calls wd dw rt _ 0 _ HC.out).mono ?_; rintro e w1 ⟨rfl, hb⟩; have hp := CPar.of hb; have s0 : w1.cell? ⟨w.heap.size + 1, 0, none⟩ = some (.slice A1 n1 c1) := (blk_cell hp.c1 0).trans rfl; have HB := Aside0.mk hp.below; clear hb hp)
  exact bodyPost_ret (v := .tuple #[.slice none 0 0, .int .i64 4]) (by simp [results, Try.results32, go_sem]) rfl ⟨rfl, HB.out⟩

set_option maxHeartbeats 4000000 in
theorem pan_range (wd dw rt : Int) (A1 : Option Addr) (n1 c1 : Nat) (a : Int) (w : World) (h : dRule wd dw rt) (hl : ¬ (n1 : Int) > cwst wd dw rt) (ha : a < 0 ∨ a ≥ cwst wd dw rt) :
    Calls Try.prog 32 #[.agg #[.int .i64 wd, .int .i64 dw, .int .i64 rt], .slice A1 n1 c1, .int .i64 a, .bool true] w
      fun en w' => en = .returned (.tuple #[.slice none 0 0, .int .i64 2]) ∧ Below w.heap.size w w' := by
  have HC : Aside0 (cycle_worst.f wd dw rt = some (cwst wd dw rt, 0)) := ⟨by rw [worst_eq, if_pos h]⟩
  have hb1 : decide ((n1 : Int) > cwst wd dw rt) = false := decide_eq_false hl
  have hb2 : decide (cwst wd dw rt < (n1 : Int)) = false := decide_eq_false hl
  by_cases c : a < 0
  · have hc1 : decide (a < 0) = true := decide_eq_true c
    clear ha
    go_enter Try.func32, Try.ntmps32
    go_wp2_with (go_at_call 34; refine (cycle_worst.calls wd dw rt _ 0 _ HC.out).mono ?_; rintro e w1 ⟨rfl, hb⟩; have hp := CPar.of hb; have s0 : w1.cell? ⟨w.heap.size + 1, 0, none⟩ = some (.slice A1 n1 c1) := (blk_cell hp.c1 0).trans rfl; have s1 : w1.cell? ⟨w.heap.size + 1 + 1, 0, none⟩ = some (.int .i64 a) := (blk_cell hp.c2 0).trans rfl; have s2 : w1.cell? ⟨w.heap.size + 1 + 1 + 1, 0, none⟩ = some (.bool true) := (blk_cell hp.c3 0).trans rfl; have HB := Aside0.mk hp.below; clear hb hp)
    exact bodyPost_ret (v := .tuple #[.slice none 0 0, .int .i64 2]) (by simp [results, Try.results32, go_sem]) rfl ⟨rfl, HB.out⟩
  · have hc1 : decide (a < 0) = false := decide_eq_false c
    have hc2 : decide (a ≥ cwst wd dw rt) = true := decide_eq_true (ha.resolve_left c)
    have hc3 : decide (cwst wd dw rt ≤ a) = true := decide_eq_true (ha.resolve_left c)
    clear ha
    go_enter Try.func32, Try.ntmps32
    go_wp2_with (go_at_call 34; refine (cycle_worst.calls wd dw rt _ 0 _ HC.out).mono ?_; rintro e w1 ⟨rfl, hb⟩; have hp := CPar.of hb; have s0 : w1.cell? ⟨w.heap.size + 1, 0, none⟩ = some (.slice A1 n1 c1) := (blk_cell hp.c1 0).trans rfl; have s1 : w1.cell? ⟨w.heap.size + 1 + 1, 0, none⟩ = some (.int .i64 a) := (blk_cell hp.c2 0).trans rfl; have s2 : w1.cell? ⟨w.heap.size + 1 + 1 + 1, 0, none⟩ = some (.bool true) := (blk_cell hp.c3 0).trans rfl; have HB := Aside0.mk hp.below; clear hb hp)
    exact bodyPost_ret (v := .tuple #[.slice none 0 0, .int .i64 2]) (by simp [results, Try.results32, go_sem]) rfl ⟨rfl, HB.out⟩
end Go.Proofs.Ytmjmdnpenpdmhaa.P
