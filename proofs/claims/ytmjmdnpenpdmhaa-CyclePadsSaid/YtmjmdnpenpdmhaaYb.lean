/- Package cycle: the panels behind the ticks of a cycle that is well asked for. -/
import Derived.Test.YtmjmdnpenpdmhaaYt
namespace Go.Proofs.Ytmjmdnpenpdmhaa.P
open Go.RowKit Go.Proofs.YtmjmdnpenpdmhaaW.PrintWords Go.Proofs.YtmjmdnpenpdmhaaW.PrintLast Go.Proofs.YtmjmdnpenpdmhaaW.PrintMore
set_option linter.unusedVariables false
set_option linter.unusedSimpArgs false
attribute [local go_sem] Oper.semAt_some

/-- Between the ticks: k of them are done. -/
structure CSt (w : World) (A : Nat) (wd dw rt : Int) (A1 : Option Addr) (c1 : Nat) (l : List Bool) (a : Int) (f : Bool) (n : Nat) (k : Nat) (W : World) : Prop where
  below : Below w.heap.size w W
  size : A + 7 ≤ W.heap.size
  c0 : W.heap[w.heap.size]? = some (.cells #[.int .i64 wd, .int .i64 dw, .int .i64 rt] 23)
  c1 : W.heap[w.heap.size + 1]? = some (.cells #[.slice A1 l.length c1] 24)
  c2 : W.heap[w.heap.size + 1 + 1]? = some (.cells #[.int .i64 a] 3)
  c3 : W.heap[w.heap.size + 1 + 1 + 1]? = some (.cells #[.bool f] 4)
  run : ∃ ps, W.heap[A + 1]? = some (.cells #[.int .i64 (cst wd dw rt l a f k).1, .int .i64 (cst wd dw rt l a f k).2.1, .int .i64 (cst wd dw rt l a f k).2.2.1, .int .i64 (cst wd dw rt l a f k).2.2.2, .int .i64 k, .bool ps, .int .i64 wd, .int .i64 dw, .int .i64 rt] 72)
  cp : W.heap[A + 2]? = some (.cells #[.pointer (some ⟨A + 1, 0, none⟩)] 70)
  out : ∃ v, W.heap[A + 3]? = some (.cells #[v] 27) ∧ W.ownsRow (A + 7) 3 1 v k ((cpl wd dw rt l a f k).map (Value.int .i64))
  cn : W.heap[A + 4]? = some (.cells #[.int .i64 n] 3)
section
variable {w : World} {A : Nat} {wd dw rt : Int} {A1 : Option Addr} {c1 : Nat} {l : List Bool} {a : Int} {f : Bool} {n k : Nat} {W W2 : World}
theorem CSt.kept (h : CSt w A wd dw rt A1 c1 l a f n k W) (hk : Kept W W2 (fun k => k = A + 6)) (hbl : Below w.heap.size w W2) (hb : w.heap.size + 4 ≤ A) : CSt w A wd dw rt A1 c1 l a f n k W2 := by
  obtain ⟨ps, hr⟩ := h.run
  obtain ⟨v, hv1, hv2⟩ := h.out
  exact { below := hbl, size := Nat.le_trans h.size hk.1, c0 := blk_kept h.c0 hk (by omega), c1 := blk_kept h.c1 hk (by omega), c2 := blk_kept h.c2 hk (by omega), c3 := blk_kept h.c3 hk (by omega), run := ⟨ps, blk_kept hr hk (by omega)⟩, cp := blk_kept h.cp hk (by omega),
          out := ⟨v, blk_kept hv1 hk (by omega), own_kept hv2 hk (fun k hk2 hk3 => by omega)⟩, cn := blk_kept h.cn hk (by omega) }
theorem CSt.step (h : CSt w A wd dw rt A1 c1 l a f n k W) (hk : Below W.heap.size W W2) (hb : w.heap.size + 4 ≤ A) : CSt w A wd dw rt A1 c1 l a f n k W2 := h.kept (Kept.of_below hk _) (below_step h.below hk) hb
theorem CSt.putl (h : CSt w A wd dw rt A1 c1 l a f n k W) (o : Obj) (hb : w.heap.size + 4 ≤ A) : CSt w A wd dw rt A1 c1 l a f n k (W.putObj (A + 6) o) := h.kept (kept_putObj _ _ _) (below_putObj h.below _ _ (by omega) h.below.size) hb
end
/-- Behind a round. -/
structure CPost (w : World) (A : Nat) (wd dw rt : Int) (A1 : Option Addr) (c1 : Nat) (l : List Bool) (a : Int) (f : Bool) (n : Nat) (k : Nat) (W1 W : World) : Prop where
  st : CSt w A wd dw rt A1 c1 l a f n (k + 1) W

theorem own_base {base base2 e size n : Nat} {v : Value} {xs : List Value} {W : World} (h : W.ownsRow base e size v n xs) (hb : base2 ≤ base) : W.ownsRow base2 e size v n xs :=
  ⟨h.1, h.2.imp id fun ⟨g, cap, cur, h1, h2, r⟩ => ⟨g, cap, cur, h1, Nat.le_trans hb h2, r⟩⟩
set_option maxHeartbeats 4000000 in
theorem pan_goodF (wd dw rt : Int) (A1 : Option Addr) (c1 : Nat) (l : List Bool) (a : Int) (w : World) (hr1 : Kd.C Kd.bool w A1 l.length l) (h : dRule wd dw rt) (hl : ¬ (l.length : Int) > cwst wd dw rt) :
    Calls Try.prog 32 #[.agg #[.int .i64 wd, .int .i64 dw, .int .i64 rt], .slice A1 l.length c1, .int .i64 a, .bool false] w
      fun en w' => ∃ v0_ : Value, en = .returned (.tuple #[v0_, .int .i64 0]) ∧ Kd.R (Kd.int .i64) 3 w' w.heap.size (fun _ => True) v0_ (cpl wd dw rt l a false (cwst wd dw rt).toNat) ∧ Below w.heap.size w w' := by
  have HC : Aside0 (cycle_worst.f wd dw rt = some (cwst wd dw rt, 0)) := ⟨by rw [worst_eq, if_pos h]⟩
  have HG : Aside0 (cycle_Begin.f 2 wd dw rt true = some (1, 0, 0, 0, 0, false, 0)) := ⟨by rw [Begin_ok 0 wd dw rt h]; rfl⟩
  have hb1 : decide ((l.length : Int) > cwst wd dw rt) = false := decide_eq_false hl
  have hb2 : decide (cwst wd dw rt < (l.length : Int)) = false := decide_eq_false hl
  have hcw := cwst_bound h
  obtain ⟨n, hn⟩ : ∃ n : Nat, cwst wd dw rt = n := ⟨(cwst wd dw rt).toNat, by omega⟩
  rw [hn] at HC hb1 hb2 ⊢
  rw [Int.toNat_natCast]
  refine (callsIn_wide (n := 3)).1 ?_
  refine callsIn_of_wp_marks Try.func32 rfl trivial ?_ rfl
  simp only [Try.ntmps32, List.size_toArray, List.length_cons, List.length_nil, Nat.reduceAdd, Nat.reduceSub, Array.replicate_succ, Array.replicate_zero, List.push_toArray, List.append_toArray, List.nil_append, List.cons_append]
  gi_wp2_with (first
    | (refine ⟨trivial, ?_⟩; gi_at_call 34; refine (callsIn_wide.2 (cycle_worst.calls wd dw rt _ 0 _ HC.out)).mono ?_; rintro e w1 ⟨rfl, hb⟩; have hp := CPar.of hb; have s0 : w1.cell? ⟨w.heap.size + 1, 0, none⟩ = some (.slice A1 l.length c1) := (blk_cell hp.c1 0).trans rfl; have s2 : w1.cell? ⟨w.heap.size + 1 + 1 + 1, 0, none⟩ = some (.bool false) := (blk_cell hp.c3 0).trans rfl; have r0 : w1.cell? ⟨w.heap.size, 0, none⟩ = some (.int .i64 wd) := (blk_cell hp.c0 0).trans rfl; have r1 : w1.cell? ⟨w.heap.size, 1, none⟩ = some (.int .i64 dw) := (blk_cell hp.c0 1).trans rfl; have r2 : w1.cell? ⟨w.heap.size, 2, none⟩ = some (.int .i64 rt) := (blk_cell hp.c0 2).trans rfl; have HP := Aside0.mk hp; clear hb hp)
    | (refine ⟨trivial, ?_⟩; gi_at_call 20; refine (callsIn_wide.2 (cycle_Begin.calls 2 _ _ _ _ _ _ _ _ _ _ _ _ HG.out)).mono ?_; rintro e w2 ⟨rfl, hb⟩; have t0 : ∀ o, (w2.alloc o).cell? ⟨w.heap.size, 0, none⟩ = some (.int .i64 wd) := fun o => (blk_cell (blk_alloc (blk_below HP.out.c0 hb) o) 0).trans rfl; have t1 : ∀ o, (w2.alloc o).cell? ⟨w.heap.size, 1, none⟩ = some (.int .i64 dw) := fun o => (blk_cell (blk_alloc (blk_below HP.out.c0 hb) o) 1).trans rfl; have t2 : ∀ o, (w2.alloc o).cell? ⟨w.heap.size, 2, none⟩ = some (.int .i64 rt) := fun o => (blk_cell (blk_alloc (blk_below HP.out.c0 hb) o) 2).trans rfl; have HB2 := Aside0.mk hb; clear hb)
    | (refine ⟨trivial, ?_⟩; gi_at_call 48; refine (callsIn_wide.2 (cticks_calls _ _ _)).mono ?_; rintro e w3 ⟨rfl, hw3⟩))
  have hcp := HP.out
  have hn4 := HB2.out.size
  have hbN : w.heap.size + 4 ≤ w2.heap.size := Nat.le_trans hcp.size hn4
  have hB2 : Below w.heap.size w w2 := below_step hcp.below HB2.out
  have hsz : w3.heap.size = w2.heap.size + 5 := by rw [hw3]; simp
  have hSt : ∀ o o2, CSt w w2.heap.size wd dw rt A1 c1 l a false n 0 ((w3.alloc o).alloc o2) := fun o o2 => by
    subst hw3
    exact {
      below := below_alloc (below_alloc (below_alloc (below_alloc (below_alloc (below_alloc (below_alloc hB2 _) _) _) _) _) _) _
      size := by simp
      c0 := blk_alloc (blk_alloc (blk_alloc (blk_alloc (blk_alloc (blk_alloc (blk_alloc (blk_below hcp.c0 HB2.out) _) _) _) _) _) _) _
      c1 := blk_alloc (blk_alloc (blk_alloc (blk_alloc (blk_alloc (blk_alloc (blk_alloc (blk_below hcp.c1 HB2.out) _) _) _) _) _) _) _
      c2 := blk_alloc (blk_alloc (blk_alloc (blk_alloc (blk_alloc (blk_alloc (blk_alloc (blk_below hcp.c2 HB2.out) _) _) _) _) _) _) _
      c3 := blk_alloc (blk_alloc (blk_alloc (blk_alloc (blk_alloc (blk_alloc (blk_alloc (blk_below hcp.c3 HB2.out) _) _) _) _) _) _) _
      run := ⟨false, blk_alloc (blk_alloc (blk_alloc (blk_alloc (blk_alloc (blk_newN _ _ (by simp)) _) _) _) _) _⟩
      cp := blk_alloc (blk_alloc (blk_alloc (blk_alloc (blk_newN _ _ (by simp)) _) _) _) _
      out := ⟨_, blk_alloc (blk_alloc (blk_alloc (blk_newN _ _ (by simp)) _) _) _, World.ownsRow_nil _ _ _ _⟩
      cn := blk_alloc (blk_alloc (blk_newN _ _ (by simp)) _) _ }
  rw [← hw3]
  clear hw3 s0 s2 r0 r1 r2 t0 t1 t2 HC HG hb1 hb2 HP HB2 hn4 hB2
  refine rf_law (gf := 60) (lb := #[.pointer (some ⟨w2.heap.size + 1 + 1 + 1 + 1, 0, none⟩)]) (encs := fun k : Nat => #[.int .i64 k]) rfl (by decide) rfl trivial (enters_of Try.func60 (by kernel_rfl) rfl) (fun _ => rfl)
    (fun k W => CSt w w2.heap.size wd dw rt A1 c1 l a false n k W ∧ k < n)
    (fun k W1 a' W2 => a' = { tmps := #[.agg #[.int .i64 wd, .int .i64 dw, .int .i64 rt], .slice A1 l.length c1, .int .i64 a, .bool false, .pointer (some ⟨w.heap.size, 0, none⟩), .pointer (some ⟨w.heap.size + 1, 0, none⟩), .pointer (some ⟨w.heap.size + 1 + 1, 0, none⟩), .pointer (some ⟨w.heap.size + 1 + 1 + 1, 0, none⟩), .slice none 0 0, .int .i64 0, .int .i64 n, .int .i64 0, .pointer (some ⟨w2.heap.size, 0, none⟩), .int .i64 0, .pointer (some ⟨w2.heap.size + 1 + 1, 0, none⟩), .pointer (some ⟨w2.heap.size + 1 + 1 + 1, 0, none⟩), .int .i64 k, .tuple #[.int .i64 n, .int .i64 0], .agg #[.int .i64 wd, .int .i64 dw, .int .i64 rt], .tuple #[.int .i64 n, .int .i64 0], .int .i64 n, .int .i64 0, .bool false, .int .i64 0, .bool false, undef, .bool false, .slice A1 l.length c1, .int .i64 ↑l.length, .int .i64 n, .bool false, .bool false, .bool false, .bool false, undef, undef, undef, undef, undef, undef, undef, .bool false, .tuple #[.agg #[.int .i64 1, .int .i64 0, .int .i64 0, .int .i64 0, .int .i64 0, .bool false], .int .i64 0], .agg #[.int .i64 wd, .int .i64 dw, .int .i64 rt], .tuple #[.agg #[.int .i64 1, .int .i64 0, .int .i64 0, .int .i64 0, .int .i64 0, .bool false], .int .i64 0], .agg #[.int .i64 1, .int .i64 0, .int .i64 0, .int .i64 0, .int .i64 0, .bool false], .int .i64 0, .agg #[.int .i64 1, .int .i64 0, .int .i64 0, .int .i64 0, .int .i64 0, .bool false], .agg #[.int .i64 wd, .int .i64 dw, .int .i64 rt], .agg #[.int .i64 1, .int .i64 0, .int .i64 0, .int .i64 0, .int .i64 0, .bool false, .int .i64 wd, .int .i64 dw, .int .i64 rt], .pointer (some ⟨w2.heap.size + 1, 0, none⟩), .pointer (some ⟨w2.heap.size + 1, 0, none⟩), .int .i64 n, .func (.func 60) #[] #[.pointer (some ⟨w2.heap.size + 1 + 1 + 1 + 1, 0, none⟩)], .int .i64 k, undef, undef, undef, undef, undef, undef, undef, undef, undef, undef, undef, undef, undef, undef, undef, undef, undef, undef, undef, undef, undef, undef, undef, undef, undef, undef, undef, undef, undef, undef, undef, undef], defers := [] } ∧ W2 = W1 ∧ CSt w w2.heap.size wd dw rt A1 c1 l a false n k W1 ∧ k < n)
    (CPost w w2.heap.size wd dw rt A1 c1 l a false n)
    (fun _ _ _ _ => False) (fun W => CSt w w2.heap.size wd dw rt A1 c1 l a false n n W) (fun _ _ => False) ?assign ?body ?iter ?done ?stop
  case assign =>
    rintro k W1 K ⟨h1, h4⟩ hK
    gi_wp2
    exact hK _ _ rfl rfl ⟨by simp, rfl, h1, h4⟩
  case iter =>
    intro R0 Rs W hW hYY
    rw [hsz] at hYY ⊢
    refine (citer_ok (w2.heap.size + 5 + 1) (w2.heap.size + 1 + 1 + 1 + 1) n (by omega) (fun k W => CSt w w2.heap.size wd dw rt A1 c1 l a false n k W ∧ W.heap[w2.heap.size + 5 + 1]? = some R0 ∧ W.heap[w2.heap.size + 5]? = some (.deferred (some []))) ?jt ?jy W ?j0).mono ?jm
    case jt =>
      rintro k W ⟨h1, _, _⟩
      exact h1.cn
    case jy =>
      rintro k W1 hk ⟨h1, h2, h3⟩
      obtain ⟨fn, tmps, assign, body, hy, hR⟩ := hYY k W1 ⟨h1, hk⟩ h2 h3
      refine ⟨fn, tmps, assign, body, hy, hR.mono ?_⟩
      rintro e W' (⟨rfl, hp, g1, g2⟩ | ⟨rfl, c, hf, _⟩)
      · exact ⟨rfl, hp.st, g1, g2⟩
      · exact hf.elim
    case j0 =>
      subst hW
      exact ⟨hSt _ _, blk_newN _ _ (by simp [hsz]), blk_alloc (blk_newN _ _ hsz.symm) _⟩
    case jm =>
      rintro e W' ⟨hv, h1, h2, h3⟩
      exact ⟨hv, h3, .inl ⟨h1, h2⟩⟩
  case done =>
    intro W Rx hE hK
    have hlr : w3.heap.size + 1 = w2.heap.size + 6 := by rw [hsz]
    rw [hlr, hsz]
    have hP := hE.putl Rx hbN
    have hK2 : (W.putObj (w2.heap.size + 6) Rx).heap[w2.heap.size + 5]? = some (.deferred (some [])) := (World.putObj_heap_other (by omega)).trans (by rw [← hsz]; exact hK)
    generalize W.putObj (w2.heap.size + 6) Rx = X at hP hK2 ⊢
    obtain ⟨v, hv, hrow⟩ := hP.out
    have c0 : X.cell? ⟨w2.heap.size + 1 + 1 + 1, 0, none⟩ = some v := (blk_cell hv 0).trans rfl
    have HP := Aside0.mk hP
    have HR := Aside0.mk hrow
    have HK := Aside0.mk hK2
    clear hSt hP hrow hE hK hK2 hlr hsz hv hr1
    repeat gi_step
    refine ⟨by simp, .inl ⟨_, _, rfl, run_takeDeferred HK.out, ?_⟩⟩
    have bZ := below_putObj HP.out.below (w2.heap.size + 5) (.deferred none) (by omega) HP.out.below.size
    have oZ := own_kept HR.out (kept_putObj X (w2.heap.size + 5) (.deferred none)) (fun j hj hj2 => by have : j = w2.heap.size + 5 := hj2; omega)
    refine ⟨.tuple #[v, .int .i64 0], by simp [results, Try.results32, go_sem], v, rfl, ?_, bZ⟩
    have hlen := cpl_len wd dw rt l a false n
    have oZ2 := own_base oZ (show w.heap.size ≤ w2.heap.size + 7 by omega)
    rw [← hlen] at oZ2
    rw [hlen] at oZ2
    exact Kd.R_of_own (by rw [hlen]; exact oZ2) (fun _ _ => trivial)
  case stop =>
    intro c W Rx h
    exact h.elim
  case body =>
    rintro k W1 a' W2 Rb ⟨rfl, rfl, h1, h4⟩
    dsimp only
    have hlr : w3.heap.size + 1 = w2.heap.size + 6 := by rw [hsz]
    rw [hlr]
    have hX := h1.putl Rb hbN
    generalize W2.putObj (w2.heap.size + 6) Rb = X at hX ⊢
    obtain ⟨ps, hrun⟩ := hX.run
    obtain ⟨v, hv, hown⟩ := hX.out
    have hC := Kd.C_below hr1 hX.below
    have hV := cst_ok h l a false k
    have hnx : cst wd dw rt l a false (k + 1) = dtk (cfo (cst wd dw rt l a false k) (false && ((k : Int) == a))).1 (cfo (cst wd dw rt l a false k) (false && ((k : Int) == a))).2.1 (cfo (cst wd dw rt l a false k) (false && ((k : Int) == a))).2.2.1 (cfo (cst wd dw rt l a false k) (false && ((k : Int) == a))).2.2.2 wd dw rt (rdOf false l k) := rfl
    obtain ⟨q0, q1, q2, q3, hq⟩ : ∃ q0 q1 q2 q3, cst wd dw rt l a false k = (q0, q1, q2, q3) := ⟨_, _, _, _, rfl⟩
    simp only [hq] at hV hnx hrun
    have hpl : cpl wd dw rt l a false (k + 1) = cpl wd dw rt l a false k ++ [(cst wd dw rt l a false (k + 1)).2.1] := rfl
    have k3 : X.cell? ⟨w.heap.size + 1 + 1 + 1, 0, none⟩ = some (.bool false) := (blk_cell hX.c3 0).trans rfl
    repeat gi_step
    refine wpIn_region_J (fun W => W.cell? ⟨w.heap.size + 1 + 1 + 1, 0, none⟩ = some (.bool false)) 99 (by kernel_rfl) (by kernel_rfl) (fun ⟨_, _, q⟩ => q) k3 (fun hS => ?_)
    repeat ((first | refine tk 0 (some 55) ?_ | refine tk0 1 (some 56) ?_ | refine tk 2 (some 57) ?_ | refine tk1 2 (some 57) ?_ | refine tk0 3 (some 58) ?_ | refine tk1 3 (some 58) ?_ | refine tk0 4 (some 59) ?_ | refine tk1 4 (some 59) ?_ | refine tk0 5 (some 60) ?_ | refine tk1 5 (some 60) ?_ | refine tk 6 (some 61) ?_ | refine tk1 6 (some 61) ?_ | refine tk 7 (some 62) ?_ | refine tk1 7 (some 62) ?_ | refine tk0 8 (some 63) ?_ | refine tk1 8 (some 63) ?_ | refine tk0 9 (some 64) ?_); simp only [Act.put, List.setIfInBounds_toArray, List.set_cons_zero, List.set_cons_succ])
    refine wpAnyJ_done (by decide +kernel) ?_ _
    repeat gi_step
    have kX : Kept X X.drew (fun j => j = w2.heap.size + 1) := (Kept.refl X _).drew
    have bX : Below w.heap.size w X.drew := hX.below.drew
    have hrun0 := blk_drew hrun
    have x1 := blk_kept hX.cp kX (by omega)
    have x2 := blk_kept hX.c1 kX (by omega)
    have x3 := blk_kept hv kX (by omega)
    have x4 := own_kept hown kX (fun j hj e => by have : j = w2.heap.size + 1 := e; omega)
    have hsX := kX.1
    have y1 : X.drew.cell? ⟨w2.heap.size + 1 + 1, 0, none⟩ = some (.pointer (some ⟨w2.heap.size + 1, 0, none⟩)) := (blk_cell x1 0).trans rfl
    have y2 : X.drew.cell? ⟨w.heap.size + 1, 0, none⟩ = some (.slice A1 l.length c1) := (blk_cell x2 0).trans rfl
    have hC0 := Kd.C_below hr1 bX
    have hXs := hX.size
    have fin : ∀ w4 : World, w4.heap[w2.heap.size + 1]? = some (.cells #[.int .i64 (dtk q0 q1 q2 q3 wd dw rt (rdOf false l k)).1, .int .i64 (dtk q0 q1 q2 q3 wd dw rt (rdOf false l k)).2.1, .int .i64 (dtk q0 q1 q2 q3 wd dw rt (rdOf false l k)).2.2.1, .int .i64 (dtk q0 q1 q2 q3 wd dw rt (rdOf false l k)).2.2.2, .int .i64 ((k : Int) + 1), .bool ps, .int .i64 wd, .int .i64 dw, .int .i64 rt] 72) →
        (∃ v', w4.heap[w2.heap.size + 1 + 1 + 1]? = some (.cells #[v'] 27) ∧ w4.ownsRow (w2.heap.size + 7) 3 1 v' (k + 1) ((cpl wd dw rt l a false k ++ [(dtk q0 q1 q2 q3 wd dw rt (rdOf false l k)).2.1]).map (Value.int .i64))) →
        Kept X.drew w4 (fun j => j = w2.heap.size + 1 ∨ j = w2.heap.size + 1 + 1 + 1 ∨ w2.heap.size + 7 ≤ j) → Below w.heap.size w w4 →
        w4.heap[w2.heap.size + 6]? = X.heap[w2.heap.size + 6]? ∧ w4.heap[w2.heap.size + 5]? = X.heap[w2.heap.size + 5]? ∧ ∀ Ra, CPost w w2.heap.size wd dw rt A1 c1 l a false n k W2 (w4.putObj (w2.heap.size + 6) Ra) := by
      intro w4 u1 u2 u3 u4
      have kA : Kept X w4 (fun j => j = w2.heap.size + 1 ∨ j = w2.heap.size + 1 + 1 + 1 ∨ w2.heap.size + 7 ≤ j) := (kX.mono (fun j e => .inl e)).then_ u3 (fun j e => .inl e)
      obtain ⟨v', u5, u6⟩ := u2
      have st : CSt w w2.heap.size wd dw rt A1 c1 l a false n (k + 1) w4 := {
        below := u4
        size := Nat.le_trans hX.size kA.1
        c0 := blk_kept hX.c0 kA (by omega)
        c1 := blk_kept hX.c1 kA (by omega)
        c2 := blk_kept hX.c2 kA (by omega)
        c3 := blk_kept hX.c3 kA (by omega)
        run := ⟨_, by rw [hnx]; exact u1⟩
        cp := blk_kept hX.cp kA (by omega)
        out := ⟨v', u5, by rw [hpl, hnx]; exact u6⟩
        cn := blk_kept hX.cn kA (by omega) }
      exact ⟨kA.2 _ (by omega) (by omega), kA.2 _ (by omega) (by omega), fun Ra => ⟨st.putl Ra hbN⟩⟩
    have hVq : dV q0 q1 q2 q3 wd dw rt := hV
    have call : ∀ (o : Bool) (Z : World), Z = X.drew.drew → Calls Try.prog 49 #[.pointer (some ⟨w2.heap.size + 1, 0, none⟩), .bool o, .pointer (some ⟨w2.heap.size + 1 + 1 + 1, 0, none⟩)] Z _ := fun o Z hZ => runtick_calls (w2.heap.size + 1) (w2.heap.size + 1 + 1 + 1) q0 q1 q2 q3 (k : Int) ps wd dw rt o v k (w2.heap.size + 7) (cpl wd dw rt l a false k) Z (by rw [hZ]; exact blk_drew hrun0) (by rw [hZ]; exact blk_drew x3) (by rw [hZ]; exact x4) hVq (by omega) (by omega) (by rw [hZ]; show _ ≤ X.drew.heap.size; omega) (by omega) (by omega) (by omega)
    have CALL := Aside0.mk call
    have FIN := Aside0.mk fin
    by_cases hkl : k < l.length
    · have p63 : decide ((k : Int) < (l.length : Int)) = true := decide_eq_true (by omega)
      have p64 : (0 : Int) ≤ (k : Int) := by omega
      have p65 : (k : Int) < (l.length : Int) := by omega
      obtain ⟨ad, hA, ea⟩ := Kd.at_bool hC0 (k : Int) (by omega) (by omega)
      rw [Int.toNat_natCast] at ea
      have HR1 := Aside0.mk hr1
      clear call fin hr1
      subst hA
      refine wpIn_region_J (fun W => W.cell? ⟨w2.heap.size + 1 + 1, 0, none⟩ = some (.pointer (some ⟨w2.heap.size + 1, 0, none⟩)) ∧ W.cell? ⟨w.heap.size + 1, 0, none⟩ = some (.slice (some ad) l.length c1) ∧ W.cell? (ad.add k) = some (.bool (rdOf false l k))) 99 (by kernel_rfl) (by kernel_rfl) (fun ⟨_, _, q⟩ => q) ⟨y1, y2, ea⟩ (fun hS => ?_)
      repeat ((first | refine tk 0 (some 74) ?_ | refine tk0 1 (some 75) ?_ | refine tk 2 (some 76) ?_ | refine tk0 3 (some 77) ?_ | refine tk0 4 (some 78) ?_ | refine tk0 5 (some 79) ?_ | refine tk 6 (some 80) ?_ | refine tk1 6 (some 80) ?_ | refine tk0 7 (some 81) ?_ | refine tk1 7 (some 81) ?_ | refine tk0 8 (some 82) ?_ | refine tk1 8 (some 82) ?_ | refine tk 9 (some 83) ?_ | refine tk1 9 (some 83) ?_ | refine tk0 10 (some 84) ?_); simp only [Act.put, List.setIfInBounds_toArray, List.set_cons_zero, List.set_cons_succ])
      refine wpAnyJ_one (i := 11) (by decide +kernel) rfl (fun K hK => ?_)
      go_simp
      go_at_call 49
      refine (CALL.out _ _ rfl).mono ?_
      rintro e w4 ⟨rfl, u1, u2, u3, u4⟩
      have b4 : Below w.heap.size w w4 := bX.drew.trans (u4 _ (by omega) (by omega))
      have z1 := blk_kept (blk_drew x1) u3 (by omega)
      have z2 := blk_kept (blk_drew x2) u3 (by omega)
      obtain ⟨ad', e1, e2⟩ := Kd.at_bool (Kd.C_below HR1.out b4) (k : Int) p64 p65
      rw [Int.toNat_natCast] at e2
      cases e1
      refine hK.out _ _ (fun _ => ⟨(blk_cell z1 0).trans rfl, (blk_cell z2 0).trans rfl, e2⟩) (fun _ => ?_)
      clear hK K
      refine wpAnyJ_done (by decide +kernel) ?_ _
      repeat gi_step
      rw [hsz]
      exact FIN.out w4 u1 u2 u3 b4
    · have p63 : decide ((k : Int) < (l.length : Int)) = false := decide_eq_false (by omega)
      have hrd : rdOf false l (k : Int) = false := by unfold rdOf; rw [Int.toNat_natCast, List.getD_eq_getElem?_getD, List.getElem?_eq_none (by omega)]; rfl
      rw [hrd] at fin
      have FIN := Aside0.mk fin
      clear call fin hrd
      refine wpIn_region_J (fun W => W.cell? ⟨w2.heap.size + 1 + 1, 0, none⟩ = some (.pointer (some ⟨w2.heap.size + 1, 0, none⟩)) ∧ W.cell? ⟨w.heap.size + 1, 0, none⟩ = some (.slice A1 l.length c1)) 99 (by kernel_rfl) (by kernel_rfl) (fun ⟨_, _, q⟩ => q) ⟨y1, y2⟩ (fun hS => ?_)
      repeat ((first | refine tk 0 (some 74) ?_ | refine tk0 1 (some 75) ?_ | refine tk 2 (some 76) ?_ | refine tk0 3 (some 77) ?_ | refine tk0 4 (some 78) ?_ | refine tk0 5 (some 79) ?_ | refine tk 6 (some 80) ?_ | refine tk1 6 (some 80) ?_ | refine tk0 7 (some 81) ?_ | refine tk1 7 (some 81) ?_ | refine tk0 8 (some 82) ?_ | refine tk1 8 (some 82) ?_ | refine tk 9 (some 83) ?_ | refine tk1 9 (some 83) ?_ | refine tk0 10 (some 84) ?_); simp only [Act.put, List.setIfInBounds_toArray, List.set_cons_zero, List.set_cons_succ])
      refine wpAnyJ_one (i := 11) (by decide +kernel) rfl (fun K hK => ?_)
      go_simp
      go_at_call 49
      refine (CALL.out _ _ rfl).mono ?_
      rintro e w4 ⟨rfl, u1, u2, u3, u4⟩
      have b4 : Below w.heap.size w w4 := bX.drew.trans (u4 _ (by omega) (by omega))
      have z1 := blk_kept (blk_drew x1) u3 (by omega)
      have z2 := blk_kept (blk_drew x2) u3 (by omega)
      refine hK.out _ _ (fun _ => ⟨(blk_cell z1 0).trans rfl, (blk_cell z2 0).trans rfl⟩) (fun _ => ?_)
      clear hK K
      refine wpAnyJ_done (by decide +kernel) ?_ _
      repeat gi_step
      rw [hsz]
      exact FIN.out w4 u1 u2 u3 b4
set_option maxHeartbeats 4000000 in
theorem pan_goodT (wd dw rt : Int) (A1 : Option Addr) (c1 : Nat) (l : List Bool) (a : Int) (w : World) (hr1 : Kd.C Kd.bool w A1 l.length l) (h : dRule wd dw rt) (hl : ¬ (l.length : Int) > cwst wd dw rt) (h0 : 0 ≤ a) (h1 : a < cwst wd dw rt) :
    Calls Try.prog 32 #[.agg #[.int .i64 wd, .int .i64 dw, .int .i64 rt], .slice A1 l.length c1, .int .i64 a, .bool true] w
      fun en w' => ∃ v0_ : Value, en = .returned (.tuple #[v0_, .int .i64 0]) ∧ Kd.R (Kd.int .i64) 3 w' w.heap.size (fun _ => True) v0_ (cpl wd dw rt l a true (cwst wd dw rt).toNat) ∧ Below w.heap.size w w' := by
  have HC : Aside0 (cycle_worst.f wd dw rt = some (cwst wd dw rt, 0)) := ⟨by rw [worst_eq, if_pos h]⟩
  have HG : Aside0 (cycle_Begin.f 2 wd dw rt true = some (1, 0, 0, 0, 0, false, 0)) := ⟨by rw [Begin_ok 0 wd dw rt h]; rfl⟩
  have hb1 : decide ((l.length : Int) > cwst wd dw rt) = false := decide_eq_false hl
  have hb2 : decide (cwst wd dw rt < (l.length : Int)) = false := decide_eq_false hl
  have hcw := cwst_bound h
  obtain ⟨n, hn⟩ : ∃ n : Nat, cwst wd dw rt = n := ⟨(cwst wd dw rt).toNat, by omega⟩
  have hc1 : decide (a < 0) = false := decide_eq_false (by omega)
  have hc2 : decide (a ≥ cwst wd dw rt) = false := decide_eq_false (by omega)
  have hc3 : decide (cwst wd dw rt ≤ a) = false := decide_eq_false (by omega)
  rw [hn] at HC hb1 hb2 hc2 hc3 ⊢
  rw [Int.toNat_natCast]
  refine (callsIn_wide (n := 3)).1 ?_
  refine callsIn_of_wp_marks Try.func32 rfl trivial ?_ rfl
  simp only [Try.ntmps32, List.size_toArray, List.length_cons, List.length_nil, Nat.reduceAdd, Nat.reduceSub, Array.replicate_succ, Array.replicate_zero, List.push_toArray, List.append_toArray, List.nil_append, List.cons_append]
  gi_wp2_with (first
    | (refine ⟨trivial, ?_⟩; gi_at_call 34; refine (callsIn_wide.2 (cycle_worst.calls wd dw rt _ 0 _ HC.out)).mono ?_; rintro e w1 ⟨rfl, hb⟩; have hp := CPar.of hb; have s0 : w1.cell? ⟨w.heap.size + 1, 0, none⟩ = some (.slice A1 l.length c1) := (blk_cell hp.c1 0).trans rfl; have s1 : w1.cell? ⟨w.heap.size + 1 + 1, 0, none⟩ = some (.int .i64 a) := (blk_cell hp.c2 0).trans rfl; have s2 : w1.cell? ⟨w.heap.size + 1 + 1 + 1, 0, none⟩ = some (.bool true) := (blk_cell hp.c3 0).trans rfl; have r0 : w1.cell? ⟨w.heap.size, 0, none⟩ = some (.int .i64 wd) := (blk_cell hp.c0 0).trans rfl; have r1 : w1.cell? ⟨w.heap.size, 1, none⟩ = some (.int .i64 dw) := (blk_cell hp.c0 1).trans rfl; have r2 : w1.cell? ⟨w.heap.size, 2, none⟩ = some (.int .i64 rt) := (blk_cell hp.c0 2).trans rfl; have HP := Aside0.mk hp; clear hb hp)
    | (refine ⟨trivial, ?_⟩; gi_at_call 20; refine (callsIn_wide.2 (cycle_Begin.calls 2 _ _ _ _ _ _ _ _ _ _ _ _ HG.out)).mono ?_; rintro e w2 ⟨rfl, hb⟩; have t0 : ∀ o, (w2.alloc o).cell? ⟨w.heap.size, 0, none⟩ = some (.int .i64 wd) := fun o => (blk_cell (blk_alloc (blk_below HP.out.c0 hb) o) 0).trans rfl; have t1 : ∀ o, (w2.alloc o).cell? ⟨w.heap.size, 1, none⟩ = some (.int .i64 dw) := fun o => (blk_cell (blk_alloc (blk_below HP.out.c0 hb) o) 1).trans rfl; have t2 : ∀ o, (w2.alloc o).cell? ⟨w.heap.size, 2, none⟩ = some (.int .i64 rt) := fun o => (blk_cell (blk_alloc (blk_below HP.out.c0 hb) o) 2).trans rfl; have HB2 := Aside0.mk hb; clear hb)
    | (refine ⟨trivial, ?_⟩; gi_at_call 48; refine (callsIn_wide.2 (cticks_calls _ _ _)).mono ?_; rintro e w3 ⟨rfl, hw3⟩))
  clear s1 hc1 hc2 hc3 h0 h1
  have hcp := HP.out
  have hn4 := HB2.out.size
  have hbN : w.heap.size + 4 ≤ w2.heap.size := Nat.le_trans hcp.size hn4
  have hB2 : Below w.heap.size w w2 := below_step hcp.below HB2.out
  have hsz : w3.heap.size = w2.heap.size + 5 := by rw [hw3]; simp
  have hSt : ∀ o o2, CSt w w2.heap.size wd dw rt A1 c1 l a true n 0 ((w3.alloc o).alloc o2) := fun o o2 => by
    subst hw3
    exact {
      below := below_alloc (below_alloc (below_alloc (below_alloc (below_alloc (below_alloc (below_alloc hB2 _) _) _) _) _) _) _
      size := by simp
      c0 := blk_alloc (blk_alloc (blk_alloc (blk_alloc (blk_alloc (blk_alloc (blk_alloc (blk_below hcp.c0 HB2.out) _) _) _) _) _) _) _
      c1 := blk_alloc (blk_alloc (blk_alloc (blk_alloc (blk_alloc (blk_alloc (blk_alloc (blk_below hcp.c1 HB2.out) _) _) _) _) _) _) _
      c2 := blk_alloc (blk_alloc (blk_alloc (blk_alloc (blk_alloc (blk_alloc (blk_alloc (blk_below hcp.c2 HB2.out) _) _) _) _) _) _) _
      c3 := blk_alloc (blk_alloc (blk_alloc (blk_alloc (blk_alloc (blk_alloc (blk_alloc (blk_below hcp.c3 HB2.out) _) _) _) _) _) _) _
      run := ⟨false, blk_alloc (blk_alloc (blk_alloc (blk_alloc (blk_alloc (blk_newN _ _ (by simp)) _) _) _) _) _⟩
      cp := blk_alloc (blk_alloc (blk_alloc (blk_alloc (blk_newN _ _ (by simp)) _) _) _) _
      out := ⟨_, blk_alloc (blk_alloc (blk_alloc (blk_newN _ _ (by simp)) _) _) _, World.ownsRow_nil _ _ _ _⟩
      cn := blk_alloc (blk_alloc (blk_newN _ _ (by simp)) _) _ }
  rw [← hw3]
  clear hw3 s0 s2 r0 r1 r2 t0 t1 t2 HC HG hb1 hb2 HP HB2 hn4 hB2
  refine rf_law (gf := 60) (lb := #[.pointer (some ⟨w2.heap.size + 1 + 1 + 1 + 1, 0, none⟩)]) (encs := fun k : Nat => #[.int .i64 k]) rfl (by decide) rfl trivial (enters_of Try.func60 (by kernel_rfl) rfl) (fun _ => rfl)
    (fun k W => CSt w w2.heap.size wd dw rt A1 c1 l a true n k W ∧ k < n)
    (fun k W1 a' W2 => a' = { tmps := #[.agg #[.int .i64 wd, .int .i64 dw, .int .i64 rt], .slice A1 l.length c1, .int .i64 a, .bool true, .pointer (some ⟨w.heap.size, 0, none⟩), .pointer (some ⟨w.heap.size + 1, 0, none⟩), .pointer (some ⟨w.heap.size + 1 + 1, 0, none⟩), .pointer (some ⟨w.heap.size + 1 + 1 + 1, 0, none⟩), .slice none 0 0, .int .i64 0, .int .i64 n, .int .i64 0, .pointer (some ⟨w2.heap.size, 0, none⟩), .int .i64 0, .pointer (some ⟨w2.heap.size + 1 + 1, 0, none⟩), .pointer (some ⟨w2.heap.size + 1 + 1 + 1, 0, none⟩), .int .i64 k, .tuple #[.int .i64 n, .int .i64 0], .agg #[.int .i64 wd, .int .i64 dw, .int .i64 rt], .tuple #[.int .i64 n, .int .i64 0], .int .i64 n, .int .i64 0, .bool false, .int .i64 0, .bool false, undef, .bool false, .slice A1 l.length c1, .int .i64 ↑l.length, .int .i64 n, .bool false, .bool false, .bool true, .bool true, .int .i64 a, .bool false, .bool false, .int .i64 a, .int .i64 n, .bool false, .bool false, .bool false, .tuple #[.agg #[.int .i64 1, .int .i64 0, .int .i64 0, .int .i64 0, .int .i64 0, .bool false], .int .i64 0], .agg #[.int .i64 wd, .int .i64 dw, .int .i64 rt], .tuple #[.agg #[.int .i64 1, .int .i64 0, .int .i64 0, .int .i64 0, .int .i64 0, .bool false], .int .i64 0], .agg #[.int .i64 1, .int .i64 0, .int .i64 0, .int .i64 0, .int .i64 0, .bool false], .int .i64 0, .agg #[.int .i64 1, .int .i64 0, .int .i64 0, .int .i64 0, .int .i64 0, .bool false], .agg #[.int .i64 wd, .int .i64 dw, .int .i64 rt], .agg #[.int .i64 1, .int .i64 0, .int .i64 0, .int .i64 0, .int .i64 0, .bool false, .int .i64 wd, .int .i64 dw, .int .i64 rt], .pointer (some ⟨w2.heap.size + 1, 0, none⟩), .pointer (some ⟨w2.heap.size + 1, 0, none⟩), .int .i64 n, .func (.func 60) #[] #[.pointer (some ⟨w2.heap.size + 1 + 1 + 1 + 1, 0, none⟩)], .int .i64 k, undef, undef, undef, undef, undef, undef, undef, undef, undef, undef, undef, undef, undef, undef, undef, undef, undef, undef, undef, undef, undef, undef, undef, undef, undef, undef, undef, undef, undef, undef, undef, undef], defers := [] } ∧ W2 = W1 ∧ CSt w w2.heap.size wd dw rt A1 c1 l a true n k W1 ∧ k < n)
    (CPost w w2.heap.size wd dw rt A1 c1 l a true n)
    (fun _ _ _ _ => False) (fun W => CSt w w2.heap.size wd dw rt A1 c1 l a true n n W) (fun _ _ => False) ?assign ?body ?iter ?done ?stop
  case assign =>
    rintro k W1 K ⟨h1, h4⟩ hK
    gi_wp2
    exact hK _ _ rfl rfl ⟨by simp, rfl, h1, h4⟩
  case iter =>
    intro R0 Rs W hW hYY
    rw [hsz] at hYY ⊢
    refine (citer_ok (w2.heap.size + 5 + 1) (w2.heap.size + 1 + 1 + 1 + 1) n (by omega) (fun k W => CSt w w2.heap.size wd dw rt A1 c1 l a true n k W ∧ W.heap[w2.heap.size + 5 + 1]? = some R0 ∧ W.heap[w2.heap.size + 5]? = some (.deferred (some []))) ?jt ?jy W ?j0).mono ?jm
    case jt =>
      rintro k W ⟨h1, _, _⟩
      exact h1.cn
    case jy =>
      rintro k W1 hk ⟨h1, h2, h3⟩
      obtain ⟨fn, tmps, assign, body, hy, hR⟩ := hYY k W1 ⟨h1, hk⟩ h2 h3
      refine ⟨fn, tmps, assign, body, hy, hR.mono ?_⟩
      rintro e W' (⟨rfl, hp, g1, g2⟩ | ⟨rfl, c, hf, _⟩)
      · exact ⟨rfl, hp.st, g1, g2⟩
      · exact hf.elim
    case j0 =>
      subst hW
      exact ⟨hSt _ _, blk_newN _ _ (by simp [hsz]), blk_alloc (blk_newN _ _ hsz.symm) _⟩
    case jm =>
      rintro e W' ⟨hv, h1, h2, h3⟩
      exact ⟨hv, h3, .inl ⟨h1, h2⟩⟩
  case done =>
    intro W Rx hE hK
    have hlr : w3.heap.size + 1 = w2.heap.size + 6 := by rw [hsz]
    rw [hlr, hsz]
    have hP := hE.putl Rx hbN
    have hK2 : (W.putObj (w2.heap.size + 6) Rx).heap[w2.heap.size + 5]? = some (.deferred (some [])) := (World.putObj_heap_other (by omega)).trans (by rw [← hsz]; exact hK)
    generalize W.putObj (w2.heap.size + 6) Rx = X at hP hK2 ⊢
    obtain ⟨v, hv, hrow⟩ := hP.out
    have c0 : X.cell? ⟨w2.heap.size + 1 + 1 + 1, 0, none⟩ = some v := (blk_cell hv 0).trans rfl
    have HP := Aside0.mk hP
    have HR := Aside0.mk hrow
    have HK := Aside0.mk hK2
    clear hSt hP hrow hE hK hK2 hlr hsz hv hr1
    repeat gi_step
    refine ⟨by simp, .inl ⟨_, _, rfl, run_takeDeferred HK.out, ?_⟩⟩
    have bZ := below_putObj HP.out.below (w2.heap.size + 5) (.deferred none) (by omega) HP.out.below.size
    have oZ := own_kept HR.out (kept_putObj X (w2.heap.size + 5) (.deferred none)) (fun j hj hj2 => by have : j = w2.heap.size + 5 := hj2; omega)
    refine ⟨.tuple #[v, .int .i64 0], by simp [results, Try.results32, go_sem], v, rfl, ?_, bZ⟩
    have hlen := cpl_len wd dw rt l a true n
    have oZ2 := own_base oZ (show w.heap.size ≤ w2.heap.size + 7 by omega)
    rw [← hlen] at oZ2
    rw [hlen] at oZ2
    exact Kd.R_of_own (by rw [hlen]; exact oZ2) (fun _ _ => trivial)
  case stop =>
    intro c W Rx h
    exact h.elim
  case body =>
    rintro k W1 a' W2 Rb ⟨rfl, rfl, h1, h4⟩
    dsimp only
    have hlr : w3.heap.size + 1 = w2.heap.size + 6 := by rw [hsz]
    rw [hlr]
    have hX := h1.putl Rb hbN
    generalize W2.putObj (w2.heap.size + 6) Rb = X at hX ⊢
    obtain ⟨ps, hrun⟩ := hX.run
    obtain ⟨v, hv, hown⟩ := hX.out
    have hC := Kd.C_below hr1 hX.below
    have hV := cst_ok h l a true k
    have hnx : cst wd dw rt l a true (k + 1) = dtk (cfo (cst wd dw rt l a true k) (true && ((k : Int) == a))).1 (cfo (cst wd dw rt l a true k) (true && ((k : Int) == a))).2.1 (cfo (cst wd dw rt l a true k) (true && ((k : Int) == a))).2.2.1 (cfo (cst wd dw rt l a true k) (true && ((k : Int) == a))).2.2.2 wd dw rt (rdOf false l k) := rfl
    obtain ⟨q0, q1, q2, q3, hq⟩ : ∃ q0 q1 q2 q3, cst wd dw rt l a true k = (q0, q1, q2, q3) := ⟨_, _, _, _, rfl⟩
    simp only [hq] at hV hnx hrun
    have hpl : cpl wd dw rt l a true (k + 1) = cpl wd dw rt l a true k ++ [(cst wd dw rt l a true (k + 1)).2.1] := rfl
    have k3 : X.cell? ⟨w.heap.size + 1 + 1 + 1, 0, none⟩ = some (.bool true) := (blk_cell hX.c3 0).trans rfl
    have k0 : X.cell? ⟨w2.heap.size + 1 + 1, 0, none⟩ = some (.pointer (some ⟨w2.heap.size + 1, 0, none⟩)) := (blk_cell hX.cp 0).trans rfl
    have k1 : X.cell? ⟨w2.heap.size + 1, 4, none⟩ = some (.int .i64 k) := (blk_cell hrun 4).trans rfl
    have k2 : X.cell? ⟨w.heap.size + 1 + 1, 0, none⟩ = some (.int .i64 a) := (blk_cell hX.c2 0).trans rfl
    repeat gi_step
    by_cases hka : (k : Int) = a
    · have p1 : ((k : Int) == a) = true := beq_iff_eq.mpr hka
      rw [p1] at hnx
      clear hka
      refine wpIn_region_J (fun W => W.cell? ⟨w.heap.size + 1 + 1 + 1, 0, none⟩ = some (.bool true) ∧ W.cell? ⟨w2.heap.size + 1 + 1, 0, none⟩ = some (.pointer (some ⟨w2.heap.size + 1, 0, none⟩)) ∧ W.cell? ⟨w2.heap.size + 1, 4, none⟩ = some (.int .i64 k) ∧ W.cell? ⟨w.heap.size + 1 + 1, 0, none⟩ = some (.int .i64 a)) 99 (by kernel_rfl) (by kernel_rfl) (fun ⟨_, _, q⟩ => q) ⟨k3, k0, k1, k2⟩ (fun hS => ?_)
      repeat ((first | refine tk 0 (some 55) ?_ | refine tk0 1 (some 56) ?_ | refine tk 2 (some 57) ?_ | refine tk1 2 (some 57) ?_ | refine tk0 3 (some 58) ?_ | refine tk1 3 (some 58) ?_ | refine tk0 4 (some 59) ?_ | refine tk1 4 (some 59) ?_ | refine tk0 5 (some 60) ?_ | refine tk1 5 (some 60) ?_ | refine tk 6 (some 61) ?_ | refine tk1 6 (some 61) ?_ | refine tk 7 (some 62) ?_ | refine tk1 7 (some 62) ?_ | refine tk0 8 (some 63) ?_ | refine tk1 8 (some 63) ?_ | refine tk0 9 (some 64) ?_); simp only [Act.put, List.setIfInBounds_toArray, List.set_cons_zero, List.set_cons_succ])
      refine wpAnyJ_done (by decide +kernel) ?_ _
      clear hS
      repeat gi_step
      have m0 : X.drew.cell? ⟨w2.heap.size + 1, 0, none⟩ = some (.int .i64 q0) := (blk_cell hrun 0).trans rfl
      have m1 : X.drew.cell? ⟨w2.heap.size + 1, 1, none⟩ = some (.int .i64 q1) := (blk_cell hrun 1).trans rfl
      have m2 : X.drew.cell? ⟨w2.heap.size + 1, 2, none⟩ = some (.int .i64 q2) := (blk_cell hrun 2).trans rfl
      have m3 : X.drew.cell? ⟨w2.heap.size + 1, 3, none⟩ = some (.int .i64 q3) := (blk_cell hrun 3).trans rfl
      have m5 : X.drew.cell? ⟨w2.heap.size + 1, 5, none⟩ = some (.bool ps) := (blk_cell hrun 5).trans rfl
      have n0 : X.drew.cell? ⟨w.heap.size, 0, none⟩ = some (.int .i64 wd) := (blk_cell hX.c0 0).trans rfl
      have n1 : X.drew.cell? ⟨w.heap.size, 1, none⟩ = some (.int .i64 dw) := (blk_cell hX.c0 1).trans rfl
      have n2 : X.drew.cell? ⟨w.heap.size, 2, none⟩ = some (.int .i64 rt) := (blk_cell hX.c0 2).trans rfl
      obtain ⟨e0, e1, e2, e3, he⟩ : ∃ e0 e1 e2 e3, dfc q0 q1 q2 q3 = (e0, e1, e2, e3) := ⟨_, _, _, _, rfl⟩
      have hfo := forced_ok 0 (k : Int) ps hV
      have hV2 := dfc_ok hV
      have hnx2 : cst wd dw rt l a true (k + 1) = dtk (dfc q0 q1 q2 q3).1 (dfc q0 q1 q2 q3).2.1 (dfc q0 q1 q2 q3).2.2.1 (dfc q0 q1 q2 q3).2.2.2 wd dw rt (rdOf false l k) := hnx
      rw [he] at hfo hV2 hnx2
      dsimp only at hfo hV2 hnx2
      clear hnx hV
      have hnx := hnx2
      obtain ⟨pz, hpz⟩ : ∃ pz, pz = (if e0 = 0 then true else ps) := ⟨_, rfl⟩
      rw [← hpz] at hfo
      have HFO := Aside0.mk hfo
      clear hnx2 hfo he hpz
      refine wpIn_region_J (fun W => W.cell? ⟨w2.heap.size + 1, 0, none⟩ = some (.int .i64 q0) ∧ W.cell? ⟨w2.heap.size + 1, 1, none⟩ = some (.int .i64 q1) ∧ W.cell? ⟨w2.heap.size + 1, 2, none⟩ = some (.int .i64 q2) ∧ W.cell? ⟨w2.heap.size + 1, 3, none⟩ = some (.int .i64 q3) ∧ W.cell? ⟨w2.heap.size + 1, 4, none⟩ = some (.int .i64 k) ∧ W.cell? ⟨w2.heap.size + 1, 5, none⟩ = some (.bool ps) ∧ W.cell? ⟨w.heap.size, 0, none⟩ = some (.int .i64 wd) ∧ W.cell? ⟨w.heap.size, 1, none⟩ = some (.int .i64 dw) ∧ W.cell? ⟨w.heap.size, 2, none⟩ = some (.int .i64 rt) ∧ W.cell? ⟨w2.heap.size + 1 + 1, 0, none⟩ = some (.pointer (some ⟨w2.heap.size + 1, 0, none⟩))) 9 (by kernel_rfl) (by kernel_rfl) (fun ⟨_, _, q⟩ => q) ⟨m0, m1, m2, m3, k1, m5, n0, n1, n2, k0⟩ (fun hS => ?_)
      repeat ((first | refine tk 0 (some 65) ?_ | refine tk 1 (some 66) ?_ | refine tk0 2 (some 67) ?_ | refine tk0 3 (some 68) ?_ | refine tk 4 (some 69) ?_ | refine tk 5 (some 70) ?_ | refine tk0 7 (some 72) ?_ | refine tk0 8 (some 73) ?_); simp only [Act.put, List.setIfInBounds_toArray, List.set_cons_zero, List.set_cons_succ])
      refine wpAnyJ_one (i := 6) (by decide +kernel) rfl (fun K hK => ?_)
      go_simp
      go_at_call 46
      refine (cycle_forced.calls 2 _ _ _ _ _ _ _ _ _ _ _ _ _ _ _ _ HFO.out).mono ?_
      rintro e w4 ⟨rfl, hb⟩
      have d1 := blk_below (blk_drew (blk_drew hrun)) hb
      have d2 := blk_below (blk_drew (blk_drew hX.cp)) hb
      have d3 := blk_below (blk_drew (blk_drew hX.c0)) hb
      refine hK.out _ _ (fun _ => ⟨(blk_cell d1 0).trans rfl, (blk_cell d1 1).trans rfl, (blk_cell d1 2).trans rfl, (blk_cell d1 3).trans rfl, (blk_cell d1 4).trans rfl, (blk_cell d1 5).trans rfl, (blk_cell d3 0).trans rfl, (blk_cell d3 1).trans rfl, (blk_cell d3 2).trans rfl, (blk_cell d2 0).trans rfl⟩) (fun hS => ?_)
      have hS := hS (by decide +kernel)
      clear hK K m0 m1 m2 m3 m5 n0 n1 n2
      try simp only [Act.put, List.setIfInBounds_toArray, List.set_cons_zero, List.set_cons_succ]
      repeat ((first | refine tk 0 (some 65) ?_ | refine tk 1 (some 66) ?_ | refine tk0 2 (some 67) ?_ | refine tk0 3 (some 68) ?_ | refine tk 4 (some 69) ?_ | refine tk 5 (some 70) ?_ | refine tk0 7 (some 72) ?_ | refine tk0 8 (some 73) ?_); simp only [Act.put, List.setIfInBounds_toArray, List.set_cons_zero, List.set_cons_succ])
      have f0 := blk_frozen d1 0
      have f1 := blk_frozen d1 1
      have f2 := blk_frozen d1 2
      have f3 := blk_frozen d1 3
      have f4 := blk_frozen d1 4
      have f5 := blk_frozen d1 5
      obtain ⟨g0, g1, g2, g3, g4, g5, g6⟩ := hS
      refine wpAnyJ_one (i := 9) (by decide +kernel) rfl (fun K hK => ?_)
      go_simp
      refine hK.out _ _ (fun q => absurd q (by decide +kernel)) (fun _ => ?_)
      clear hK K
      refine wpAnyJ_done (by decide +kernel) ?_ _
      clear f0 f1 f2 f3 f4 f5 g0 g1 g2 g3 g4 g5 g6 k0 k1 k2 k3
      have kS := kept_store6 w4 (w2.heap.size + 1) (.int .i64 e0) (.int .i64 e1) (.int .i64 e2) (.int .i64 e3) (.int .i64 k) (.bool pz)
      have hrun0 := blk_store6 d1 (.int .i64 e0) (.int .i64 e1) (.int .i64 e2) (.int .i64 e3) (.int .i64 k) (.bool pz)
      have bX := below_store6 (below_step hX.below (show Below X.heap.size X w4 from ((Below.refl _ X).drew.drew).trans hb)) (show w.heap.size ≤ w2.heap.size + 1 by omega) (.int .i64 e0) (.int .i64 e1) (.int .i64 e2) (.int .i64 e3) (.int .i64 k) (.bool pz)
      have kX0 : Kept X w4 (fun j => j = w2.heap.size + 1) := Kept.of_below (show Below X.heap.size X w4 from ((Below.refl _ X).drew.drew).trans hb) _
      have kX := kX0.then_ kS (fun j e => .inl e)
      generalize hY : (((((w4.setCell ⟨w2.heap.size + 1, 0, none⟩ (.int .i64 e0)).setCell ⟨w2.heap.size + 1, 1, none⟩ (.int .i64 e1)).setCell ⟨w2.heap.size + 1, 2, none⟩ (.int .i64 e2)).setCell ⟨w2.heap.size + 1, 3, none⟩ (.int .i64 e3)).setCell ⟨w2.heap.size + 1, 4, none⟩ (.int .i64 k)).setCell ⟨w2.heap.size + 1, 5, none⟩ (.bool pz) = Y at kS hrun0 bX kX ⊢
      clear hY kS kX0 d1 d2 d3 hb HFO
      repeat gi_step
      have x1 := blk_kept hX.cp kX (by omega)
      have x2 := blk_kept hX.c1 kX (by omega)
      have x3 := blk_kept hv kX (by omega)
      have x4 := own_kept hown kX (fun j hj e => by have : j = w2.heap.size + 1 := e; omega)
      have hsX := kX.1
      have y1 : Y.cell? ⟨w2.heap.size + 1 + 1, 0, none⟩ = some (.pointer (some ⟨w2.heap.size + 1, 0, none⟩)) := (blk_cell x1 0).trans rfl
      have y2 : Y.cell? ⟨w.heap.size + 1, 0, none⟩ = some (.slice A1 l.length c1) := (blk_cell x2 0).trans rfl
      have hC0 := Kd.C_below hr1 bX
      have hXs := hX.size
      have fin : ∀ w4 : World, w4.heap[w2.heap.size + 1]? = some (.cells #[.int .i64 (dtk e0 e1 e2 e3 wd dw rt (rdOf false l k)).1, .int .i64 (dtk e0 e1 e2 e3 wd dw rt (rdOf false l k)).2.1, .int .i64 (dtk e0 e1 e2 e3 wd dw rt (rdOf false l k)).2.2.1, .int .i64 (dtk e0 e1 e2 e3 wd dw rt (rdOf false l k)).2.2.2, .int .i64 ((k : Int) + 1), .bool pz, .int .i64 wd, .int .i64 dw, .int .i64 rt] 72) →
          (∃ v', w4.heap[w2.heap.size + 1 + 1 + 1]? = some (.cells #[v'] 27) ∧ w4.ownsRow (w2.heap.size + 7) 3 1 v' (k + 1) ((cpl wd dw rt l a true k ++ [(dtk e0 e1 e2 e3 wd dw rt (rdOf false l k)).2.1]).map (Value.int .i64))) →
          Kept Y w4 (fun j => j = w2.heap.size + 1 ∨ j = w2.heap.size + 1 + 1 + 1 ∨ w2.heap.size + 7 ≤ j) → Below w.heap.size w w4 →
          w4.heap[w2.heap.size + 6]? = X.heap[w2.heap.size + 6]? ∧ w4.heap[w2.heap.size + 5]? = X.heap[w2.heap.size + 5]? ∧ ∀ Ra, CPost w w2.heap.size wd dw rt A1 c1 l a true n k W2 (w4.putObj (w2.heap.size + 6) Ra) := by
        intro w4 u1 u2 u3 u4
        have kA : Kept X w4 (fun j => j = w2.heap.size + 1 ∨ j = w2.heap.size + 1 + 1 + 1 ∨ w2.heap.size + 7 ≤ j) := (kX.mono (fun j e => .inl e)).then_ u3 (fun j e => .inl e)
        obtain ⟨v', u5, u6⟩ := u2
        have st : CSt w w2.heap.size wd dw rt A1 c1 l a true n (k + 1) w4 := {
          below := u4
          size := Nat.le_trans hX.size kA.1
          c0 := blk_kept hX.c0 kA (by omega)
          c1 := blk_kept hX.c1 kA (by omega)
          c2 := blk_kept hX.c2 kA (by omega)
          c3 := blk_kept hX.c3 kA (by omega)
          run := ⟨_, by rw [hnx]; exact u1⟩
          cp := blk_kept hX.cp kA (by omega)
          out := ⟨v', u5, by rw [hpl, hnx]; exact u6⟩
          cn := blk_kept hX.cn kA (by omega) }
        exact ⟨kA.2 _ (by omega) (by omega), kA.2 _ (by omega) (by omega), fun Ra => ⟨st.putl Ra hbN⟩⟩
      have hVq : dV e0 e1 e2 e3 wd dw rt := hV2
      have call : ∀ (o : Bool) (Z : World), Z = Y.drew → Calls Try.prog 49 #[.pointer (some ⟨w2.heap.size + 1, 0, none⟩), .bool o, .pointer (some ⟨w2.heap.size + 1 + 1 + 1, 0, none⟩)] Z _ := fun o Z hZ => runtick_calls (w2.heap.size + 1) (w2.heap.size + 1 + 1 + 1) e0 e1 e2 e3 (k : Int) pz wd dw rt o v k (w2.heap.size + 7) (cpl wd dw rt l a true k) Z (by rw [hZ]; exact blk_drew hrun0) (by rw [hZ]; exact blk_drew x3) (by rw [hZ]; exact x4) hVq (by omega) (by omega) (by rw [hZ]; show _ ≤ Y.heap.size; omega) (by omega) (by omega) (by omega)
      have CALL := Aside0.mk call
      have FIN := Aside0.mk fin
      by_cases hkl : k < l.length
      · have p63 : decide ((k : Int) < (l.length : Int)) = true := decide_eq_true (by omega)
        have p64 : (0 : Int) ≤ (k : Int) := by omega
        have p65 : (k : Int) < (l.length : Int) := by omega
        obtain ⟨ad, hA, ea⟩ := Kd.at_bool hC0 (k : Int) (by omega) (by omega)
        rw [Int.toNat_natCast] at ea
        have HR1 := Aside0.mk hr1
        clear call fin hr1
        subst hA
        refine wpIn_region_J (fun W => W.cell? ⟨w2.heap.size + 1 + 1, 0, none⟩ = some (.pointer (some ⟨w2.heap.size + 1, 0, none⟩)) ∧ W.cell? ⟨w.heap.size + 1, 0, none⟩ = some (.slice (some ad) l.length c1) ∧ W.cell? (ad.add k) = some (.bool (rdOf false l k))) 99 (by kernel_rfl) (by kernel_rfl) (fun ⟨_, _, q⟩ => q) ⟨y1, y2, ea⟩ (fun hS => ?_)
        repeat ((first | refine tk 0 (some 74) ?_ | refine tk0 1 (some 75) ?_ | refine tk 2 (some 76) ?_ | refine tk0 3 (some 77) ?_ | refine tk0 4 (some 78) ?_ | refine tk0 5 (some 79) ?_ | refine tk 6 (some 80) ?_ | refine tk1 6 (some 80) ?_ | refine tk0 7 (some 81) ?_ | refine tk1 7 (some 81) ?_ | refine tk0 8 (some 82) ?_ | refine tk1 8 (some 82) ?_ | refine tk 9 (some 83) ?_ | refine tk1 9 (some 83) ?_ | refine tk0 10 (some 84) ?_); simp only [Act.put, List.setIfInBounds_toArray, List.set_cons_zero, List.set_cons_succ])
        refine wpAnyJ_one (i := 11) (by decide +kernel) rfl (fun K hK => ?_)
        go_simp
        go_at_call 49
        refine (CALL.out _ _ rfl).mono ?_
        rintro e w4 ⟨rfl, u1, u2, u3, u4⟩
        have b4 : Below w.heap.size w w4 := bX.drew.trans (u4 _ (by omega) (by omega))
        have z1 := blk_kept (blk_drew x1) u3 (by omega)
        have z2 := blk_kept (blk_drew x2) u3 (by omega)
        obtain ⟨ad', e1, e2⟩ := Kd.at_bool (Kd.C_below HR1.out b4) (k : Int) p64 p65
        rw [Int.toNat_natCast] at e2
        cases e1
        refine hK.out _ _ (fun _ => ⟨(blk_cell z1 0).trans rfl, (blk_cell z2 0).trans rfl, e2⟩) (fun _ => ?_)
        clear hK K
        refine wpAnyJ_done (by decide +kernel) ?_ _
        repeat gi_step
        rw [hsz]
        exact FIN.out w4 u1 u2 u3 b4
      · have p63 : decide ((k : Int) < (l.length : Int)) = false := decide_eq_false (by omega)
        have hrd : rdOf false l (k : Int) = false := by unfold rdOf; rw [Int.toNat_natCast, List.getD_eq_getElem?_getD, List.getElem?_eq_none (by omega)]; rfl
        rw [hrd] at fin
        have FIN := Aside0.mk fin
        clear call fin hrd
        refine wpIn_region_J (fun W => W.cell? ⟨w2.heap.size + 1 + 1, 0, none⟩ = some (.pointer (some ⟨w2.heap.size + 1, 0, none⟩)) ∧ W.cell? ⟨w.heap.size + 1, 0, none⟩ = some (.slice A1 l.length c1)) 99 (by kernel_rfl) (by kernel_rfl) (fun ⟨_, _, q⟩ => q) ⟨y1, y2⟩ (fun hS => ?_)
        repeat ((first | refine tk 0 (some 74) ?_ | refine tk0 1 (some 75) ?_ | refine tk 2 (some 76) ?_ | refine tk0 3 (some 77) ?_ | refine tk0 4 (some 78) ?_ | refine tk0 5 (some 79) ?_ | refine tk 6 (some 80) ?_ | refine tk1 6 (some 80) ?_ | refine tk0 7 (some 81) ?_ | refine tk1 7 (some 81) ?_ | refine tk0 8 (some 82) ?_ | refine tk1 8 (some 82) ?_ | refine tk 9 (some 83) ?_ | refine tk1 9 (some 83) ?_ | refine tk0 10 (some 84) ?_); simp only [Act.put, List.setIfInBounds_toArray, List.set_cons_zero, List.set_cons_succ])
        refine wpAnyJ_one (i := 11) (by decide +kernel) rfl (fun K hK => ?_)
        go_simp
        go_at_call 49
        refine (CALL.out _ _ rfl).mono ?_
        rintro e w4 ⟨rfl, u1, u2, u3, u4⟩
        have b4 : Below w.heap.size w w4 := bX.drew.trans (u4 _ (by omega) (by omega))
        have z1 := blk_kept (blk_drew x1) u3 (by omega)
        have z2 := blk_kept (blk_drew x2) u3 (by omega)
        refine hK.out _ _ (fun _ => ⟨(blk_cell z1 0).trans rfl, (blk_cell z2 0).trans rfl⟩) (fun _ => ?_)
        clear hK K
        refine wpAnyJ_done (by decide +kernel) ?_ _
        repeat gi_step
        rw [hsz]
        exact FIN.out w4 u1 u2 u3 b4
    · have p1 : ((k : Int) == a) = false := beq_eq_false_iff_ne.mpr hka
      rw [p1] at hnx
      clear hka
      refine wpIn_region_J (fun W => W.cell? ⟨w.heap.size + 1 + 1 + 1, 0, none⟩ = some (.bool true) ∧ W.cell? ⟨w2.heap.size + 1 + 1, 0, none⟩ = some (.pointer (some ⟨w2.heap.size + 1, 0, none⟩)) ∧ W.cell? ⟨w2.heap.size + 1, 4, none⟩ = some (.int .i64 k) ∧ W.cell? ⟨w.heap.size + 1 + 1, 0, none⟩ = some (.int .i64 a)) 99 (by kernel_rfl) (by kernel_rfl) (fun ⟨_, _, q⟩ => q) ⟨k3, k0, k1, k2⟩ (fun hS => ?_)
      repeat ((first | refine tk 0 (some 55) ?_ | refine tk0 1 (some 56) ?_ | refine tk 2 (some 57) ?_ | refine tk1 2 (some 57) ?_ | refine tk0 3 (some 58) ?_ | refine tk1 3 (some 58) ?_ | refine tk0 4 (some 59) ?_ | refine tk1 4 (some 59) ?_ | refine tk0 5 (some 60) ?_ | refine tk1 5 (some 60) ?_ | refine tk 6 (some 61) ?_ | refine tk1 6 (some 61) ?_ | refine tk 7 (some 62) ?_ | refine tk1 7 (some 62) ?_ | refine tk0 8 (some 63) ?_ | refine tk1 8 (some 63) ?_ | refine tk0 9 (some 64) ?_); simp only [Act.put, List.setIfInBounds_toArray, List.set_cons_zero, List.set_cons_succ])
      refine wpAnyJ_done (by decide +kernel) ?_ _
      clear hS k0 k1 k2 k3
      repeat gi_step
      have kX : Kept X X.drew (fun j => j = w2.heap.size + 1) := (Kept.refl X _).drew
      have bX : Below w.heap.size w X.drew := hX.below.drew
      have hrun0 := blk_drew hrun
      have x1 := blk_kept hX.cp kX (by omega)
      have x2 := blk_kept hX.c1 kX (by omega)
      have x3 := blk_kept hv kX (by omega)
      have x4 := own_kept hown kX (fun j hj e => by have : j = w2.heap.size + 1 := e; omega)
      have hsX := kX.1
      have y1 : X.drew.cell? ⟨w2.heap.size + 1 + 1, 0, none⟩ = some (.pointer (some ⟨w2.heap.size + 1, 0, none⟩)) := (blk_cell x1 0).trans rfl
      have y2 : X.drew.cell? ⟨w.heap.size + 1, 0, none⟩ = some (.slice A1 l.length c1) := (blk_cell x2 0).trans rfl
      have hC0 := Kd.C_below hr1 bX
      have hXs := hX.size
      have fin : ∀ w4 : World, w4.heap[w2.heap.size + 1]? = some (.cells #[.int .i64 (dtk q0 q1 q2 q3 wd dw rt (rdOf false l k)).1, .int .i64 (dtk q0 q1 q2 q3 wd dw rt (rdOf false l k)).2.1, .int .i64 (dtk q0 q1 q2 q3 wd dw rt (rdOf false l k)).2.2.1, .int .i64 (dtk q0 q1 q2 q3 wd dw rt (rdOf false l k)).2.2.2, .int .i64 ((k : Int) + 1), .bool ps, .int .i64 wd, .int .i64 dw, .int .i64 rt] 72) →
          (∃ v', w4.heap[w2.heap.size + 1 + 1 + 1]? = some (.cells #[v'] 27) ∧ w4.ownsRow (w2.heap.size + 7) 3 1 v' (k + 1) ((cpl wd dw rt l a true k ++ [(dtk q0 q1 q2 q3 wd dw rt (rdOf false l k)).2.1]).map (Value.int .i64))) →
          Kept X.drew w4 (fun j => j = w2.heap.size + 1 ∨ j = w2.heap.size + 1 + 1 + 1 ∨ w2.heap.size + 7 ≤ j) → Below w.heap.size w w4 →
          w4.heap[w2.heap.size + 6]? = X.heap[w2.heap.size + 6]? ∧ w4.heap[w2.heap.size + 5]? = X.heap[w2.heap.size + 5]? ∧ ∀ Ra, CPost w w2.heap.size wd dw rt A1 c1 l a true n k W2 (w4.putObj (w2.heap.size + 6) Ra) := by
        intro w4 u1 u2 u3 u4
        have kA : Kept X w4 (fun j => j = w2.heap.size + 1 ∨ j = w2.heap.size + 1 + 1 + 1 ∨ w2.heap.size + 7 ≤ j) := (kX.mono (fun j e => .inl e)).then_ u3 (fun j e => .inl e)
        obtain ⟨v', u5, u6⟩ := u2
        have st : CSt w w2.heap.size wd dw rt A1 c1 l a true n (k + 1) w4 := {
          below := u4
          size := Nat.le_trans hX.size kA.1
          c0 := blk_kept hX.c0 kA (by omega)
          c1 := blk_kept hX.c1 kA (by omega)
          c2 := blk_kept hX.c2 kA (by omega)
          c3 := blk_kept hX.c3 kA (by omega)
          run := ⟨_, by rw [hnx]; exact u1⟩
          cp := blk_kept hX.cp kA (by omega)
          out := ⟨v', u5, by rw [hpl, hnx]; exact u6⟩
          cn := blk_kept hX.cn kA (by omega) }
        exact ⟨kA.2 _ (by omega) (by omega), kA.2 _ (by omega) (by omega), fun Ra => ⟨st.putl Ra hbN⟩⟩
      have hVq : dV q0 q1 q2 q3 wd dw rt := hV
      have call : ∀ (o : Bool) (Z : World), Z = X.drew.drew → Calls Try.prog 49 #[.pointer (some ⟨w2.heap.size + 1, 0, none⟩), .bool o, .pointer (some ⟨w2.heap.size + 1 + 1 + 1, 0, none⟩)] Z _ := fun o Z hZ => runtick_calls (w2.heap.size + 1) (w2.heap.size + 1 + 1 + 1) q0 q1 q2 q3 (k : Int) ps wd dw rt o v k (w2.heap.size + 7) (cpl wd dw rt l a true k) Z (by rw [hZ]; exact blk_drew hrun0) (by rw [hZ]; exact blk_drew x3) (by rw [hZ]; exact x4) hVq (by omega) (by omega) (by rw [hZ]; show _ ≤ X.drew.heap.size; omega) (by omega) (by omega) (by omega)
      have CALL := Aside0.mk call
      have FIN := Aside0.mk fin
      by_cases hkl : k < l.length
      · have p63 : decide ((k : Int) < (l.length : Int)) = true := decide_eq_true (by omega)
        have p64 : (0 : Int) ≤ (k : Int) := by omega
        have p65 : (k : Int) < (l.length : Int) := by omega
        obtain ⟨ad, hA, ea⟩ := Kd.at_bool hC0 (k : Int) (by omega) (by omega)
        rw [Int.toNat_natCast] at ea
        have HR1 := Aside0.mk hr1
        clear call fin hr1
        subst hA
        refine wpIn_region_J (fun W => W.cell? ⟨w2.heap.size + 1 + 1, 0, none⟩ = some (.pointer (some ⟨w2.heap.size + 1, 0, none⟩)) ∧ W.cell? ⟨w.heap.size + 1, 0, none⟩ = some (.slice (some ad) l.length c1) ∧ W.cell? (ad.add k) = some (.bool (rdOf false l k))) 99 (by kernel_rfl) (by kernel_rfl) (fun ⟨_, _, q⟩ => q) ⟨y1, y2, ea⟩ (fun hS => ?_)
        repeat ((first | refine tk 0 (some 74) ?_ | refine tk0 1 (some 75) ?_ | refine tk 2 (some 76) ?_ | refine tk0 3 (some 77) ?_ | refine tk0 4 (some 78) ?_ | refine tk0 5 (some 79) ?_ | refine tk 6 (some 80) ?_ | refine tk1 6 (some 80) ?_ | refine tk0 7 (some 81) ?_ | refine tk1 7 (some 81) ?_ | refine tk0 8 (some 82) ?_ | refine tk1 8 (some 82) ?_ | refine tk 9 (some 83) ?_ | refine tk1 9 (some 83) ?_ | refine tk0 10 (some 84) ?_); simp only [Act.put, List.setIfInBounds_toArray, List.set_cons_zero, List.set_cons_succ])
        refine wpAnyJ_one (i := 11) (by decide +kernel) rfl (fun K hK => ?_)
        go_simp
        go_at_call 49
        refine (CALL.out _ _ rfl).mono ?_
        rintro e w4 ⟨rfl, u1, u2, u3, u4⟩
        have b4 : Below w.heap.size w w4 := bX.drew.trans (u4 _ (by omega) (by omega))
        have z1 := blk_kept (blk_drew x1) u3 (by omega)
        have z2 := blk_kept (blk_drew x2) u3 (by omega)
        obtain ⟨ad', e1, e2⟩ := Kd.at_bool (Kd.C_below HR1.out b4) (k : Int) p64 p65
        rw [Int.toNat_natCast] at e2
        cases e1
        refine hK.out _ _ (fun _ => ⟨(blk_cell z1 0).trans rfl, (blk_cell z2 0).trans rfl, e2⟩) (fun _ => ?_)
        clear hK K
        refine wpAnyJ_done (by decide +kernel) ?_ _
        repeat gi_step
        rw [hsz]
        exact FIN.out w4 u1 u2 u3 b4
      · have p63 : decide ((k : Int) < (l.length : Int)) = false := decide_eq_false (by omega)
        have hrd : rdOf false l (k : Int) = false := by unfold rdOf; rw [Int.toNat_natCast, List.getD_eq_getElem?_getD, List.getElem?_eq_none (by omega)]; rfl
        rw [hrd] at fin
        have FIN := Aside0.mk fin
        clear call fin hrd
        refine wpIn_region_J (fun W => W.cell? ⟨w2.heap.size + 1 + 1, 0, none⟩ = some (.pointer (some ⟨w2.heap.size + 1, 0, none⟩)) ∧ W.cell? ⟨w.heap.size + 1, 0, none⟩ = some (.slice A1 l.length c1)) 99 (by kernel_rfl) (by kernel_rfl) (fun ⟨_, _, q⟩ => q) ⟨y1, y2⟩ (fun hS => ?_)
        repeat ((first | refine tk 0 (some 74) ?_ | refine tk0 1 (some 75) ?_ | refine tk 2 (some 76) ?_ | refine tk0 3 (some 77) ?_ | refine tk0 4 (some 78) ?_ | refine tk0 5 (some 79) ?_ | refine tk 6 (some 80) ?_ | refine tk1 6 (some 80) ?_ | refine tk0 7 (some 81) ?_ | refine tk1 7 (some 81) ?_ | refine tk0 8 (some 82) ?_ | refine tk1 8 (some 82) ?_ | refine tk 9 (some 83) ?_ | refine tk1 9 (some 83) ?_ | refine tk0 10 (some 84) ?_); simp only [Act.put, List.setIfInBounds_toArray, List.set_cons_zero, List.set_cons_succ])
        refine wpAnyJ_one (i := 11) (by decide +kernel) rfl (fun K hK => ?_)
        go_simp
        go_at_call 49
        refine (CALL.out _ _ rfl).mono ?_
        rintro e w4 ⟨rfl, u1, u2, u3, u4⟩
        have b4 : Below w.heap.size w w4 := bX.drew.trans (u4 _ (by omega) (by omega))
        have z1 := blk_kept (blk_drew x1) u3 (by omega)
        have z2 := blk_kept (blk_drew x2) u3 (by omega)
        refine hK.out _ _ (fun _ => ⟨(blk_cell z1 0).trans rfl, (blk_cell z2 0).trans rfl⟩) (fun _ => ?_)
        clear hK K
        refine wpAnyJ_done (by decide +kernel) ?_ _
        repeat gi_step
        rw [hsz]
        exact FIN.out w4 u1 u2 u3 b4

theorem cycle_panels.calls (a0_0 : Int) (a0_1 : Int) (a0_2 : Int) (A1 : Option Addr) (c1 : Nat) (l1 : List Bool) (a2 : Int) (a3 : Bool) (r1 : List Int) (r2 : Int) (w : World) (hr1 : Kd.C Kd.bool w A1 l1.length l1) (hc1 : l1.length ≤ c1) (h : cycle_panels.f a0_0 a0_1 a0_2 l1 a2 a3 = some (r1, r2)) :
    Calls Try.prog 32 #[.agg #[.int .i64 a0_0, .int .i64 a0_1, .int .i64 a0_2], .slice A1 l1.length c1, .int .i64 a2, .bool a3] w fun e w' => ∃ v0_ : Value, e = .returned (.tuple #[v0_, .int .i64 r2]) ∧ Kd.R (Kd.int .i64) 3 w' w.heap.size (fun _ => True) v0_ r1 ∧ Below w.heap.size w w' := by
  unfold cycle_panels.f at h
  by_cases h1 : dRule a0_0 a0_1 a0_2
  · rw [if_pos h1] at h
    by_cases h2 : (l1.length : Int) > cwst a0_0 a0_1 a0_2
    · rw [if_pos h2] at h
      by_cases h3 : l1.length < 1000000000000000000
      · rw [if_pos h3] at h
        obtain ⟨rfl, rfl⟩ : [] = r1 ∧ 4 = r2 := by simpa using h
        refine (pan_long _ _ _ _ _ _ _ _ w h1 h2 h3).mono ?_
        rintro e w' ⟨rfl, hb⟩
        exact ⟨_, rfl, Kd.R_of_own (xs := []) (World.ownsRow_nil _ _ _ _) (fun _ _ => trivial), hb⟩
      · rw [if_neg h3] at h; cases h
    · rw [if_neg h2] at h
      cases a3
      · rw [if_neg (fun q => by cases q.1)] at h
        obtain ⟨rfl, rfl⟩ : _ = r1 ∧ 0 = r2 := by simpa using h
        exact pan_goodF _ _ _ _ _ _ _ w hr1 h1 h2
      · by_cases h3 : a2 < 0 ∨ a2 ≥ cwst a0_0 a0_1 a0_2
        · rw [if_pos ⟨rfl, h3⟩] at h
          obtain ⟨rfl, rfl⟩ : [] = r1 ∧ 2 = r2 := by simpa using h
          refine (pan_range _ _ _ _ _ _ _ w h1 h2 h3).mono ?_
          rintro e w' ⟨rfl, hb⟩
          exact ⟨_, rfl, Kd.R_of_own (xs := []) (World.ownsRow_nil _ _ _ _) (fun _ _ => trivial), hb⟩
        · rw [if_neg (fun q => h3 q.2)] at h
          obtain ⟨rfl, rfl⟩ : _ = r1 ∧ 0 = r2 := by simpa using h
          exact pan_goodT _ _ _ _ _ _ _ w hr1 h1 h2 (by omega) (by omega)
  · rw [if_neg h1] at h
    obtain ⟨rfl, rfl⟩ : [] = r1 ∧ 2 = r2 := by simpa using h
    refine (pan_rule _ _ _ _ _ _ _ _ w h1).mono ?_
    rintro e w' ⟨rfl, hb⟩
    exact ⟨_, rfl, Kd.R_of_own (xs := []) (World.ownsRow_nil _ _ _ _) (fun _ _ => trivial), hb⟩
end Go.Proofs.Ytmjmdnpenpdmhaa.P
