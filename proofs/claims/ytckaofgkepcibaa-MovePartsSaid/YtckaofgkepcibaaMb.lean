/- Package move: a tick of a padded move in memory, a tick and several ticks of one: what they answer, and that the Go code comes to just this. -/
import Derived.Test.YtckaofgkepcibaaMa
import Derived.Deep.RegionHeld3
namespace Go.Proofs.Ytckaofgkepcibaa.P
open Go.RowKit Go.Proofs.YtckaofgkepcibaaW.PrintWords Go.Proofs.YtckaofgkepcibaaW.PrintLast Go.Proofs.YtckaofgkepcibaaW.PrintMore
set_option linter.unusedVariables false
set_option linter.unusedSimpArgs false
attribute [local go_sem] cell_same1 cell_some1

theorem cells9 {W : World} {rb : Nat} {t : TypeId} {v0 v1 v2 v3 v4 v5 v6 v7 v8 : Value} (h : W.heap[rb]? = some (.cells #[v0, v1, v2, v3, v4, v5, v6, v7, v8] t (0, 0))) :
    W.cell? ⟨rb, 0, none⟩ = some v0 ∧ W.cell? ⟨rb, 1, none⟩ = some v1 ∧ W.cell? ⟨rb, 2, none⟩ = some v2 ∧ W.cell? ⟨rb, 3, none⟩ = some v3 ∧ W.cell? ⟨rb, 4, none⟩ = some v4 ∧ W.cell? ⟨rb, 5, none⟩ = some v5 ∧ W.cell? ⟨rb, 6, none⟩ = some v6 ∧ W.cell? ⟨rb, 7, none⟩ = some v7 ∧ W.cell? ⟨rb, 8, none⟩ = some v8 :=
  ⟨(blk_cell h 0).trans rfl, (blk_cell h 1).trans rfl, (blk_cell h 2).trans rfl, (blk_cell h 3).trans rfl, (blk_cell h 4).trans rfl, (blk_cell h 5).trans rfl, (blk_cell h 6).trans rfl, (blk_cell h 7).trans rfl, (blk_cell h 8).trans rfl⟩

set_option maxHeartbeats 4000000 in
theorem mstep_over (rb : Nat) (p g s part left tot dn sp br : Int) (w : World) (hdt : dn = tot)
    (hr : w.heap[rb]? = some (.cells #[.int .i64 p, .int .i64 g, .int .i64 s, .int .i64 part, .int .i64 left, .int .i64 tot, .int .i64 dn, .int .i64 sp, .int .i64 br] 81)) :
    Calls Try.prog 36 #[.pointer (some ⟨rb, 0, none⟩)] w fun e w' => e = .returned (.tuple #[.bool false, .int .i64 9]) ∧ Below w.heap.size w w' := by
  have HB := Aside0.mk (Below.refl w.heap.size w)
  subst hdt
  obtain ⟨c0, c1, c2, c3, c4, c5, c6, c7, c8⟩ := cells9 hr
  have hb : ((dn : Int) == dn) = true := by simp
  go_enter Try.func36, Try.ntmps36
  go_wp2
  go_quiet (fail)
  go_wp2
  go_ret2
  exact ⟨rfl, bel HB.out⟩

structure MQ (w : World) (rb q : Nat) (p g s part left tot dn sp br p' g' s' part' left' : Int) (W : World) : Prop where
  below : Below w.heap.size w W
  atr : W.heap[rb]? = some (.cells #[.int .i64 p, .int .i64 g, .int .i64 s, .int .i64 part, .int .i64 left, .int .i64 tot, .int .i64 dn, .int .i64 sp, .int .i64 br] 81)
  atq : W.heap[q]? = some (.cells #[.int .i64 p', .int .i64 g', .int .i64 s', .int .i64 part', .int .i64 left'] 33)
  ne : rb ≠ q
  lo : w.heap.size ≤ q
def MSP (rb : Nat) (tot dn sp br p' g' s' part' left' : Int) (m : Bool) (e : Int) (w : World) (en : Ending) (w' : World) : Prop :=
  (e ≠ 0 → en = .returned (.tuple #[.bool false, .int .i64 e]) ∧ Below w.heap.size w w') ∧
      (e = 0 → en = .returned (.tuple #[.bool m, .int .i64 0]) ∧ w'.heap[rb]? = some (.cells #[.int .i64 p', .int .i64 g', .int .i64 s', .int .i64 part', .int .i64 left', .int .i64 tot, .int .i64 (dn + 1), .int .i64 sp, .int .i64 br] 81) ∧ Kept w w' (fun k => k = rb) ∧ ∀ n, n ≤ rb → Below n w w')
set_option maxHeartbeats 4000000 in
theorem mstep_calls (rb : Nat) (p g s part left tot dn sp br : Int) (p' g' s' part' left' : Int) (m : Bool) (e : Int) (w : World)
    (hr : w.heap[rb]? = some (.cells #[.int .i64 p, .int .i64 g, .int .i64 s, .int .i64 part, .int .i64 left, .int .i64 tot, .int .i64 dn, .int .i64 sp, .int .i64 br] 81))
    (hne : dn ≠ tot) (h0 : 0 ≤ dn) (h1 : dn ≤ 1000000) (h : drive_Step.f 9 p g s part left sp br = some (p', g', s', part', left', m, e)) :
    Calls Try.prog 36 #[.pointer (some ⟨rb, 0, none⟩)] w (MSP rb tot dn sp br p' g' s' part' left' m e w) := by
  have HB := Aside0.mk (Below.refl w.heap.size w)
  have HR := Aside0.mk hr
  have HS := Aside0.mk h
  obtain ⟨c0, c1, c2, c3, c4, c5, c6, c7, c8⟩ := cells9 hr
  have hb : ((dn : Int) == tot) = false := beq_eq_false_iff_ne.mpr hne
  have HNE1 := Aside0.mk (Nat.ne_of_lt (blk_lt hr))
  have HLE1 := Aside0.mk (Nat.le_refl w.heap.size)
  clear h hr
  go_enter Try.func36, Try.ntmps36
  go_wp2
  go_quiet (fail)
  go_wp2
  go_region_held3 (fun w' => w'.cell? ⟨rb, 0, none⟩ = some (.int .i64 p) ∧ w'.cell? ⟨rb, 1, none⟩ = some (.int .i64 g) ∧ w'.cell? ⟨rb, 2, none⟩ = some (.int .i64 s) ∧ w'.cell? ⟨rb, 3, none⟩ = some (.int .i64 part) ∧ w'.cell? ⟨rb, 4, none⟩ = some (.int .i64 left) ∧ w'.cell? ⟨rb, 5, none⟩ = some (.int .i64 tot) ∧ w'.cell? ⟨rb, 6, none⟩ = some (.int .i64 dn) ∧ w'.cell? ⟨rb, 7, none⟩ = some (.int .i64 sp) ∧ w'.cell? ⟨rb, 8, none⟩ = some (.int .i64 br)) ((first | exact cells9 (bkt HR2.out) | exact cells9 (bkt HR.out))) ((first
    | (go_at_call 49; refine (drive_Step.calls 9 _ _ _ _ _ _ _ _ _ _ _ _ _ _ _ HS.out).mono ?_; rintro e' w1 ⟨rfl, hb⟩; have HR2 := Aside0.mk (bkb HR.out hb); have HB2 := Aside0.mk (bst HB.out hb); have HNE2 := Aside0.mk (Nat.ne_of_lt (blk_lt HR2.out)); have HLE2 := Aside0.mk (bsz HB2.out); (try (have hN := blk_below (blk_new _ _) hb; have HN := Aside0.mk (show w1.heap[w.heap.size]? = some (.cells #[.int .i64 0, .int .i64 0, .int .i64 0, .int .i64 0, .int .i64 0] 33) from hN); clear hN; have hcn := cz5 HN.out; have hfn := blk_frozen HN.out)))))
  · have hM : MQ w rb w1.heap.size p g s part left tot dn sp br p' g' s' part' left' (w1.alloc (.cells #[.int .i64 p', .int .i64 g', .int .i64 s', .int .i64 part', .int .i64 left'] 33)) := ⟨below_alloc HB2.out _, blk_alloc HR2.out _, blk_new _ _, HNE2.out, HLE2.out⟩
    generalize w1.heap.size = q at hM ⊢
    generalize w1.alloc (.cells #[.int .i64 p', .int .i64 g', .int .i64 s', .int .i64 part', .int .i64 left'] 33) = W at hM ⊢
    clear HR2 HB2 HNE2 HLE2
    have HM := Aside0.mk hM
    have hq := cz5 hM.atq
    have hr := cells9 hM.atr
    have hf := blk_frozen hM.atr
    have n1 := hM.ne
    have n2 := Ne.symm hM.ne
    clear hM
    clear c0 c1 c2 c3 c4 c5 c6 c7 c8
    by_cases he : e = 0
    · subst he
      go_wp2
      go_ret2
      have K1 : ∀ (W : World) (u0 u1 u2 u3 u4 u6 : Value), Kept W ((((((W.setCell ⟨rb, 0, none⟩ u0).setCell ⟨rb, 1, none⟩ u1).setCell ⟨rb, 2, none⟩ u2).setCell ⟨rb, 3, none⟩ u3).setCell ⟨rb, 4, none⟩ u4).setCell ⟨rb, 6, none⟩ u6) (fun k => k = rb) := fun W u0 u1 u2 u3 u4 u6 => by
        refine Kept.setCell (S := fun k => k = rb) (p := ⟨rb, 6, none⟩) ?_ (Or.inl rfl) _
        refine Kept.setCell (S := fun k => k = rb) (p := ⟨rb, 4, none⟩) ?_ (Or.inl rfl) _
        refine Kept.setCell (S := fun k => k = rb) (p := ⟨rb, 3, none⟩) ?_ (Or.inl rfl) _
        refine Kept.setCell (S := fun k => k = rb) (p := ⟨rb, 2, none⟩) ?_ (Or.inl rfl) _
        refine Kept.setCell (S := fun k => k = rb) (p := ⟨rb, 1, none⟩) ?_ (Or.inl rfl) _
        exact Kept.setCell (S := fun k => k = rb) (p := ⟨rb, 0, none⟩) (Kept.refl W _) (Or.inl rfl) _
      exact And.intro (fun q => absurd rfl q) (fun _ => ⟨rfl, bkt HM.out.atr, (Kept.of_below HM.out.below _).then_ (K1 _ _ _ _ _ _ _) (fun k h => .inl h), fun n hn =>
        have hlt : n ≤ w.heap.size := Nat.le_trans hn (Nat.le_of_lt (blk_lt HR.out))
        (((((((HM.out.below).mono hlt).setCell hn _).setCell hn _).setCell hn _).setCell hn _).setCell hn _).setCell hn _⟩)
    · have b0 : (e == 0) = false := beq_eq_false_iff_ne.mpr he
      have b1 : (e != 0) = true := bne_iff_ne.mpr he
      go_wp2
      go_ret2
      exact And.intro (fun _ => ⟨rfl, HM.out.below⟩) (fun q => absurd q he)
  · have hM : MQ w rb w.heap.size p g s part left tot dn sp br p' g' s' part' left' (((((w1.setCell ⟨w.heap.size, 0, none⟩ (.int .i64 p')).setCell ⟨w.heap.size, 1, none⟩ (.int .i64 g')).setCell ⟨w.heap.size, 2, none⟩ (.int .i64 s')).setCell ⟨w.heap.size, 3, none⟩ (.int .i64 part')).setCell ⟨w.heap.size, 4, none⟩ (.int .i64 left')) := ⟨bel HB2.out, bkt HR2.out, bkt HN.out, HNE1.out, HLE1.out⟩
    generalize (((((w1.setCell ⟨w.heap.size, 0, none⟩ (.int .i64 p')).setCell ⟨w.heap.size, 1, none⟩ (.int .i64 g')).setCell ⟨w.heap.size, 2, none⟩ (.int .i64 s')).setCell ⟨w.heap.size, 3, none⟩ (.int .i64 part')).setCell ⟨w.heap.size, 4, none⟩ (.int .i64 left')) = W at hM ⊢
    generalize w.heap.size = q at hM ⊢
    clear HR2 HB2 HNE2 HLE2 HN hcn hfn
    have HM := Aside0.mk hM
    have hq := cz5 hM.atq
    have hr := cells9 hM.atr
    have hf := blk_frozen hM.atr
    have n1 := hM.ne
    have n2 := Ne.symm hM.ne
    clear hM
    clear c0 c1 c2 c3 c4 c5 c6 c7 c8
    by_cases he : e = 0
    · subst he
      go_wp2
      go_ret2
      have K1 : ∀ (W : World) (u0 u1 u2 u3 u4 u6 : Value), Kept W ((((((W.setCell ⟨rb, 0, none⟩ u0).setCell ⟨rb, 1, none⟩ u1).setCell ⟨rb, 2, none⟩ u2).setCell ⟨rb, 3, none⟩ u3).setCell ⟨rb, 4, none⟩ u4).setCell ⟨rb, 6, none⟩ u6) (fun k => k = rb) := fun W u0 u1 u2 u3 u4 u6 => by
        refine Kept.setCell (S := fun k => k = rb) (p := ⟨rb, 6, none⟩) ?_ (Or.inl rfl) _
        refine Kept.setCell (S := fun k => k = rb) (p := ⟨rb, 4, none⟩) ?_ (Or.inl rfl) _
        refine Kept.setCell (S := fun k => k = rb) (p := ⟨rb, 3, none⟩) ?_ (Or.inl rfl) _
        refine Kept.setCell (S := fun k => k = rb) (p := ⟨rb, 2, none⟩) ?_ (Or.inl rfl) _
        refine Kept.setCell (S := fun k => k = rb) (p := ⟨rb, 1, none⟩) ?_ (Or.inl rfl) _
        exact Kept.setCell (S := fun k => k = rb) (p := ⟨rb, 0, none⟩) (Kept.refl W _) (Or.inl rfl) _
      exact And.intro (fun q => absurd rfl q) (fun _ => ⟨rfl, bkt HM.out.atr, (Kept.of_below HM.out.below _).then_ (K1 _ _ _ _ _ _ _) (fun k h => .inl h), fun n hn =>
        have hlt : n ≤ w.heap.size := Nat.le_trans hn (Nat.le_of_lt (blk_lt HR.out))
        (((((((HM.out.below).mono hlt).setCell hn _).setCell hn _).setCell hn _).setCell hn _).setCell hn _).setCell hn _⟩)
    · have b0 : (e == 0) = false := beq_eq_false_iff_ne.mpr he
      have b1 : (e != 0) = true := bne_iff_ne.mpr he
      go_wp2
      go_ret2
      exact And.intro (fun _ => ⟨rfl, HM.out.below⟩) (fun q => absurd q he)

set_option maxHeartbeats 4000000 in
theorem mpad_calls (rb : Nat) (p g s part left tot dn sp br : Int) (w : World)
    (hr : w.heap[rb]? = some (.cells #[.int .i64 p, .int .i64 g, .int .i64 s, .int .i64 part, .int .i64 left, .int .i64 tot, .int .i64 dn, .int .i64 sp, .int .i64 br] 81)) :
    Calls Try.prog 37 #[.pointer (some ⟨rb, 0, none⟩)] w fun e w' => e = .returned (.agg #[.int .i64 p, .int .i64 g, .int .i64 s, .int .i64 part, .int .i64 left, .int .i64 tot, .int .i64 dn]) ∧ Below w.heap.size w w' := by
  have HB := Aside0.mk (Below.refl w.heap.size w)
  have HR := Aside0.mk hr
  clear hr
  go_enter Try.func37, Try.ntmps37
  go_upto_region 1 with ((with_reducible refine gate_dst (N := 2) rfl ?_); refine bxe (cs := #[.int .i64 0, .int .i64 0, .int .i64 0, .int .i64 0, .int .i64 0, .int .i64 0, .int .i64 0]) (t := 35) ?_; intro g2 hg w1 hbox hb; have BK := Aside0.mk hbox; have GE := Aside0.mk (bge hg HB.out); have NB := Aside0.mk (bkg hg HR.out); have NB2 := Aside0.mk (Ne.symm NB.out); replace HR := Aside0.mk (bkb HR.out hb); replace HB := Aside0.mk (bst HB.out hb); clear hb hbox hg)
  obtain ⟨c0, c1, c2, c3, c4, c5, c6, c7, c8⟩ := cells9 HR.out
  have hcz := cz7 BK.out
  have hfz := blk_frozen BK.out
  go_region_held3 (fun w' => w'.cell? ⟨rb, 0, none⟩ = some (.int .i64 p) ∧ w'.cell? ⟨rb, 1, none⟩ = some (.int .i64 g) ∧ w'.cell? ⟨rb, 2, none⟩ = some (.int .i64 s) ∧ w'.cell? ⟨rb, 3, none⟩ = some (.int .i64 part) ∧ w'.cell? ⟨rb, 4, none⟩ = some (.int .i64 left) ∧ w'.cell? ⟨rb, 5, none⟩ = some (.int .i64 tot) ∧ w'.cell? ⟨rb, 6, none⟩ = some (.int .i64 dn) ∧ w'.cell? ⟨rb, 7, none⟩ = some (.int .i64 sp) ∧ w'.cell? ⟨rb, 8, none⟩ = some (.int .i64 br)) (exact cells9 (bkt HR.out)) (fail)
  go_wp2
  refine bodyPost_ret (results_single rfl (.cell g2 35 _ (0, 0) _ rfl (bkt BK.out) Try.underlying35 rfl (by kernel_rfl) .nil)) rfl ?_
  exact ⟨rfl, bel HB.out⟩

theorem chk_bounds {a0_0 a0_1 a0_2 a0_3 a0_4 a0_5 a0_6 a1 a2 : Int} (h : move_Check.f a0_0 a0_1 a0_2 a0_3 a0_4 a0_5 a0_6 a1 a2 = some 0) : 0 ≤ a0_6 ∧ a0_6 ≤ a0_5 ∧ a0_5 ≤ 200000 := by
  unfold move_Check.f at h
  cases hs : move_sound.f 9 a0_0 a0_1 a0_2 a0_3 a0_4 a1 a2 with
  | none => rw [hs] at h; cases h
  | some e =>
    rw [hs, Option.bind_some] at h
    by_cases c0 : e = 0
    · rw [if_pos c0] at h
      by_cases c1 : mbad a0_5 a0_6 = true
      · rw [if_pos c1] at h; simp at h
      · unfold mbad at c1
        simp at c1
        omega
    · rw [if_neg c0] at h
      simp at h
      exact absurd h c0
def move_Step.f (a0_0 a0_1 a0_2 a0_3 a0_4 a0_5 a0_6 a1 a2 : Int) : Option (Int × Int × Int × Int × Int × Int × Int × Bool × Int) :=
  (move_Check.f a0_0 a0_1 a0_2 a0_3 a0_4 a0_5 a0_6 a1 a2).bind fun e => if e = 0 then (if a0_6 = a0_5 then some (0, 0, 0, 0, 0, 0, 0, false, 9) else
    (drive_Step.f 9 a0_0 a0_1 a0_2 a0_3 a0_4 a1 a2).bind fun q => if q.2.2.2.2.2.2 = 0 then some (q.1, q.2.1, q.2.2.1, q.2.2.2.1, q.2.2.2.2.1, a0_5, a0_6 + 1, q.2.2.2.2.2.1, 0) else some (0, 0, 0, 0, 0, 0, 0, false, q.2.2.2.2.2.2)) else some (0, 0, 0, 0, 0, 0, 0, false, e)

set_option maxHeartbeats 8000000 in
set_option maxRecDepth 100000 in
theorem move_Step.calls (a0_0 a0_1 a0_2 a0_3 a0_4 a0_5 a0_6 a1 a2 : Int) (r1 r2 r3 r4 r5 r6 r7 : Int) (r8 : Bool) (r9 : Int) (w : World) (h : move_Step.f a0_0 a0_1 a0_2 a0_3 a0_4 a0_5 a0_6 a1 a2 = some (r1, r2, r3, r4, r5, r6, r7, r8, r9)) :
    Calls Try.prog 14 #[.agg #[.int .i64 a0_0, .int .i64 a0_1, .int .i64 a0_2, .int .i64 a0_3, .int .i64 a0_4, .int .i64 a0_5, .int .i64 a0_6], .int .i64 a1, .int .i64 a2] w fun e w' => e = .returned (.tuple #[.agg #[.int .i64 r1, .int .i64 r2, .int .i64 r3, .int .i64 r4, .int .i64 r5, .int .i64 r6, .int .i64 r7], .bool r8, .int .i64 r9]) ∧ Below w.heap.size w w' := by
  have HB := Aside0.mk (Below.refl w.heap.size w)
  unfold move_Step.f at h
  cases hs : move_Check.f a0_0 a0_1 a0_2 a0_3 a0_4 a0_5 a0_6 a1 a2 with
  | none => rw [hs] at h; cases h
  | some e =>
    rw [hs, Option.bind_some] at h
    have HC := Aside0.mk hs
    by_cases c0 : e = 0
    · rw [if_pos c0] at h
      subst c0
      obtain ⟨hd0, hd1, ht1⟩ := chk_bounds hs
      have b0 : ((0 : Int) == 0) = true := rfl
      clear hs
      by_cases c1 : a0_6 = a0_5
      · rw [if_pos c1] at h
        have HQ := Aside0.mk c1
        clear c1
        simp only [Option.some.injEq, Prod.mk.injEq] at h
        obtain ⟨rfl, rfl, rfl, rfl, rfl, rfl, rfl, rfl, rfl⟩ := h
        go_enter Try.func14, Try.ntmps14
        go_wp2_with (first
          | ((with_reducible refine gate_dst (N := 3) rfl ?_); refine bxe (cs := #[.int .i64 a0_0, .int .i64 a0_1, .int .i64 a0_2, .int .i64 a0_3, .int .i64 a0_4, .int .i64 a0_5, .int .i64 a0_6]) (t := 35) ?_; intro g3 hg w1 hbox hb; have BK3 := Aside0.mk hbox; have GE3 := Aside0.mk (bge hg HB.out); replace HB := Aside0.mk (bst HB.out hb); clear hb hbox hg)
          | ((with_reducible refine gate_dst (N := 6) rfl ?_); refine bxe (cs := #[.int .i64 0, .int .i64 0, .int .i64 0, .int .i64 0, .int .i64 0, .int .i64 0, .int .i64 0]) (t := 35) ?_; intro g6 hg w2 hbox hb; have BK6 := Aside0.mk hbox; have GE6 := Aside0.mk (bge hg HB.out); have NB := Aside0.mk (bkl hg BK3.out); replace BK3 := Aside0.mk (bkb BK3.out hb); replace HB := Aside0.mk (bst HB.out hb); clear hb hbox hg; have hcz3 := cz7 BK3.out; have hcz6 := cz7 BK6.out; have hfz6 := blk_frozen BK6.out)
          | (go_at_call 15; refine (move_Check.calls _ _ _ _ _ _ _ _ _ _ _ HC.out).mono ?_; rintro e w3 ⟨rfl, hb⟩; replace BK3 := Aside0.mk (bkb BK3.out hb); replace BK6 := Aside0.mk (bkb BK6.out hb); replace HB := Aside0.mk (bst HB.out hb); clear hb; have hcz3 := cz7 BK3.out; have hcz6 := cz7 BK6.out; have hfz6 := blk_frozen BK6.out)
          | (go_at_call 35; refine (move_of.calls _ _ _ _ _ _ _ _ _ _ _ _ _ _ _ _ _ _ _ _ (Below.refl _ _) rfl).mono ?_; rintro e w4 ⟨gp, rfl, hI, _, hb⟩; have HP := Aside0.mk hI.1; have NP := Aside0.mk (Nat.ne_of_lt (Nat.lt_of_lt_of_le (blk_lt (bkt BK6.out)) hI.2)); have NP3 := Aside0.mk (Nat.ne_of_lt (Nat.lt_of_lt_of_le (blk_lt (bkt BK3.out)) hI.2)); have GP := Aside0.mk (Nat.le_trans (bsz HB.out) hI.2); replace BK3 := Aside0.mk (bkb BK3.out hb); replace BK6 := Aside0.mk (bkb BK6.out hb); replace HB := Aside0.mk (bst HB.out hb); clear hb hI; have hcz6 := cz7 BK6.out; have hfz6 := blk_frozen BK6.out)
          | (go_at_call 36; refine (mstep_over _ _ _ _ _ _ _ _ _ _ _ HQ.out HP.out).mono ?_; rintro e w6 ⟨rfl, hb⟩; replace BK3 := Aside0.mk (bkb BK3.out hb); replace BK6 := Aside0.mk (bkb BK6.out hb); replace HB := Aside0.mk (bst HB.out hb); clear hb; have hcz6 := cz7 BK6.out; have hfz6 := blk_frozen BK6.out))
        refine bodyPost_ret (results_ctt rfl _ _ g6 35 #[.int .i64 0, .int .i64 0, .int .i64 0, .int .i64 0, .int .i64 0, .int .i64 0, .int .i64 0] (0, 0) _ rfl (bkt BK6.out) Try.underlying35 rfl (by kernel_rfl)) rfl ?_
        exact ⟨rfl, bel HB.out⟩
      · rw [if_neg c1] at h
        cases hq : drive_Step.f 9 a0_0 a0_1 a0_2 a0_3 a0_4 a1 a2 with
        | none => rw [hq] at h; cases h
        | some q =>
          rw [hq, Option.bind_some] at h
          obtain ⟨q1, q2, q3, q4, q5, qm, qe⟩ := q
          dsimp only at h
          have HS := Aside0.mk hq
          have HQ := Aside0.mk c1
          clear hq c1
          by_cases c2 : qe = 0
          · rw [if_pos c2] at h
            subst c2
            simp only [Option.some.injEq, Prod.mk.injEq] at h
            obtain ⟨rfl, rfl, rfl, rfl, rfl, rfl, rfl, rfl, rfl⟩ := h
            go_enter Try.func14, Try.ntmps14
            go_wp2_with (first
              | ((with_reducible refine gate_dst (N := 3) rfl ?_); refine bxe (cs := #[.int .i64 a0_0, .int .i64 a0_1, .int .i64 a0_2, .int .i64 a0_3, .int .i64 a0_4, .int .i64 a0_5, .int .i64 a0_6]) (t := 35) ?_; intro g3 hg w1 hbox hb; have BK3 := Aside0.mk hbox; have GE3 := Aside0.mk (bge hg HB.out); replace HB := Aside0.mk (bst HB.out hb); clear hb hbox hg)
              | ((with_reducible refine gate_dst (N := 6) rfl ?_); refine bxe (cs := #[.int .i64 0, .int .i64 0, .int .i64 0, .int .i64 0, .int .i64 0, .int .i64 0, .int .i64 0]) (t := 35) ?_; intro g6 hg w2 hbox hb; have BK6 := Aside0.mk hbox; have GE6 := Aside0.mk (bge hg HB.out); have NB := Aside0.mk (bkl hg BK3.out); replace BK3 := Aside0.mk (bkb BK3.out hb); replace HB := Aside0.mk (bst HB.out hb); clear hb hbox hg; have hcz3 := cz7 BK3.out; have hcz6 := cz7 BK6.out; have hfz6 := blk_frozen BK6.out)
              | (go_at_call 15; refine (move_Check.calls _ _ _ _ _ _ _ _ _ _ _ HC.out).mono ?_; rintro e w3 ⟨rfl, hb⟩; replace BK3 := Aside0.mk (bkb BK3.out hb); replace BK6 := Aside0.mk (bkb BK6.out hb); replace HB := Aside0.mk (bst HB.out hb); clear hb; have hcz3 := cz7 BK3.out; have hcz6 := cz7 BK6.out; have hfz6 := blk_frozen BK6.out)
              | (go_at_call 35; refine (move_of.calls _ _ _ _ _ _ _ _ _ _ _ _ _ _ _ _ _ _ _ _ (Below.refl _ _) rfl).mono ?_; rintro e w4 ⟨gp, rfl, hI, _, hb⟩; have HP := Aside0.mk hI.1; have NP := Aside0.mk (Nat.ne_of_lt (Nat.lt_of_lt_of_le (blk_lt (bkt BK6.out)) hI.2)); have NP3 := Aside0.mk (Nat.ne_of_lt (Nat.lt_of_lt_of_le (blk_lt (bkt BK3.out)) hI.2)); have GP := Aside0.mk (Nat.le_trans (bsz HB.out) hI.2); replace BK3 := Aside0.mk (bkb BK3.out hb); replace BK6 := Aside0.mk (bkb BK6.out hb); replace HB := Aside0.mk (bst HB.out hb); clear hb hI; have hcz6 := cz7 BK6.out; have hfz6 := blk_frozen BK6.out)
              | (go_at_call 36; refine (mstep_calls _ _ _ _ _ _ _ _ _ _ _ _ _ _ _ _ _ _ HP.out HQ.out hd0 (by omega) HS.out).mono ?_; rintro e w6 ⟨_, hm⟩; obtain ⟨rfl, hp, hk, hb⟩ := hm rfl; have HB6 := Aside0.mk (hb _ GP.out); replace BK3 := Aside0.mk (blk_kept (bkt BK3.out) hk NP3.out); replace BK6 := Aside0.mk (blk_kept (bkt BK6.out) hk NP.out); replace HB := Aside0.mk (Below.trans (bel HB.out) HB6.out); replace HP := Aside0.mk hp; clear hm hp hk hb; have hcz6 := cz7 BK6.out; have hfz6 := blk_frozen BK6.out)
              | (go_at_call 37; refine (mpad_calls _ _ _ _ _ _ _ _ _ _ _ HP.out).mono ?_; rintro e w7 ⟨rfl, hb⟩; replace BK6 := Aside0.mk (bkb BK6.out hb); replace HB := Aside0.mk (bst HB.out hb); clear hb; have hcz6 := cz7 BK6.out; have hfz6 := blk_frozen BK6.out))
            refine bodyPost_ret (results_ctt rfl _ _ g6 35 #[.int .i64 q1, .int .i64 q2, .int .i64 q3, .int .i64 q4, .int .i64 q5, .int .i64 a0_5, .int .i64 (a0_6 + 1)] (0, 0) _ rfl (bkt BK6.out) Try.underlying35 rfl (by kernel_rfl)) rfl ?_
            exact ⟨rfl, bel HB.out⟩
          · rw [if_neg c2] at h
            simp only [Option.some.injEq, Prod.mk.injEq] at h
            obtain ⟨rfl, rfl, rfl, rfl, rfl, rfl, rfl, rfl, rfl⟩ := h
            have b2 : (qe == 0) = false := beq_eq_false_iff_ne.mpr c2
            have b3 : (qe != 0) = true := bne_iff_ne.mpr c2
            have HN := Aside0.mk c2
            clear c2
            go_enter Try.func14, Try.ntmps14
            go_wp2_with (first
              | ((with_reducible refine gate_dst (N := 3) rfl ?_); refine bxe (cs := #[.int .i64 a0_0, .int .i64 a0_1, .int .i64 a0_2, .int .i64 a0_3, .int .i64 a0_4, .int .i64 a0_5, .int .i64 a0_6]) (t := 35) ?_; intro g3 hg w1 hbox hb; have BK3 := Aside0.mk hbox; have GE3 := Aside0.mk (bge hg HB.out); replace HB := Aside0.mk (bst HB.out hb); clear hb hbox hg)
              | ((with_reducible refine gate_dst (N := 6) rfl ?_); refine bxe (cs := #[.int .i64 0, .int .i64 0, .int .i64 0, .int .i64 0, .int .i64 0, .int .i64 0, .int .i64 0]) (t := 35) ?_; intro g6 hg w2 hbox hb; have BK6 := Aside0.mk hbox; have GE6 := Aside0.mk (bge hg HB.out); have NB := Aside0.mk (bkl hg BK3.out); replace BK3 := Aside0.mk (bkb BK3.out hb); replace HB := Aside0.mk (bst HB.out hb); clear hb hbox hg; have hcz3 := cz7 BK3.out; have hcz6 := cz7 BK6.out; have hfz6 := blk_frozen BK6.out)
              | (go_at_call 15; refine (move_Check.calls _ _ _ _ _ _ _ _ _ _ _ HC.out).mono ?_; rintro e w3 ⟨rfl, hb⟩; replace BK3 := Aside0.mk (bkb BK3.out hb); replace BK6 := Aside0.mk (bkb BK6.out hb); replace HB := Aside0.mk (bst HB.out hb); clear hb; have hcz3 := cz7 BK3.out; have hcz6 := cz7 BK6.out; have hfz6 := blk_frozen BK6.out)
              | (go_at_call 35; refine (move_of.calls _ _ _ _ _ _ _ _ _ _ _ _ _ _ _ _ _ _ _ _ (Below.refl _ _) rfl).mono ?_; rintro e w4 ⟨gp, rfl, hI, _, hb⟩; have HP := Aside0.mk hI.1; have NP := Aside0.mk (Nat.ne_of_lt (Nat.lt_of_lt_of_le (blk_lt (bkt BK6.out)) hI.2)); have NP3 := Aside0.mk (Nat.ne_of_lt (Nat.lt_of_lt_of_le (blk_lt (bkt BK3.out)) hI.2)); have GP := Aside0.mk (Nat.le_trans (bsz HB.out) hI.2); replace BK3 := Aside0.mk (bkb BK3.out hb); replace BK6 := Aside0.mk (bkb BK6.out hb); replace HB := Aside0.mk (bst HB.out hb); clear hb hI; have hcz6 := cz7 BK6.out; have hfz6 := blk_frozen BK6.out)
              | (go_at_call 36; refine (mstep_calls _ _ _ _ _ _ _ _ _ _ _ _ _ _ _ _ _ _ HP.out HQ.out hd0 (by omega) HS.out).mono ?_; rintro e w6 ⟨hm, _⟩; obtain ⟨rfl, hb⟩ := hm HN.out; replace BK6 := Aside0.mk (bkb BK6.out hb); replace HB := Aside0.mk (bst HB.out hb); clear hm hb; have hcz6 := cz7 BK6.out; have hfz6 := blk_frozen BK6.out))
            refine bodyPost_ret (results_ctt rfl _ _ g6 35 #[.int .i64 0, .int .i64 0, .int .i64 0, .int .i64 0, .int .i64 0, .int .i64 0, .int .i64 0] (0, 0) _ rfl (bkt BK6.out) Try.underlying35 rfl (by kernel_rfl)) rfl ?_
            exact ⟨rfl, bel HB.out⟩
    · rw [if_neg c0] at h
      simp only [Option.some.injEq, Prod.mk.injEq] at h
      obtain ⟨rfl, rfl, rfl, rfl, rfl, rfl, rfl, rfl, rfl⟩ := h
      have b0 : (e == 0) = false := beq_eq_false_iff_ne.mpr c0
      have b1 : (e != 0) = true := bne_iff_ne.mpr c0
      clear hs c0
      go_enter Try.func14, Try.ntmps14
      go_wp2_with (first
        | ((with_reducible refine gate_dst (N := 3) rfl ?_); refine bxe (cs := #[.int .i64 a0_0, .int .i64 a0_1, .int .i64 a0_2, .int .i64 a0_3, .int .i64 a0_4, .int .i64 a0_5, .int .i64 a0_6]) (t := 35) ?_; intro g3 hg w1 hbox hb; have BK3 := Aside0.mk hbox; have GE3 := Aside0.mk (bge hg HB.out); replace HB := Aside0.mk (bst HB.out hb); clear hb hbox hg)
        | ((with_reducible refine gate_dst (N := 6) rfl ?_); refine bxe (cs := #[.int .i64 0, .int .i64 0, .int .i64 0, .int .i64 0, .int .i64 0, .int .i64 0, .int .i64 0]) (t := 35) ?_; intro g6 hg w2 hbox hb; have BK6 := Aside0.mk hbox; have GE6 := Aside0.mk (bge hg HB.out); have NB := Aside0.mk (bkl hg BK3.out); replace BK3 := Aside0.mk (bkb BK3.out hb); replace HB := Aside0.mk (bst HB.out hb); clear hb hbox hg; have hcz3 := cz7 BK3.out; have hcz6 := cz7 BK6.out; have hfz6 := blk_frozen BK6.out)
        | (go_at_call 15; refine (move_Check.calls _ _ _ _ _ _ _ _ _ _ _ HC.out).mono ?_; rintro e w3 ⟨rfl, hb⟩; replace BK3 := Aside0.mk (bkb BK3.out hb); replace BK6 := Aside0.mk (bkb BK6.out hb); replace HB := Aside0.mk (bst HB.out hb); clear hb; have hcz3 := cz7 BK3.out; have hcz6 := cz7 BK6.out; have hfz6 := blk_frozen BK6.out)
        | (go_at_call 35; refine (move_of.calls _ _ _ _ _ _ _ _ _ _ _ _ _ _ _ _ _ _ _ _ (Below.refl _ _) rfl).mono ?_; rintro e w4 ⟨gp, rfl, hI, _, hb⟩; have HP := Aside0.mk hI.1; have NP := Aside0.mk (Nat.ne_of_lt (Nat.lt_of_lt_of_le (blk_lt (bkt BK6.out)) hI.2)); have NP3 := Aside0.mk (Nat.ne_of_lt (Nat.lt_of_lt_of_le (blk_lt (bkt BK3.out)) hI.2)); have GP := Aside0.mk (Nat.le_trans (bsz HB.out) hI.2); replace BK3 := Aside0.mk (bkb BK3.out hb); replace BK6 := Aside0.mk (bkb BK6.out hb); replace HB := Aside0.mk (bst HB.out hb); clear hb hI; have hcz6 := cz7 BK6.out; have hfz6 := blk_frozen BK6.out)
        )
      refine bodyPost_ret (results_ctt rfl _ _ g6 35 #[.int .i64 0, .int .i64 0, .int .i64 0, .int .i64 0, .int .i64 0, .int .i64 0, .int .i64 0] (0, 0) _ rfl (bkt BK6.out) Try.underlying35 rfl (by kernel_rfl)) rfl ?_
      exact ⟨rfl, bel HB.out⟩
end Go.Proofs.Ytckaofgkepcibaa.P
