/- Package move: the check of a padded move, whose error a deferred closure settles: what it answers, and that the Go code comes to just this. -/
import Derived.Test.YtckaofgkepcibaaP0move
import Derived.Test.YtckaofgkepcibaaP1drive
import Derived.Test.YtckaofgkepcibaaP1driveb
import Derived.Defers
namespace Go.Proofs.Ytckaofgkepcibaa.P
open Go.RowKit Go.Proofs.YtckaofgkepcibaaW.PrintWords Go.Proofs.YtckaofgkepcibaaW.PrintLast Go.Proofs.YtckaofgkepcibaaW.PrintMore
set_option linter.unusedVariables false
set_option linter.unusedSimpArgs false

/-- The error of a padded move whose drive and numbers are sound. -/
def mchk (q : Int × Int) (total done : Int) : Int := if q.2 = 0 then (if q.1 > total - done then 4 else 0) else q.2
def mbad (total done : Int) : Bool := decide (total < 0) || decide (total > 200000) || decide (done < 0) || decide (done > total)
def move_Check.f (a0_0 a0_1 a0_2 a0_3 a0_4 a0_5 a0_6 a1 a2 : Int) : Option Int :=
  (move_sound.f 9 a0_0 a0_1 a0_2 a0_3 a0_4 a1 a2).bind fun e => if e = 0 then (if mbad a0_5 a0_6 = true then some 2 else (drive_Needs.f 9 a0_0 a0_1 a0_2 a0_3 a0_4 a1 a2).bind fun q => some (mchk q a0_5 a0_6)) else some e

set_option maxHeartbeats 4000000 in
theorem mck1_calls (eb nb pb : Nat) (e n tot dn : Int) (c0 c1 c2 c3 c4 : Value) (u : FrameMode) (w : World)
    (he : w.heap[eb]? = some (.cells #[.int .i64 e] 24)) (hn : w.heap[nb]? = some (.cells #[.int .i64 n] 3)) (hp : w.heap[pb]? = some (.cells #[c0, c1, c2, c3, c4, .int .i64 tot, .int .i64 dn] 35))
    (h0 : 0 ≤ dn) (h1 : dn ≤ tot) (h2 : tot ≤ 200000) :
    CallsD Try.prog 38 #[.pointer (some ⟨eb, 0, none⟩), .pointer (some ⟨nb, 0, none⟩), .pointer (some ⟨pb, 0, none⟩)] u w
      fun e' u' w' => u' = u ∧ (e' = .returned (.tuple #[]) ∧ w'.heap[eb]? = some (.cells #[.int .i64 (mchk (n, e) tot dn)] 24) ∧ ∀ m, m ≤ eb → Below m w w') := by
  have e1 : w.cell? ⟨eb, 0, none⟩ = some (.int .i64 e) := (blk_cell he 0).trans rfl
  have e2 : w.cell? ⟨nb, 0, none⟩ = some (.int .i64 n) := (blk_cell hn 0).trans rfl
  have e3 : w.cell? ⟨pb, 5, none⟩ = some (.int .i64 tot) := (blk_cell hp 5).trans rfl
  have e4 : w.cell? ⟨pb, 6, none⟩ = some (.int .i64 dn) := (blk_cell hp 6).trans rfl
  have e5 := blk_frozen he 0
  have HE := Aside0.mk he
  clear he hn hp
  unfold mchk
  by_cases c0 : e = 0
  · subst c0
    by_cases c1 : n > tot - dn
    · have b1 : decide (n > tot - dn) = true := decide_eq_true c1
      have b2 : decide (tot - dn < n) = true := decide_eq_true c1
      go_enter_d Try.func38, Try.ntmps38
      go_wp2
      go_end0
      exact ⟨rfl, (blk_set HE.out 0 _).trans rfl, fun m hm => (Below.refl m w).setCell hm _⟩
    · have b1 : decide (n > tot - dn) = false := decide_eq_false c1
      have b2 : decide (tot - dn < n) = false := decide_eq_false c1
      go_enter_d Try.func38, Try.ntmps38
      go_wp2
      go_end0
      exact ⟨rfl, HE.out, fun m hm => Below.refl m w⟩
  · have b0 : (e == 0) = false := beq_eq_false_iff_ne.mpr c0
    go_enter_d Try.func38, Try.ntmps38
    go_wp2
    go_end0
    exact ⟨rfl, HE.out, fun m hm => Below.refl m w⟩

set_option maxHeartbeats 4000000 in
theorem move_Check.calls (a0_0 a0_1 a0_2 a0_3 a0_4 a0_5 a0_6 a1 a2 : Int) (r : Int) (w : World) (h : move_Check.f a0_0 a0_1 a0_2 a0_3 a0_4 a0_5 a0_6 a1 a2 = some r) :
    Calls Try.prog 15 #[.agg #[.int .i64 a0_0, .int .i64 a0_1, .int .i64 a0_2, .int .i64 a0_3, .int .i64 a0_4, .int .i64 a0_5, .int .i64 a0_6], .int .i64 a1, .int .i64 a2] w fun e w' => e = .returned (.int .i64 r) ∧ Below w.heap.size w w' := by
  have hmf : ∀ (fn : Fn) (first cap : Array Value) (w : World), (Instr.makeFunc fn first cap).run Try.prog w = .ok (.func fn first cap) w := fun _ _ _ _ => rfl
  have HB := Aside0.mk (Below.refl w.heap.size w)
  unfold move_Check.f at h
  cases hs : move_sound.f 9 a0_0 a0_1 a0_2 a0_3 a0_4 a1 a2 with
  | none => rw [hs] at h; cases h
  | some e =>
    rw [hs, Option.bind_some] at h
    have HS := Aside0.mk hs
    clear hs
    by_cases c0 : e = 0
    · rw [if_pos c0] at h
      subst c0
      have b0 : ((0 : Int) == 0) = true := rfl
      obtain ⟨b, hb⟩ : ∃ b, b = mbad a0_5 a0_6 := ⟨_, rfl⟩
      rw [← hb] at h
      by_cases c1 : a0_5 < 0 ∨ a0_5 > 200000
      · have hw : move_wrong.f a0_5 = some true := by
          unfold move_wrong.f
          by_cases q : a0_5 < 0
          · rw [if_pos q]
          · rw [if_neg q, decide_eq_true (c1.resolve_left q)]
        have hm : b = true := by
          rw [hb]; unfold mbad
          rcases c1 with q | q
          · rw [decide_eq_true q]; rfl
          · rw [decide_eq_true q]; simp
        rw [if_pos hm] at h
        obtain rfl : (2 : Int) = r := by simpa using h
        have HW := Aside0.mk hw
        clear h hb hm c1 hw
        go_enter_defers Try.func15, Try.ntmps15
        go_wp2_with (first
          | ((with_reducible refine gate_dst (N := 3) rfl ?_); refine bxe (cs := #[.int .i64 a0_0, .int .i64 a0_1, .int .i64 a0_2, .int .i64 a0_3, .int .i64 a0_4, .int .i64 a0_5, .int .i64 a0_6]) (t := 35) ?_; intro g3 hg w1 hbox hb; have BK3 := Aside0.mk hbox; have GE3 := Aside0.mk (bge hg HB.out); replace HB := Aside0.mk (bst HB.out hb); clear hb hbox hg)
          | ((with_reducible refine gate_dst (N := 6) rfl ?_); refine bxe (cs := #[.int .i64 0]) (t := 24) ?_; intro g6 hg w2 hbox hb; have BK6 := Aside0.mk hbox; have GE6 := Aside0.mk (bge hg HB.out); have NB := Aside0.mk (bkl hg BK3.out); replace BK3 := Aside0.mk (bkb BK3.out hb); replace HB := Aside0.mk (bst HB.out hb); clear hb hbox hg; have hcz3 := cz7 BK3.out; have hcz6 := cz1 BK6.out; have hfz6 := blk_frozen BK6.out)
          | (go_at_call 29; refine (move_sound.calls 9 _ _ _ _ _ _ _ _ _ HS.out).mono ?_; rintro e w3 ⟨rfl, hb⟩; replace BK3 := Aside0.mk (bkb BK3.out hb); replace BK6 := Aside0.mk (bkb BK6.out hb); replace HB := Aside0.mk (bst HB.out hb); clear hb; have hcz3 := cz7 BK3.out; have hcz6 := cz1 BK6.out; have hfz6 := blk_frozen BK6.out)
          | ((with_reducible refine gate_dst (N := 8) rfl ?_); refine bxe (cs := #[.int .i64 0]) (t := 3) ?_; intro g8 hg w5 hbox hb; have BK8 := Aside0.mk hbox; have GE8 := Aside0.mk (bge hg HB.out); have NB1 := Aside0.mk (bkl hg BK3.out); have NB2 := Aside0.mk (bkl hg BK6.out); have NB3 := Aside0.mk (Ne.symm NB1.out); have NB4 := Aside0.mk (Ne.symm NB2.out); have NB5 := Aside0.mk (Ne.symm NB.out); replace BK3 := Aside0.mk (bkb BK3.out hb); replace BK6 := Aside0.mk (bkb BK6.out hb); replace HB := Aside0.mk (bst HB.out hb); clear hb hbox hg; have hcz3 := cz7 BK3.out; have hcz6 := cz1 BK6.out; have hfz6 := blk_frozen BK6.out; have hcz8 := cz1 BK8.out; have hfz8 := blk_frozen BK8.out; have nb1 := NB1.out; have nb2 := NB2.out; have nb3 := Ne.symm NB1.out; have nb4 := Ne.symm NB2.out; have nb5 := NB.out; have nb6 := Ne.symm NB.out)
          | (go_at_call 39; refine (drive_Needs.calls 9 _ _ _ _ _ _ _ _ _ _ HN.out).mono ?_; rintro e w6 ⟨rfl, hb⟩; replace BK3 := Aside0.mk (bkb BK3.out hb); replace BK6 := Aside0.mk (bkb BK6.out hb); replace BK8 := Aside0.mk (show w6.heap[g8]? = some (.cells #[.int .i64 0] 3) from blk_below (bkt BK8.out) hb); replace HB := Aside0.mk (bst HB.out hb); clear hb; have hcz3 := cz7 BK3.out; have hcz6 := cz1 BK6.out; have hfz6 := blk_frozen BK6.out; have hcz8 := cz1 BK8.out; have hfz8 := blk_frozen BK8.out)
          | (go_at_call 31; refine (move_wrong.calls _ true _ HW.out).mono ?_; rintro e w3 ⟨rfl, ⟨nd, rfl⟩⟩))
        refine ⟨.int .i64 2, by simp [results, Try.results15, go_sem, hcz6], rfl, ?_⟩
        exact below_set (bel HB.out) GE6.out
      · have hw : move_wrong.f a0_5 = some false := by
          unfold move_wrong.f
          rw [if_neg (fun q => c1 (.inl q)), decide_eq_false (fun q => c1 (.inr q))]
        have HW := Aside0.mk hw
        clear hw
        have ht0 : 0 ≤ a0_5 := by omega
        have ht1 : a0_5 ≤ 200000 := by omega
        clear c1
        by_cases c2 : a0_6 < 0 ∨ a0_6 > a0_5
        · have hm : b = true := by
            rw [hb]; unfold mbad
            rcases c2 with q | q
            · rw [decide_eq_true q]; simp
            · rw [decide_eq_true q]; simp
          rw [if_pos hm] at h
          obtain rfl : (2 : Int) = r := by simpa using h
          clear h hb hm
          by_cases q : a0_6 < 0
          · have q1 : decide (a0_6 < 0) = true := decide_eq_true q
            clear c2
            go_enter_defers Try.func15, Try.ntmps15
            go_wp2_with (first
              | ((with_reducible refine gate_dst (N := 3) rfl ?_); refine bxe (cs := #[.int .i64 a0_0, .int .i64 a0_1, .int .i64 a0_2, .int .i64 a0_3, .int .i64 a0_4, .int .i64 a0_5, .int .i64 a0_6]) (t := 35) ?_; intro g3 hg w1 hbox hb; have BK3 := Aside0.mk hbox; have GE3 := Aside0.mk (bge hg HB.out); replace HB := Aside0.mk (bst HB.out hb); clear hb hbox hg)
              | ((with_reducible refine gate_dst (N := 6) rfl ?_); refine bxe (cs := #[.int .i64 0]) (t := 24) ?_; intro g6 hg w2 hbox hb; have BK6 := Aside0.mk hbox; have GE6 := Aside0.mk (bge hg HB.out); have NB := Aside0.mk (bkl hg BK3.out); replace BK3 := Aside0.mk (bkb BK3.out hb); replace HB := Aside0.mk (bst HB.out hb); clear hb hbox hg; have hcz3 := cz7 BK3.out; have hcz6 := cz1 BK6.out; have hfz6 := blk_frozen BK6.out)
              | (go_at_call 29; refine (move_sound.calls 9 _ _ _ _ _ _ _ _ _ HS.out).mono ?_; rintro e w3 ⟨rfl, hb⟩; replace BK3 := Aside0.mk (bkb BK3.out hb); replace BK6 := Aside0.mk (bkb BK6.out hb); replace HB := Aside0.mk (bst HB.out hb); clear hb; have hcz3 := cz7 BK3.out; have hcz6 := cz1 BK6.out; have hfz6 := blk_frozen BK6.out)
              | ((with_reducible refine gate_dst (N := 8) rfl ?_); refine bxe (cs := #[.int .i64 0]) (t := 3) ?_; intro g8 hg w5 hbox hb; have BK8 := Aside0.mk hbox; have GE8 := Aside0.mk (bge hg HB.out); have NB1 := Aside0.mk (bkl hg BK3.out); have NB2 := Aside0.mk (bkl hg BK6.out); have NB3 := Aside0.mk (Ne.symm NB1.out); have NB4 := Aside0.mk (Ne.symm NB2.out); have NB5 := Aside0.mk (Ne.symm NB.out); replace BK3 := Aside0.mk (bkb BK3.out hb); replace BK6 := Aside0.mk (bkb BK6.out hb); replace HB := Aside0.mk (bst HB.out hb); clear hb hbox hg; have hcz3 := cz7 BK3.out; have hcz6 := cz1 BK6.out; have hfz6 := blk_frozen BK6.out; have hcz8 := cz1 BK8.out; have hfz8 := blk_frozen BK8.out; have nb1 := NB1.out; have nb2 := NB2.out; have nb3 := Ne.symm NB1.out; have nb4 := Ne.symm NB2.out; have nb5 := NB.out; have nb6 := Ne.symm NB.out)
              | (go_at_call 39; refine (drive_Needs.calls 9 _ _ _ _ _ _ _ _ _ _ HN.out).mono ?_; rintro e w6 ⟨rfl, hb⟩; replace BK3 := Aside0.mk (bkb BK3.out hb); replace BK6 := Aside0.mk (bkb BK6.out hb); replace BK8 := Aside0.mk (show w6.heap[g8]? = some (.cells #[.int .i64 0] 3) from blk_below (bkt BK8.out) hb); replace HB := Aside0.mk (bst HB.out hb); clear hb; have hcz3 := cz7 BK3.out; have hcz6 := cz1 BK6.out; have hfz6 := blk_frozen BK6.out; have hcz8 := cz1 BK8.out; have hfz8 := blk_frozen BK8.out)
              | (go_at_call 31; refine (move_wrong.calls _ false _ HW.out).mono ?_; rintro e w3 ⟨rfl, ⟨nd, rfl⟩⟩))
            refine ⟨.int .i64 2, by simp [results, Try.results15, go_sem, hcz6], rfl, ?_⟩
            exact below_set (bel HB.out) GE6.out
          · have q1 : decide (a0_6 < 0) = false := decide_eq_false q
            have q2 : decide (a0_6 > a0_5) = true := decide_eq_true (c2.resolve_left q)
            have q3 : decide (a0_5 < a0_6) = true := decide_eq_true (c2.resolve_left q)
            clear c2
            go_enter_defers Try.func15, Try.ntmps15
            go_wp2_with (first
              | ((with_reducible refine gate_dst (N := 3) rfl ?_); refine bxe (cs := #[.int .i64 a0_0, .int .i64 a0_1, .int .i64 a0_2, .int .i64 a0_3, .int .i64 a0_4, .int .i64 a0_5, .int .i64 a0_6]) (t := 35) ?_; intro g3 hg w1 hbox hb; have BK3 := Aside0.mk hbox; have GE3 := Aside0.mk (bge hg HB.out); replace HB := Aside0.mk (bst HB.out hb); clear hb hbox hg)
              | ((with_reducible refine gate_dst (N := 6) rfl ?_); refine bxe (cs := #[.int .i64 0]) (t := 24) ?_; intro g6 hg w2 hbox hb; have BK6 := Aside0.mk hbox; have GE6 := Aside0.mk (bge hg HB.out); have NB := Aside0.mk (bkl hg BK3.out); replace BK3 := Aside0.mk (bkb BK3.out hb); replace HB := Aside0.mk (bst HB.out hb); clear hb hbox hg; have hcz3 := cz7 BK3.out; have hcz6 := cz1 BK6.out; have hfz6 := blk_frozen BK6.out)
              | (go_at_call 29; refine (move_sound.calls 9 _ _ _ _ _ _ _ _ _ HS.out).mono ?_; rintro e w3 ⟨rfl, hb⟩; replace BK3 := Aside0.mk (bkb BK3.out hb); replace BK6 := Aside0.mk (bkb BK6.out hb); replace HB := Aside0.mk (bst HB.out hb); clear hb; have hcz3 := cz7 BK3.out; have hcz6 := cz1 BK6.out; have hfz6 := blk_frozen BK6.out)
              | ((with_reducible refine gate_dst (N := 8) rfl ?_); refine bxe (cs := #[.int .i64 0]) (t := 3) ?_; intro g8 hg w5 hbox hb; have BK8 := Aside0.mk hbox; have GE8 := Aside0.mk (bge hg HB.out); have NB1 := Aside0.mk (bkl hg BK3.out); have NB2 := Aside0.mk (bkl hg BK6.out); have NB3 := Aside0.mk (Ne.symm NB1.out); have NB4 := Aside0.mk (Ne.symm NB2.out); have NB5 := Aside0.mk (Ne.symm NB.out); replace BK3 := Aside0.mk (bkb BK3.out hb); replace BK6 := Aside0.mk (bkb BK6.out hb); replace HB := Aside0.mk (bst HB.out hb); clear hb hbox hg; have hcz3 := cz7 BK3.out; have hcz6 := cz1 BK6.out; have hfz6 := blk_frozen BK6.out; have hcz8 := cz1 BK8.out; have hfz8 := blk_frozen BK8.out; have nb1 := NB1.out; have nb2 := NB2.out; have nb3 := Ne.symm NB1.out; have nb4 := Ne.symm NB2.out; have nb5 := NB.out; have nb6 := Ne.symm NB.out)
              | (go_at_call 39; refine (drive_Needs.calls 9 _ _ _ _ _ _ _ _ _ _ HN.out).mono ?_; rintro e w6 ⟨rfl, hb⟩; replace BK3 := Aside0.mk (bkb BK3.out hb); replace BK6 := Aside0.mk (bkb BK6.out hb); replace BK8 := Aside0.mk (show w6.heap[g8]? = some (.cells #[.int .i64 0] 3) from blk_below (bkt BK8.out) hb); replace HB := Aside0.mk (bst HB.out hb); clear hb; have hcz3 := cz7 BK3.out; have hcz6 := cz1 BK6.out; have hfz6 := blk_frozen BK6.out; have hcz8 := cz1 BK8.out; have hfz8 := blk_frozen BK8.out)
              | (go_at_call 31; refine (move_wrong.calls _ false _ HW.out).mono ?_; rintro e w3 ⟨rfl, ⟨nd, rfl⟩⟩))
            refine ⟨.int .i64 2, by simp [results, Try.results15, go_sem, hcz6], rfl, ?_⟩
            exact below_set (bel HB.out) GE6.out
        · have hm : b = false := by
            rw [hb]; unfold mbad
            simp; omega
          rw [if_neg (by rw [hm]; simp)] at h
          cases hn : drive_Needs.f 9 a0_0 a0_1 a0_2 a0_3 a0_4 a1 a2 with
          | none => rw [hn] at h; cases h
          | some nq =>
            rw [hn, Option.bind_some] at h
            obtain ⟨n, e2⟩ := nq
            obtain rfl : mchk (n, e2) a0_5 a0_6 = r := by simpa using h
            have HN := Aside0.mk hn
            have hd0 : 0 ≤ a0_6 := by omega
            have hd1 : a0_6 ≤ a0_5 := by omega
            have q1 : decide (a0_6 < 0) = false := decide_eq_false (by omega)
            have q2 : decide (a0_6 > a0_5) = false := decide_eq_false (by omega)
            have q3 : decide (a0_5 < a0_6) = false := decide_eq_false (by omega)
            clear h hb hm hn c2
            obtain ⟨r, hr⟩ : ∃ r, r = mchk (n, e2) a0_5 a0_6 := ⟨_, rfl⟩
            rw [← hr]
            have HR := Aside0.mk hr
            clear hr
            go_enter_defers Try.func15, Try.ntmps15
            go_wp2_with (first
              | ((with_reducible refine gate_dst (N := 3) rfl ?_); refine bxe (cs := #[.int .i64 a0_0, .int .i64 a0_1, .int .i64 a0_2, .int .i64 a0_3, .int .i64 a0_4, .int .i64 a0_5, .int .i64 a0_6]) (t := 35) ?_; intro g3 hg w1 hbox hb; have BK3 := Aside0.mk hbox; have GE3 := Aside0.mk (bge hg HB.out); replace HB := Aside0.mk (bst HB.out hb); clear hb hbox hg)
              | ((with_reducible refine gate_dst (N := 6) rfl ?_); refine bxe (cs := #[.int .i64 0]) (t := 24) ?_; intro g6 hg w2 hbox hb; have BK6 := Aside0.mk hbox; have GE6 := Aside0.mk (bge hg HB.out); have NB := Aside0.mk (bkl hg BK3.out); replace BK3 := Aside0.mk (bkb BK3.out hb); replace HB := Aside0.mk (bst HB.out hb); clear hb hbox hg; have hcz3 := cz7 BK3.out; have hcz6 := cz1 BK6.out; have hfz6 := blk_frozen BK6.out)
              | (go_at_call 29; refine (move_sound.calls 9 _ _ _ _ _ _ _ _ _ HS.out).mono ?_; rintro e w3 ⟨rfl, hb⟩; replace BK3 := Aside0.mk (bkb BK3.out hb); replace BK6 := Aside0.mk (bkb BK6.out hb); replace HB := Aside0.mk (bst HB.out hb); clear hb; have hcz3 := cz7 BK3.out; have hcz6 := cz1 BK6.out; have hfz6 := blk_frozen BK6.out)
              | ((with_reducible refine gate_dst (N := 8) rfl ?_); refine bxe (cs := #[.int .i64 0]) (t := 3) ?_; intro g8 hg w5 hbox hb; have BK8 := Aside0.mk hbox; have GE8 := Aside0.mk (bge hg HB.out); have NB1 := Aside0.mk (bkl hg BK3.out); have NB2 := Aside0.mk (bkl hg BK6.out); have NB3 := Aside0.mk (Ne.symm NB1.out); have NB4 := Aside0.mk (Ne.symm NB2.out); have NB5 := Aside0.mk (Ne.symm NB.out); replace BK3 := Aside0.mk (bkb BK3.out hb); replace BK6 := Aside0.mk (bkb BK6.out hb); replace HB := Aside0.mk (bst HB.out hb); clear hb hbox hg; have hcz3 := cz7 BK3.out; have hcz6 := cz1 BK6.out; have hfz6 := blk_frozen BK6.out; have hcz8 := cz1 BK8.out; have hfz8 := blk_frozen BK8.out; have nb1 := NB1.out; have nb2 := NB2.out; have nb3 := Ne.symm NB1.out; have nb4 := Ne.symm NB2.out; have nb5 := NB.out; have nb6 := Ne.symm NB.out)
              | (go_at_call 39; refine (drive_Needs.calls 9 _ _ _ _ _ _ _ _ _ _ HN.out).mono ?_; rintro e w6 ⟨rfl, hb⟩; replace BK3 := Aside0.mk (bkb BK3.out hb); replace BK6 := Aside0.mk (bkb BK6.out hb); replace BK8 := Aside0.mk (show w6.heap[g8]? = some (.cells #[.int .i64 0] 3) from blk_below (bkt BK8.out) hb); replace HB := Aside0.mk (bst HB.out hb); clear hb; have hcz3 := cz7 BK3.out; have hcz6 := cz1 BK6.out; have hfz6 := blk_frozen BK6.out; have hcz8 := cz1 BK8.out; have hfz8 := blk_frozen BK8.out)
              | (go_at_call 31; refine (move_wrong.calls _ false _ HW.out).mono ?_; rintro e w3 ⟨rfl, ⟨nd, rfl⟩⟩))
            refine leaves_cons (f := 38) (args := #[.pointer (some ⟨g6, 0, none⟩), .pointer (some ⟨g8, 0, none⟩), .pointer (some ⟨g3, 0, none⟩)]) (by simp) (by simp [go_sem]) ?_
            refine (mck1_calls g6 g8 g3 e2 n a0_5 a0_6 _ _ _ _ _ .returning _ (bkt BK6.out) (bkt BK8.out) (bkt BK3.out) hd0 hd1 ht1).mono ?_
            rintro e u' w9 ⟨rfl, rfl, t1, t2⟩
            rw [← HR.out] at t1
            have t3 : w9.cell? ⟨g6, 0, none⟩ = some (.int .i64 r) := (blk_cell t1 0).trans rfl
            refine ⟨.int .i64 r, by simp [results, Try.results15, go_sem, t3], rfl, ?_⟩
            exact Below.trans (bel HB.out) (t2 w.heap.size GE6.out)
    · rw [if_neg c0] at h
      obtain rfl : e = r := by simpa using h
      have b0 : (e == 0) = false := beq_eq_false_iff_ne.mpr c0
      have b1 : (e != 0) = true := bne_iff_ne.mpr c0
      have HW : Aside0 (move_wrong.f 0 = some false) := ⟨rfl⟩
      clear h c0
      go_enter_defers Try.func15, Try.ntmps15
      go_wp2_with (first
        | ((with_reducible refine gate_dst (N := 3) rfl ?_); refine bxe (cs := #[.int .i64 a0_0, .int .i64 a0_1, .int .i64 a0_2, .int .i64 a0_3, .int .i64 a0_4, .int .i64 a0_5, .int .i64 a0_6]) (t := 35) ?_; intro g3 hg w1 hbox hb; have BK3 := Aside0.mk hbox; have GE3 := Aside0.mk (bge hg HB.out); replace HB := Aside0.mk (bst HB.out hb); clear hb hbox hg)
        | ((with_reducible refine gate_dst (N := 6) rfl ?_); refine bxe (cs := #[.int .i64 0]) (t := 24) ?_; intro g6 hg w2 hbox hb; have BK6 := Aside0.mk hbox; have GE6 := Aside0.mk (bge hg HB.out); have NB := Aside0.mk (bkl hg BK3.out); replace BK3 := Aside0.mk (bkb BK3.out hb); replace HB := Aside0.mk (bst HB.out hb); clear hb hbox hg; have hcz3 := cz7 BK3.out; have hcz6 := cz1 BK6.out; have hfz6 := blk_frozen BK6.out)
        | (go_at_call 29; refine (move_sound.calls 9 _ _ _ _ _ _ _ _ _ HS.out).mono ?_; rintro e w3 ⟨rfl, hb⟩; replace BK3 := Aside0.mk (bkb BK3.out hb); replace BK6 := Aside0.mk (bkb BK6.out hb); replace HB := Aside0.mk (bst HB.out hb); clear hb; have hcz3 := cz7 BK3.out; have hcz6 := cz1 BK6.out; have hfz6 := blk_frozen BK6.out)
        | ((with_reducible refine gate_dst (N := 8) rfl ?_); refine bxe (cs := #[.int .i64 0]) (t := 3) ?_; intro g8 hg w5 hbox hb; have BK8 := Aside0.mk hbox; have GE8 := Aside0.mk (bge hg HB.out); have NB1 := Aside0.mk (bkl hg BK3.out); have NB2 := Aside0.mk (bkl hg BK6.out); have NB3 := Aside0.mk (Ne.symm NB1.out); have NB4 := Aside0.mk (Ne.symm NB2.out); have NB5 := Aside0.mk (Ne.symm NB.out); replace BK3 := Aside0.mk (bkb BK3.out hb); replace BK6 := Aside0.mk (bkb BK6.out hb); replace HB := Aside0.mk (bst HB.out hb); clear hb hbox hg; have hcz3 := cz7 BK3.out; have hcz6 := cz1 BK6.out; have hfz6 := blk_frozen BK6.out; have hcz8 := cz1 BK8.out; have hfz8 := blk_frozen BK8.out; have nb1 := NB1.out; have nb2 := NB2.out; have nb3 := Ne.symm NB1.out; have nb4 := Ne.symm NB2.out; have nb5 := NB.out; have nb6 := Ne.symm NB.out)
        | (go_at_call 39; refine (drive_Needs.calls 9 _ _ _ _ _ _ _ _ _ _ HN.out).mono ?_; rintro e w6 ⟨rfl, hb⟩; replace BK3 := Aside0.mk (bkb BK3.out hb); replace BK6 := Aside0.mk (bkb BK6.out hb); replace BK8 := Aside0.mk (show w6.heap[g8]? = some (.cells #[.int .i64 0] 3) from blk_below (bkt BK8.out) hb); replace HB := Aside0.mk (bst HB.out hb); clear hb; have hcz3 := cz7 BK3.out; have hcz6 := cz1 BK6.out; have hfz6 := blk_frozen BK6.out; have hcz8 := cz1 BK8.out; have hfz8 := blk_frozen BK8.out)
        | (go_at_call 31; refine (move_wrong.calls _ false _ HW.out).mono ?_; rintro e w3 ⟨rfl, ⟨nd, rfl⟩⟩))
      refine ⟨.int .i64 e, by simp [results, Try.results15, go_sem, hcz6], rfl, ?_⟩
      exact below_set (bel HB.out) GE6.out
end Go.Proofs.Ytckaofgkepcibaa.P
