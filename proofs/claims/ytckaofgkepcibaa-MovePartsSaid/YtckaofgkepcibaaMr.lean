/- Package move: several ticks of a padded move: what they answer, and that the Go code comes to just this. -/
import Derived.Test.YtckaofgkepcibaaMb
namespace Go.Proofs.Ytckaofgkepcibaa.P
open Go.RowKit Go.Proofs.YtckaofgkepcibaaW.PrintWords Go.Proofs.YtckaofgkepcibaaW.PrintLast Go.Proofs.YtckaofgkepcibaaW.PrintMore
set_option linter.unusedVariables false
set_option linter.unusedSimpArgs false
attribute [local go_sem] cell_same1 cell_some1
abbrev D5 := Int × Int × Int × Int × Int
/-- So many ticks of a drive, and in how many the motor was commanded. -/
def mrn (sp br : Int) : Nat → D5 → Int → Option (D5 × Int)
  | 0, d, m => some (d, m)
  | n + 1, d, m => (drive_Step.f 9 d.1 d.2.1 d.2.2.1 d.2.2.2.1 d.2.2.2.2 sp br).bind fun q => if q.2.2.2.2.2.2 = 0 then mrn sp br n (q.1, q.2.1, q.2.2.1, q.2.2.2.1, q.2.2.2.2.1) (if q.2.2.2.2.2.1 = true then m + 1 else m) else none
def move_Run.f (a0_0 a0_1 a0_2 a0_3 a0_4 a0_5 a0_6 a1 a2 a3 : Int) : Option (Int × Int × Int × Int × Int × Int × Int × Int × Int) :=
  (move_Check.f a0_0 a0_1 a0_2 a0_3 a0_4 a0_5 a0_6 a1 a2).bind fun e => if e = 0 then (if 0 ≤ a3 ∧ a3 ≤ a0_5 - a0_6 then (mrn a1 a2 a3.toNat (a0_0, a0_1, a0_2, a0_3, a0_4) 0).bind fun q => some (q.1.1, q.1.2.1, q.1.2.2.1, q.1.2.2.2.1, q.1.2.2.2.2, a0_5, a0_6 + a3, q.2, 0) else none) else none

set_option maxHeartbeats 8000000 in
set_option maxRecDepth 100000 in
theorem move_Run.calls (a0_0 a0_1 a0_2 a0_3 a0_4 a0_5 a0_6 a1 a2 a3 : Int) (r1 r2 r3 r4 r5 r6 r7 r8 r9 : Int) (w : World) (h : move_Run.f a0_0 a0_1 a0_2 a0_3 a0_4 a0_5 a0_6 a1 a2 a3 = some (r1, r2, r3, r4, r5, r6, r7, r8, r9)) :
    Calls Try.prog 18 #[.agg #[.int .i64 a0_0, .int .i64 a0_1, .int .i64 a0_2, .int .i64 a0_3, .int .i64 a0_4, .int .i64 a0_5, .int .i64 a0_6], .int .i64 a1, .int .i64 a2, .int .i64 a3] w fun e w' => e = .returned (.tuple #[.agg #[.int .i64 r1, .int .i64 r2, .int .i64 r3, .int .i64 r4, .int .i64 r5, .int .i64 r6, .int .i64 r7], .int .i64 r8, .int .i64 r9]) ∧ Below w.heap.size w w' := by
  have HB := Aside0.mk (Below.refl w.heap.size w)
  unfold move_Run.f at h
  cases hs : move_Check.f a0_0 a0_1 a0_2 a0_3 a0_4 a0_5 a0_6 a1 a2 with
  | none => rw [hs] at h; cases h
  | some e =>
    rw [hs, Option.bind_some] at h
    have HC := Aside0.mk hs
    by_cases c0 : e = 0
    · rw [if_pos c0] at h
      subst c0
      obtain ⟨hd0, hd1, ht1⟩ := chk_bounds hs
      have b0 : ((0 : Int) == 0) = true := rfl
      clear hs
      by_cases c1 : 0 ≤ a3 ∧ a3 ≤ a0_5 - a0_6
      · rw [if_pos c1] at h
        obtain ⟨c2, c3⟩ := c1
        obtain ⟨N, rfl⟩ := Int.eq_ofNat_of_zero_le c2
        rw [Int.toNat_natCast] at h
        cases hq : mrn a1 a2 N (a0_0, a0_1, a0_2, a0_3, a0_4) 0 with
        | none => rw [hq] at h; cases h
        | some q =>
          rw [hq, Option.bind_some] at h
          obtain ⟨⟨q1, q2, q3, q4, q5⟩, qm⟩ := q
          dsimp only at h
          have HQ := Aside0.mk hq
          simp only [Option.some.injEq, Prod.mk.injEq] at h
          obtain ⟨rfl, rfl, rfl, rfl, rfl, rfl, rfl, rfl, rfl⟩ := h
          clear hq
          have d1 : decide ((N : Int) < 0) = false := decide_eq_false (by omega)
          have d2 : decide ((N : Int) > a0_5 - a0_6) = false := decide_eq_false (by omega)
          have d3 : decide (a0_5 - a0_6 < (N : Int)) = false := decide_eq_false (by omega)
          go_enter Try.func18, Try.ntmps18
          go_wp2_with (first
            | ((with_reducible refine gate_dst (N := 4) rfl ?_); refine bxe (cs := #[.int .i64 a0_0, .int .i64 a0_1, .int .i64 a0_2, .int .i64 a0_3, .int .i64 a0_4, .int .i64 a0_5, .int .i64 a0_6]) (t := 35) ?_; intro g4 hg w1 hbox hb; have BK4 := Aside0.mk hbox; have GE4 := Aside0.mk (bge hg HB.out); replace HB := Aside0.mk (bst HB.out hb); clear hb hbox hg)
            | ((with_reducible refine gate_dst (N := 8) rfl ?_); refine bxe (cs := #[.int .i64 0, .int .i64 0, .int .i64 0, .int .i64 0, .int .i64 0, .int .i64 0, .int .i64 0]) (t := 35) ?_; intro g8 hg w2 hbox hb; have BK8 := Aside0.mk hbox; have GE8 := Aside0.mk (bge hg HB.out); have NB := Aside0.mk (bkl hg BK4.out); replace BK4 := Aside0.mk (bkb BK4.out hb); replace HB := Aside0.mk (bst HB.out hb); clear hb hbox hg; have hcz4 := cz7 BK4.out; have hcz8 := cz7 BK8.out; have hfz8 := blk_frozen BK8.out)
            | (go_at_call 15; refine (move_Check.calls _ _ _ _ _ _ _ _ _ _ _ HC.out).mono ?_; rintro e w3 ⟨rfl, hb⟩; replace BK4 := Aside0.mk (bkb BK4.out hb); replace BK8 := Aside0.mk (bkb BK8.out hb); replace HB := Aside0.mk (bst HB.out hb); clear hb; have hcz4 := cz7 BK4.out; have hcz8 := cz7 BK8.out; have hfz8 := blk_frozen BK8.out)
            | (go_at_call 35; refine (move_of.calls _ _ _ _ _ _ _ _ _ _ _ _ _ _ _ _ _ _ _ _ (Below.refl _ _) rfl).mono ?_; rintro e w4 ⟨gp, rfl, hI, _, hb⟩; have HP := Aside0.mk hI.1; have NP := Aside0.mk (Nat.ne_of_lt (Nat.lt_of_lt_of_le (blk_lt (bkt BK8.out)) hI.2)); have NP3 := Aside0.mk (Nat.ne_of_lt (Nat.lt_of_lt_of_le (blk_lt (bkt BK4.out)) hI.2)); have GP := Aside0.mk (Nat.le_trans (bsz HB.out) hI.2); replace BK4 := Aside0.mk (bkb BK4.out hb); replace BK8 := Aside0.mk (bkb BK8.out hb); replace HB := Aside0.mk (bst HB.out hb); clear hb hI; have hcz8 := cz7 BK8.out; have hfz8 := blk_frozen BK8.out)
            )
          clear d1 d2 d3
          go_loopw [13, 41] (fun v13 v41 wr => ∃ (k : Nat) (p g s part left m : Int), k ≤ N ∧ v41 = .int .i64 k ∧ v13 = .int .i64 m ∧ 0 ≤ m ∧ m ≤ k ∧ Aside0 (mrn a1 a2 (N - k) (p, g, s, part, left) m = some ((q1, q2, q3, q4, q5), qm)) ∧
            Aside0 (wr.heap[gp]? = some (.cells #[.int .i64 p, .int .i64 g, .int .i64 s, .int .i64 part, .int .i64 left, .int .i64 a0_5, .int .i64 (a0_6 + k), .int .i64 a1, .int .i64 a2] 81)) ∧ Aside0 (wr.heap[g8]? = some (.cells #[.int .i64 0, .int .i64 0, .int .i64 0, .int .i64 0, .int .i64 0, .int .i64 0, .int .i64 0] 35)) ∧ Aside0 (Below w.heap.size w wr)) (fun _ v _ => N - (intOf v).toNat)
          case atStart => exact ⟨0, a0_0, a0_1, a0_2, a0_3, a0_4, 0, Nat.zero_le _, rfl, rfl, by omega, by omega, HQ, ⟨by simpa using HP.out⟩, BK8, HB⟩
          case round =>
            obtain ⟨k, p, g, s, part, left, m, hk, rfl, rfl, hm0, hm1, K1, K2, K3, K4⟩ := hrel
            clear HP BK8 BK4 HB HQ hcz8 hfz8
            have hcz8 := cz7 K3.out
            have hfz8 := blk_frozen K3.out
            by_cases hlt : k < N
            · have e1 : decide ((k : Int) < (N : Int)) = true := decide_eq_true (by omega)
              obtain ⟨j, hj⟩ : ∃ j, N - k = j + 1 := ⟨N - k - 1, by omega⟩
              have hK := K1.out
              rw [hj] at hK
              unfold mrn at hK
              dsimp only at hK
              cases hq : drive_Step.f 9 p g s part left a1 a2 with
              | none => rw [hq] at hK; cases hK
              | some q =>
                rw [hq, Option.bind_some] at hK
                obtain ⟨t1, t2, t3, t4, t5, tm, te⟩ := q
                dsimp only at hK
                by_cases he : te = 0
                · rw [if_pos he] at hK
                  subst he
                  have HS := Aside0.mk hq
                  have HK := Aside0.mk hK
                  have HJ := Aside0.mk (show N - (k + 1) = j by omega)
                  have hne : a0_6 + (k : Int) ≠ a0_5 := by omega
                  clear hq hK K1 hj
                  cases tm
                  all_goals
                    go_wp2_with (go_at_call 36; refine (mstep_calls _ _ _ _ _ _ _ _ _ _ _ _ _ _ _ _ _ _ K2.out hne (by omega) (by omega) HS.out).mono ?_; rintro e w6 ⟨_, hm⟩; obtain ⟨rfl, hp, hkk, hb⟩ := hm rfl; have HB6 := Aside0.mk (hb _ GP.out); replace K3 := Aside0.mk (blk_kept (bkt K3.out) hkk NP.out); replace K4 := Aside0.mk (Below.trans (bel K4.out) HB6.out); replace K2 := Aside0.mk hp; clear hm hp hkk hb; have hcz8 := cz7 K3.out; have hfz8 := blk_frozen K3.out)
                    go_roundw
                    case rel => exact ⟨k + 1, t1, t2, t3, t4, t5, _, by omega, by go_num, rfl, by omega, by omega, ⟨by rw [HJ.out]; exact HK.out⟩, ⟨by have h := K2.out; rw [show a0_6 + (k : Int) + 1 = a0_6 + ((k + 1 : Nat) : Int) by omega] at h; exact h⟩, K3, K4⟩
                    case measure => simp [intOf]; omega
                · rw [if_neg he] at hK; cases hK
            · obtain rfl : k = N := by omega
              have e1 : decide ((k : Int) < (k : Int)) = false := decide_eq_false (by omega)
              have hfin := K1.out
              rw [Nat.sub_self] at hfin
              simp only [mrn, Option.some.injEq, Prod.mk.injEq] at hfin
              obtain ⟨⟨rfl, rfl, rfl, rfl, rfl⟩, rfl⟩ := hfin
              clear K1
              go_wp2_with (go_at_call 37; refine (mpad_calls _ _ _ _ _ _ _ _ _ _ _ K2.out).mono ?_; rintro e w7 ⟨rfl, hb⟩; replace K3 := Aside0.mk (bkb K3.out hb); replace K4 := Aside0.mk (bst K4.out hb); clear hb; have hcz8 := cz7 K3.out; have hfz8 := blk_frozen K3.out)
              refine bodyPost_ret (results_ctt rfl _ _ g8 35 #[.int .i64 p, .int .i64 g, .int .i64 s, .int .i64 part, .int .i64 left, .int .i64 a0_5, .int .i64 (a0_6 + k)] (0, 0) _ rfl (bkt K3.out) Try.underlying35 rfl (by kernel_rfl)) rfl ?_
              exact ⟨rfl, bel K4.out⟩
      · rw [if_neg c1] at h; cases h
    · rw [if_neg c0] at h; cases h
end Go.Proofs.Ytckaofgkepcibaa.P
