/- What the brake and its reference compute, in closed form: plain Lean, no program. -/
import Derived.Test.YtfibbdbpclkbgaaP0tipstaffref10
import Derived.Test.YtfibbdbpclkbgaaP0tipstaffkit
import Derived.Test.YtfibbdbpclkbgaaP1brake
import Derived.Test.YtfibbdbpclkbgaaP1tipstafflaw10
import Derived.Test.YtfibbdbpclkbgaaGa
namespace Go.Proofs.Ytfibbdbpclkbgaa.P
open Go.RowKit Go.Proofs.YtfibbdbpclkbgaaW.PrintWords Go.Proofs.YtfibbdbpclkbgaaW.PrintLast Go.Proofs.YtfibbdbpclkbgaaW.PrintMore

theorem wsm (x : Int) (h : -1000000000000 ≤ x) (h2 : x ≤ 1000000000000) : wrap64 x = x := by unfold wrap64; omega

theorem awake_true (k : Nat) : tipstafflaw10_awake.f (k + 10) = some true := by
  have h : tipstafflaw10_awake.f 10 = some true := by decide +kernel
  induction k with
  | zero => exact h
  | succ k ih => exact tipstafflaw10_awake.mono _ _ ih

theorem mod_eq (a m : Int) (hm : 1 ≤ m) (hm2 : m ≤ 1000000) : ∃ r, tipstaffkit_Mod.f a m = some r ∧ 0 ≤ r ∧ r < m := by
  unfold tipstaffkit_Mod.f
  rw [if_neg (by omega), if_neg (by omega)]
  have h1 := Int.tmod_lt_of_pos a (show 0 < m by omega)
  have h2 : -m < Int.tmod a m := by
    have h3 := Int.tmod_lt_of_pos (-a) (show 0 < m by omega)
    rw [Int.neg_tmod] at h3
    omega
  by_cases h : Int.tmod a m < 0
  · rw [if_pos h]
    exact ⟨_, rfl, by rw [wsm _ (by omega) (by omega)]; omega, by rw [wsm _ (by omega) (by omega)]; omega⟩
  · rw [if_neg h]
    exact ⟨_, rfl, by omega, by omega⟩

theorem ref_Check_eq (k : Nat) (s l n : Int) : tipstaffref10_Check.f (k + 3) s l n = some (bchk s l n) := by
  unfold tipstaffref10_Check.f bchk
  by_cases h1 : n < 0
  · simp [tipstaffref10_Check.j0, h1]
  · by_cases h2 : n > 5
    · simp [tipstaffref10_Check.j0, h1, h2]
    · simp only [if_neg h1, decide_eq_false h2, tipstaffref10_Check.j0, tipstaffref10_Check.j1, tipstaffref10_Check.j2]
      by_cases a1 : s = 1
      · subst a1; simp [h2]; (repeat' split) <;> first | rfl | (exfalso; omega)
      · by_cases a3 : s = 3
        · subst a3; simp [h2]; (repeat' split) <;> first | rfl | (exfalso; omega)
        · by_cases a0 : s = 0
          · subst a0; simp [h2]; (repeat' split) <;> first | rfl | (exfalso; omega)
          · by_cases a2 : s = 2
            · subst a2; simp [h2]; (repeat' split) <;> first | rfl | (exfalso; omega)
            · simp [a1, a2, a3, a0, h2]

theorem ref_step_eq (s l : Int) (h : bok s l) : tipstaffref10_step.f s l = some ((bstep s l).1, (bstep s l).2) := by
  obtain ⟨h1, h2, h3, h4, h5, h6⟩ := h
  have hw : wrap64 (l - 1) = l - 1 := wsm _ (by omega) (by omega)
  unfold tipstaffref10_step.f bstep
  rw [hw]
  by_cases a1 : s = 1
  · subst a1
    simp only [if_true]
    by_cases h : l > 1
    · rw [if_pos h, if_pos (by omega)]
    · have : l = 1 := by omega
      subst this
      simp
  · by_cases a3 : s = 3
    · subst a3
      by_cases h : l > 1
      · simp [h]
      · have : l = 1 := by omega
        subst this
        simp
    · have : l = 0 := by omega
      subst this
      simp [a1, a3]

theorem biter_succ' (k : Nat) (s l : Int) : biter (k + 1) s l = biter k (bstep s l).1 (bstep s l).2 := by
  induction k with
  | zero => rfl
  | succ k ih => rw [biter, ih]; rfl
theorem biter_add (a b : Nat) (s l : Int) : biter (a + b) s l = biter b (biter a s l).1 (biter a s l).2 := by
  induction b with
  | zero => rfl
  | succ b ih => rw [← Nat.add_assoc, biter, ih]; rfl

theorem ref_Run_loop (d : Nat) : ∀ (k : Nat) (t i s l : Int), bok s l → t - i = d → -2000 ≤ i → t ≤ 2000 → tipstaffref10_Run.l0 (k + d + 1) t i s l = some ((biter d s l).1, (biter d s l).2, 0) := by
  induction d with
  | zero =>
    intro k t i s l hb hd h1 h2
    rw [tipstaffref10_Run.l0, if_neg (by omega)]
    rfl
  | succ d ih =>
    intro k t i s l hb hd h1 h2
    rw [show k + (d + 1) + 1 = (k + d + 1) + 1 from by omega, tipstaffref10_Run.l0, if_pos (by omega), ref_step_eq s l hb]
    simp only [Option.bind_some]
    rw [wsm (i + 1) (by omega) (by omega), ih k t (i + 1) _ _ (bok_step s l hb) (by omega) (by omega) h2, biter_succ']

theorem ref_Run_eq (k : Nat) (s l n t : Int) : tipstaffref10_Run.f (k + 1005) s l n t = brake_Run.f s l n t := by
  unfold tipstaffref10_Run.f brake_Run.f
  rw [show k + 1005 = (k + 1002) + 3 from by omega, ref_Check_eq, show k + 1002 + 3 = (k + 1003) + 1 + 1 from by omega]
  simp only [Option.bind_some]
  by_cases hc : bchk s l n = 0
  · have hok := bok_of s l n hc
    rw [if_pos hc, if_neg (show ¬ (bchk s l n ≠ 0) by simpa using hc), hc]
    by_cases h1 : t < 0
    · rw [if_pos h1, if_pos (Or.inl h1)]
      simp [tipstaffref10_Run.j0, tipstaffref10_Run.j1]
    · by_cases h2 : t > 1000
      · rw [if_neg h1, if_pos (Or.inr h2)]
        simp [tipstaffref10_Run.j0, tipstaffref10_Run.j1, h2]
      · rw [if_neg h1, if_neg (by omega), decide_eq_false h2, tipstaffref10_Run.j0, if_neg (by simp), tipstaffref10_Run.j1, if_pos rfl]
        have := ref_Run_loop t.toNat (k + 1003 - t.toNat - 1) t 0 s l hok (by omega) (by omega) (by omega)
        rw [show k + 1003 - t.toNat - 1 + t.toNat + 1 = k + 1003 from by omega] at this
        exact this
  · rw [if_neg hc, if_pos hc, tipstaffref10_Run.j0, if_neg (by simp), tipstaffref10_Run.j1, if_neg hc]

theorem bstep_le (s l : Int) : (s = 1 ∨ s = 3) → (bstep s l).2 = l - 1 := by
  unfold bstep
  rintro (rfl | rfl) <;> simp <;> split <;> rfl

theorem ref_Ends_loop (d : Nat) : ∀ (k : Nat) (c s l : Int), bok s l → l = d → 0 ≤ c → c + d ≤ 1000 → tipstaffref10_Ends.l0 (k + d + 1) c s l = some ((biter d s l).1, (biter d s l).2, c + d, 0) := by
  induction d with
  | zero =>
    intro k c s l hb hd h1 h2
    rw [tipstaffref10_Ends.l0, if_neg (by omega)]
    simp [biter]
  | succ d ih =>
    intro k c s l hb hd h1 h2
    rw [show k + (d + 1) + 1 = (k + d + 1) + 1 from by omega, tipstaffref10_Ends.l0, if_pos (by omega), ref_step_eq s l hb]
    simp only [Option.bind_some]
    have hs : s = 1 ∨ s = 3 := by obtain ⟨_, _, _, _, _, _⟩ := hb; omega
    rw [wsm (c + 1) (by omega) (by omega), ih k (c + 1) _ _ (bok_step s l hb) (by rw [bstep_le s l hs]; omega) (by omega) (by omega), biter_succ',
      show c + 1 + (d : Int) = c + ((d + 1 : Nat) : Int) from by omega]

theorem ref_Ends_eq (k : Nat) (s l n : Int) : tipstaffref10_Ends.f (k + 1005) s l n = brake_Ends.f (k + 1005) s l n := by
  unfold tipstaffref10_Ends.f brake_Ends.f
  rw [show k + 1005 = (k + 1002) + 3 from by omega, ref_Check_eq, show k + 1002 + 3 = (k + 1003) + 2 from by omega, brake_Check_eq]
  simp only [Option.bind_some]
  by_cases hc : bchk s l n = 0
  · have hok := bok_of s l n hc
    obtain ⟨h1, h2, h3, h4, h5, h6⟩ := hok
    have hok := bok_of s l n hc
    rw [if_pos hc, if_pos hc]
    unfold brake_Run.f
    rw [if_neg (show ¬ (bchk s l n ≠ 0) by simpa using hc), if_neg (by omega)]
    have := ref_Ends_loop l.toNat (k + 1004 - l.toNat) 0 s l hok (by omega) (by omega) (by omega)
    rw [show k + 1004 - l.toNat + l.toNat + 1 = k + 1003 + 2 from by omega] at this
    rw [this]
    simp [show ((l.toNat : Nat) : Int) = l from by omega]
  · rw [if_neg hc, if_neg hc]

theorem bseq_succ' (d : Nat) (s l : Int) : bseq (d + 1) s l = (bstep s l).1 :: bseq d (bstep s l).1 (bstep s l).2 := by
  induction d with
  | zero => simp [bseq, biter]
  | succ d ih => rw [bseq_succ, ih, bseq_succ, biter_succ']; simp

theorem ref_States_seg (n t : Int) (hn : 0 ≤ n) (hn5 : n ≤ 5) (ht : 0 ≤ t) (ht5 : t ≤ 1000) (d : Nat) : ∀ (k : Nat) (out : List Int) (i s l : Int), bok s l → 0 ≤ i → i + d ≤ 2 * n + t → (∀ x, i ≤ x → x < i + d → x ≠ n + t) → out.length + d ≤ 5000 →
    tipstaffref10_States.l0 (k + d) n t out i s l = tipstaffref10_States.l0 k n t (out ++ bseq d s l) (i + d) (biter d s l).1 (biter d s l).2 := by
  induction d with
  | zero => intro k out i s l _ _ _ _ _; simp [bseq, biter]
  | succ d ih =>
    intro k out i s l hb h0 h1 h2 h3
    rw [show k + (d + 1) = (k + d) + 1 from by omega, tipstaffref10_States.l0]
    rw [wsm (2 * n) (by omega) (by omega), wsm (2 * n + t) (by omega) (by omega), wsm (n + t) (by omega) (by omega), if_pos (by omega), if_neg (h2 i (by omega) (by omega)), ref_step_eq s l hb]
    simp only [Option.bind_some]
    rw [if_pos (by omega), wsm (i + 1) (by omega) (by omega), ih k _ (i + 1) _ _ (bok_step s l hb) (by omega) (by omega) (fun x hx hx2 => h2 x (by omega) (by omega)) (by simp; omega), biter_succ', bseq_succ']
    rw [show i + 1 + (d : Int) = i + ((d + 1 : Nat) : Int) from by omega]
    simp

theorem ref_States_end (n t : Int) (hn : 0 ≤ n) (hn5 : n ≤ 5) (ht : 0 ≤ t) (ht5 : t ≤ 1000) (k : Nat) (out : List Int) (i s l : Int) (hi : i = 2 * n + t) : tipstaffref10_States.l0 (k + 1) n t out i s l = some (out, 0) := by
  rw [tipstaffref10_States.l0, wsm (2 * n) (by omega) (by omega), wsm (2 * n + t) (by omega) (by omega), if_neg (by omega)]

theorem ref_States_eq (k : Nat) (n t : Int) : tipstaffref10_States.f (k + 1100) n t = brake_States.f n t := by
  unfold tipstaffref10_States.f brake_States.f
  rw [show k + 1100 = (k + 1099) + 1 from by omega]
  by_cases h1 : n < 0
  · rw [if_pos h1, if_pos (by omega), tipstaffref10_States.j0, if_pos rfl]
  · by_cases h2 : n > 5
    · rw [if_neg h1, if_pos h2, if_pos (by omega), tipstaffref10_States.j0, if_pos rfl]
    · by_cases h3 : t < 0
      · rw [if_neg h1, if_neg h2, if_pos h3, if_pos (by omega), tipstaffref10_States.j0, if_pos rfl]
      · by_cases h4 : t > 1000
        · rw [if_neg h1, if_neg h2, if_neg h3, if_pos (by omega), tipstaffref10_States.j0, if_pos (by simpa using h4)]
        · rw [if_neg h1, if_neg h2, if_neg h3, if_neg (by omega), decide_eq_false h4, tipstaffref10_States.j0, if_neg (by simp)]
          obtain ⟨m, hm⟩ : ∃ m : Nat, (m : Int) = n + t := ⟨(n + t).toNat, by omega⟩
          by_cases hn : n = 0
          · subst hn
            rw [if_pos rfl]
            simp only [tipstaffref10_begun.f, if_true, Option.bind_some]
            have := ref_States_seg 0 t (by omega) (by omega) (by omega) (by omega) m (k + 1099 - m) [] 0 2 0 (by unfold bok; omega) (by omega) (by omega) (by omega) (by simp; omega)
            rw [show k + 1099 - m + m = k + 1099 from by omega] at this
            rw [this, show k + 1099 - m = (k + 1098 - m) + 1 from by omega, ref_States_end 0 t (by omega) (by omega) (by omega) (by omega) _ _ _ _ _ (by omega)]
            rw [show (0 + t).toNat = m from by omega]
            simp [bseq]
          · rw [if_neg hn]
            obtain ⟨q, hq⟩ : ∃ q : Nat, n = (q : Int) + 1 := ⟨(n - 1).toNat, by omega⟩
            simp only [tipstaffref10_begun.f, if_neg hn, Option.bind_some]
            have := ref_States_seg n t (by omega) (by omega) (by omega) (by omega) m (k + 1099 - m) [] 0 1 n (by unfold bok; omega) (by omega) (by omega) (by omega) (by simp; omega)
            rw [show k + 1099 - m + m = k + 1099 from by omega] at this
            rw [this, show k + 1099 - m = (k + 1097 - m - q) + 1 + q + 1 from by omega, tipstaffref10_States.l0]
            rw [wsm (2 * n) (by omega) (by omega), wsm (2 * n + t) (by omega) (by omega), wsm (n + t) (by omega) (by omega), if_pos (by omega), if_pos (by omega)]
            simp only [tipstaffref10_begun.f, if_neg hn, Option.bind_some]
            rw [ref_step_eq 3 n (by unfold bok; omega)]
            simp only [Option.bind_some]
            rw [if_pos (by simp [bseq_len]; omega), wsm _ (by omega) (by omega)]
            have := ref_States_seg n t (by omega) (by omega) (by omega) (by omega) q (k + 1097 - m - q + 1) ([] ++ bseq m 1 n ++ [(bstep 3 n).1]) (0 + m + 1) (bstep 3 n).1 (bstep 3 n).2 (bok_step _ _ (by unfold bok; omega)) (by omega) (by omega) (by omega) (by simp [bseq_len]; omega)
            rw [this, ref_States_end n t (by omega) (by omega) (by omega) (by omega) _ _ _ _ _ (by omega)]
            rw [show (n + t).toNat = m from by omega, show n.toNat = q + 1 from by omega, bseq_succ']
            simp

theorem ref_Release_eq (k : Nat) (s l n : Int) : tipstaffref10_Release.f (k + 5) s l n = brake_Release.f s l n := by
  unfold tipstaffref10_Release.f brake_Release.f brake_turned.f
  rw [show k + 5 = (k + 2) + 3 from by omega, ref_Check_eq, show k + 2 + 3 = (k + 4) + 1 from by omega]
  simp only [Option.bind_some]
  by_cases hc : bchk s l n = 0
  · rw [if_pos hc, if_neg (show ¬ (bchk s l n ≠ 0) by simpa using hc), tipstaffref10_Release.j0]
    by_cases hs : s = 0
    · subst hs
      simp [hc, tipstaffref10_begun.f]
      by_cases hn : n = 0 <;> simp [hn]
    · simp [hs]
  · rw [if_neg hc, if_pos hc, tipstaffref10_Release.j0]
    simp [hc]
theorem ref_Apply_eq (k : Nat) (s l n : Int) : tipstaffref10_Apply.f (k + 5) s l n = brake_Apply.f s l n := by
  unfold tipstaffref10_Apply.f brake_Apply.f brake_turned.f
  rw [show k + 5 = (k + 2) + 3 from by omega, ref_Check_eq, show k + 2 + 3 = (k + 4) + 1 from by omega]
  simp only [Option.bind_some]
  by_cases hc : bchk s l n = 0
  · rw [if_pos hc, if_neg (show ¬ (bchk s l n ≠ 0) by simpa using hc), tipstaffref10_Apply.j0]
    by_cases hs : s = 2
    · subst hs
      simp [hc, tipstaffref10_begun.f]
      by_cases hn : n = 0 <;> simp [hn]
    · simp [hs]
  · rw [if_neg hc, if_pos hc, tipstaffref10_Apply.j0]
    simp [hc]
theorem ref_Step_eq (k : Nat) (s l n : Int) : tipstaffref10_Step.f (k + 3) s l n = brake_Step.f s l n := by
  unfold tipstaffref10_Step.f brake_Step.f brake_Run.f
  rw [ref_Check_eq]
  simp only [Option.bind_some]
  by_cases hc : bchk s l n = 0
  · rw [if_pos hc, if_neg (show ¬ (bchk s l n ≠ 0) by simpa using hc), ref_step_eq s l (bok_of s l n hc)]
    simp [biter]
  · rw [if_neg hc, if_pos hc]
    simp
theorem ref_Free_eq (k : Nat) (s l n : Int) : tipstaffref10_Free.f (k + 3) s l n = brake_Free.f (k + 3) s l n := by
  unfold tipstaffref10_Free.f brake_Free.f
  rw [ref_Check_eq, show k + 3 = (k + 1) + 2 from by omega, brake_Check_eq]
  simp only [Option.bind_some]
  by_cases hc : bchk s l n = 0
  · simp [hc]
  · simp [hc]

theorem same_refl_loop (l : List Int) (hl : l.length ≤ 100000) (d : Nat) : ∀ (k : Nat) (i : Int), 0 ≤ i → (l.length : Int) - i = d → tipstaffkit_SameInts.l0 (k + d + 1) l l i = some true := by
  induction d with
  | zero => intro k i h0 h1; rw [tipstaffkit_SameInts.l0, if_neg (by omega)]
  | succ d ih =>
    intro k i h0 h1
    rw [show k + (d + 1) + 1 = (k + d + 1) + 1 from by omega, tipstaffkit_SameInts.l0, if_pos (by omega), if_pos h0, if_pos (by omega), if_pos rfl, wsm (i + 1) (by omega) (by omega)]
    exact ih k (i + 1) (by omega) (by omega)
theorem same_refl (l : List Int) (hl : l.length ≤ 100000) (k : Nat) : tipstaffkit_SameInts.f (k + l.length + 1) l l = some true := by
  unfold tipstaffkit_SameInts.f
  rw [if_pos rfl]
  exact same_refl_loop l hl l.length k 0 (by omega) (by omega)

theorem bchk_of (s l n : Int) (hn : 0 ≤ n) (hn5 : n ≤ 5) (h : (s = 1 ∨ s = 3) ∧ 1 ≤ l ∧ l ≤ n ∨ (s = 0 ∨ s = 2) ∧ l = 0) : bchk s l n = 0 := by
  unfold bchk
  rw [if_neg (by omega), if_neg (by omega)]
  rcases h with ⟨rfl | rfl, h1, h2⟩ | ⟨rfl | rfl, rfl⟩
  · rw [if_pos rfl, if_neg (by omega), if_neg (by omega)]
  · rw [if_neg (by omega), if_pos rfl, if_neg (by omega), if_neg (by omega)]
  · rfl
  · rfl
theorem of_bchk (s l n : Int) (h : bchk s l n = 0) : 0 ≤ n ∧ n ≤ 5 ∧ ((s = 1 ∨ s = 3) ∧ 1 ≤ l ∧ l ≤ n ∨ (s = 0 ∨ s = 2) ∧ l = 0) := by
  unfold bchk at h
  repeat' split at h
  all_goals omega
theorem chk_step (s l n : Int) (h : bchk s l n = 0) : bchk (bstep s l).1 (bstep s l).2 n = 0 := by
  obtain ⟨h1, h2, h3⟩ := of_bchk s l n h
  refine bchk_of _ _ n h1 h2 ?_
  unfold bstep
  repeat' split
  all_goals (dsimp only; omega)

theorem turned_some (s l n a b c : Int) : ∃ x y z, brake_turned.f s l n a b c = some (x, y, z) := by
  unfold brake_turned.f
  (repeat' split) <;> exact ⟨_, _, _, rfl⟩
theorem release_some (s l n : Int) : ∃ x y z, brake_Release.f s l n = some (x, y, z) := by
  obtain ⟨x, y, z, h⟩ := turned_some s l n 0 1 2
  exact ⟨x, y, z, by unfold brake_Release.f; rw [h]; rfl⟩
theorem apply_some (s l n : Int) : ∃ x y z, brake_Apply.f s l n = some (x, y, z) := by
  obtain ⟨x, y, z, h⟩ := turned_some s l n 2 3 0
  exact ⟨x, y, z, by unfold brake_Apply.f; rw [h]; rfl⟩
theorem brun_some (s l n t : Int) : ∃ x y z, brake_Run.f s l n t = some (x, y, z) := by
  unfold brake_Run.f
  (repeat' split) <;> exact ⟨_, _, _, rfl⟩
theorem bstep_some (s l n : Int) : ∃ x y z, brake_Step.f s l n = some (x, y, z) := by
  obtain ⟨x, y, z, h⟩ := brun_some s l n 1
  exact ⟨x, y, z, by unfold brake_Step.f; rw [h]; rfl⟩
theorem bstates_some (n t : Int) : ∃ x y, brake_States.f n t = some (x, y) ∧ x.length ≤ 3000 := by
  unfold brake_States.f
  by_cases h : n < 0 ∨ n > 5 ∨ t < 0 ∨ t > 1000
  · rw [if_pos h]; exact ⟨_, _, rfl, by simp⟩
  · rw [if_neg h]; split <;> exact ⟨_, _, rfl, by simp [bseq_len]; omega⟩

end Go.Proofs.Ytfibbdbpclkbgaa.P
