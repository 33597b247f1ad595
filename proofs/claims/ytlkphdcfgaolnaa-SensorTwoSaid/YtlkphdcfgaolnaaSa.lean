/- Package shaft: the check of gaps by a library function over a function value, and the positions of the floors by a closure: what they answer, and that the Go code comes to just this. -/
import Derived.Test.YtlkphdcfgaolnaaP0
namespace Go.Proofs.Ytlkphdcfgaolnaa.P
open Go.RowKit Go.Proofs.YtlkphdcfgaolnaaW.PrintWords Go.Proofs.YtlkphdcfgaolnaaW.PrintLast Go.Proofs.YtlkphdcfgaolnaaW.PrintMore
set_option linter.unusedVariables false
set_option linter.unusedSimpArgs false

def gbad (g : Int) : Bool := decide (g < 1) || decide (g > 1000)
/-- The first bad gap from i on, among d. -/
def sfb (xs : List Int) (i : Nat) : Nat → Int
  | 0 => -1
  | d + 1 => if gbad (rd xs i) = true then (i : Int) else sfb xs (i + 1) d
def shaft_Check.f (l0 : List Int) : Option (Int × Int) :=
  if l0.length < 1 then some (4, 0) else if l0.length ≥ 64 then some (4, 0) else
  if sfb l0 0 l0.length ≥ 0 then some (2, sfb l0 0 l0.length) else some (0, 0)
/-- The position of floor k. -/
def pos (l : List Int) (k : Nat) : Int := (l.take k).sum
def posns (l : List Int) : List Int := (List.range (l.length + 1)).map (pos l)
def shaft_Positions.f (l0 : List Int) : Option (List Int × Int) :=
  (shaft_Check.f l0).bind fun r => if r.1 = 0 then some (posns l0, 0) else some ([], r.1)

theorem bad_any (g : Int) (w : World) : Calls Try.prog 59 #[.int .i64 g] w fun e w' => e = .returned (.bool (gbad g)) ∧ w' = w := by
  unfold gbad
  by_cases h1 : g < 1
  · go_enter Try.func59, Try.ntmps59
    go_wp2
    go_ret
    exact ⟨by simp [h1], rfl⟩
  · by_cases h2 : g > 1000
    all_goals
      go_enter Try.func59, Try.ntmps59
      go_wp2
      go_ret
      exact ⟨by simp [h1, h2], rfl⟩

theorem ret_i {a b : Int} (h : a = b) : Ending.returned (.int .i64 a) = .returned (.int .i64 b) := by rw [h]

theorem index_any (A0 : Option Addr) (c0 : Nat) (l0 : List Int) (w : World) (hr0 : Kd.C (Kd.int .i64) w A0 l0.length l0) (hn : l0.length ≤ 1000) :
    Calls Try.prog 60 #[.slice A0 l0.length c0, .func (.func 59) #[] #[]] w fun e w' => e = .returned (.int .i64 (sfb l0 0 l0.length)) ∧ w' = w := by
  have HR := Aside0.mk hr0
  clear hr0
  obtain ⟨n, hN⟩ : ∃ n, n = l0.length := ⟨_, rfl⟩
  rw [← hN]
  rw [← hN] at hn
  have HN := Aside0.mk hN
  clear hN
  go_enter Try.func60, Try.ntmps60
  go_wp2
  go_loop [8] (fun v => ∃ k : Nat, k ≤ n ∧ v = .int .i64 k ∧ Aside0 (sfb l0 0 n = sfb l0 k (n - k))) (fun v => n - (intOf v).toNat)
  case atStart => exact ⟨0, Nat.zero_le _, rfl, ⟨rfl⟩⟩
  case round =>
    obtain ⟨k, hk, rfl, hs⟩ := hrel
    by_cases hlt : k < n
    · obtain ⟨ad, e, hc⟩ := Kd.at_int HR.out (k : Int) (by omega) (by rw [← HN.out]; omega)
      subst e
      have hc' : w.cell? (ad.add k) = some (.int .i64 (rd l0 k)) := hc
      clear hc
      have hs2 : sfb l0 0 n = if gbad (rd l0 k) = true then (k : Int) else sfb l0 (k + 1) (n - (k + 1)) := by
        rw [hs.out, show n - k = (n - (k + 1)) + 1 from by omega, sfb]
      have HS := Aside0.mk hs2
      clear hs hs2
      cases hb : gbad (rd l0 k) with
      | true =>
        have HB := Aside0.mk hb
        clear hb
        go_wp2_with (go_at_call 59; refine (bad_any _ _).mono ?_; rintro e w' ⟨rfl, rfl⟩; simp only [HB.out])
        go_ret
        exact ⟨ret_i (by rw [HS.out, if_pos HB.out]), rfl⟩
      | false =>
        have HB := Aside0.mk hb
        clear hb
        go_wp2_with (go_at_call 59; refine (bad_any _ _).mono ?_; rintro e w' ⟨rfl, rfl⟩; simp only [HB.out])
        go_round
        case rel => exact ⟨k + 1, by omega, by go_num, ⟨by rw [HS.out, if_neg (by rw [HB.out]; simp)]⟩⟩
        case measure => simp [intOf]; omega
    · have hkn : k = n := by omega
      subst hkn
      go_wp2
      go_ret
      exact ⟨ret_i (by rw [hs.out, show k - k = 0 from by omega, sfb]), rfl⟩

theorem shaft_Check.calls (A0 : Option Addr) (c0 : Nat) (l0 : List Int) (r1 : Int) (r2 : Int) (w : World) (hr0 : Kd.C (Kd.int .i64) w A0 l0.length l0) (hc0 : l0.length ≤ c0) (h : shaft_Check.f l0 = some (r1, r2)) :
    Calls Try.prog 48 #[.slice A0 l0.length c0] w fun e w' => e = .returned (.tuple #[.int .i64 r1, .int .i64 r2]) ∧ Below w.heap.size w w' := by
  have HR := Aside0.mk hr0
  clear hr0 hc0
  unfold shaft_Check.f at h
  by_cases h1 : l0.length < 1
  · rw [if_pos h1] at h
    simp only [Option.some.injEq, Prod.mk.injEq] at h
    obtain ⟨rfl, rfl⟩ := h
    have h1' : (l0.length : Int) < 1 := by omega
    clear h1
    go_enter Try.func48, Try.ntmps48
    go_wp2
    go_ret2
    exact ⟨rfl, Below.refl _ _⟩
  · rw [if_neg h1] at h
    have h1' : ¬ (l0.length : Int) < 1 := by omega
    by_cases h2 : l0.length ≥ 64
    · rw [if_pos h2] at h
      simp only [Option.some.injEq, Prod.mk.injEq] at h
      obtain ⟨rfl, rfl⟩ := h
      have h2' : (64 : Int) ≤ (l0.length : Int) := by omega
      clear h1 h2
      go_enter Try.func48, Try.ntmps48
      go_wp2
      go_ret2
      exact ⟨rfl, Below.refl _ _⟩
    · rw [if_neg h2] at h
      have h2' : ¬ (64 : Int) ≤ (l0.length : Int) := by omega
      have HX := Aside0.mk (fun W (hr : Kd.C (Kd.int .i64) W A0 l0.length l0) => index_any A0 c0 l0 W hr (by omega))
      obtain ⟨q, hq⟩ : ∃ q, q = sfb l0 0 l0.length := ⟨_, rfl⟩
      rw [← hq] at h HX
      clear h1 h2 hq
      by_cases h3 : q ≥ 0
      · rw [if_pos h3] at h
        simp only [Option.some.injEq, Prod.mk.injEq] at h
        obtain ⟨rfl, rfl⟩ := h
        go_enter Try.func48, Try.ntmps48
        go_wp2_with (go_at_call 60; refine (HX.out _ HR.out).mono ?_; rintro e w' ⟨rfl, rfl⟩)
        go_ret2
        exact ⟨rfl, Below.refl _ _⟩
      · rw [if_neg h3] at h
        simp only [Option.some.injEq, Prod.mk.injEq] at h
        obtain ⟨rfl, rfl⟩ := h
        go_enter Try.func48, Try.ntmps48
        go_wp2_with (go_at_call 60; refine (HX.out _ HR.out).mono ?_; rintro e w' ⟨rfl, rfl⟩)
        go_ret2
        exact ⟨rfl, Below.refl _ _⟩

/-! ### the positions, in plain Lean -/
theorem sfb_good (l : List Int) : ∀ (d i : Nat), sfb l i d < 0 → ∀ j, i ≤ j → j < i + d → 1 ≤ rd l j ∧ rd l j ≤ 1000 := by
  intro d
  induction d with
  | zero => intro i _ j h1 h2; omega
  | succ d ih =>
    intro i h j h1 h2
    rw [sfb] at h
    split at h
    · omega
    · rename_i hb
      by_cases e : j = i
      · subst e
        simp [gbad] at hb
        omega
      · exact ih (i + 1) h j (by omega) (by omega)
theorem pos_succ (l : List Int) (k : Nat) (h : k < l.length) : pos l (k + 1) = pos l k + rd l k := by
  unfold pos rd
  have e := List.take_succ_eq_append_getElem h
  rw [Int.toNat_natCast, List.getD_eq_getElem?_getD, List.getElem?_eq_getElem h, e, List.sum_append]
  simp
theorem pos_bound (l : List Int) (hg : ∀ j : Nat, j < l.length → 1 ≤ rd l j ∧ rd l j ≤ 1000) (k : Nat) (h : k ≤ l.length) : (k : Int) ≤ pos l k ∧ pos l k ≤ 1000 * k := by
  induction k with
  | zero => simp [pos]
  | succ k ih =>
    have := ih (by omega)
    have := hg k (by omega)
    rw [pos_succ l k (by omega)]
    omega
/-- The row behind the rounds below k. -/
def mix (l : List Int) (k : Nat) : List Int := (List.range (l.length + 1)).map fun i => if i < k then pos l i else rd l ((i : Int) - 1)
theorem mix_len (l : List Int) (k : Nat) : (mix l k).length = l.length + 1 := by simp [mix]
theorem mix_one (l : List Int) : mix l 1 = 0 :: l := by
  apply List.ext_getElem
  · simp [mix]
  · intro i h1 h2
    cases i with
    | zero => simp [mix, pos]
    | succ i =>
      simp [mix, rd]
      rw [List.getElem?_eq_getElem (by simpa using h2)]
      rfl
theorem mix_all (l : List Int) : mix l (l.length + 1) = posns l := by
  unfold mix posns
  apply List.map_congr_left
  intro i hi
  rw [if_pos (by simpa using hi)]
theorem mix_set (l : List Int) (k : Nat) (hk : 1 ≤ k) (h : k ≤ l.length) : (mix l k).set k (pos l k) = mix l (k + 1) := by
  apply List.ext_getElem
  · simp [mix]
  · intro i h1 h2
    rw [List.getElem_set]
    simp only [mix, List.getElem_map, List.getElem_range]
    by_cases e : k = i
    · subst e; simp
    · rw [if_neg e]
      by_cases h3 : i < k
      · rw [if_pos h3, if_pos (by omega)]
      · rw [if_neg h3, if_neg (by omega)]
theorem mix_rd (l : List Int) (k : Nat) (hk : 1 ≤ k) (h : k ≤ l.length) : rd (mix l k) k = rd l ((k : Int) - 1) := by
  conv => lhs; unfold rd
  rw [Int.toNat_natCast, List.getD_eq_getElem?_getD]
  simp [mix, show k < l.length + 1 by omega]

theorem climb_any (B : Nat) (g a : Int) (w : World) (hB : w.heap[B]? = some (.cells #[.int .i64 a] 3 (0, 0))) (ha : -1000000 ≤ a) (ha2 : a ≤ 1000000) (hg : -1000000 ≤ g) (hg2 : g ≤ 1000000) :
    Calls Try.prog 49 #[.int .i64 g, .pointer (some ⟨B, 0, none⟩)] w fun e w' => e = .returned (.int .i64 (a + g)) ∧ w'.heap[B]? = some (.cells #[.int .i64 (a + g)] 3 (0, 0)) ∧ KeepBut w w' B none ∧ (∀ w0, Below w0.heap.size w0 w → w0.heap.size ≤ B → Below w0.heap.size w0 w') := by
  have HB := Aside0.mk hB
  have hc := blk_cell hB 0
  have hf := blk_frozen hB 0
  simp at hc
  clear hB
  go_enter Try.func49, Try.ntmps49
  go_wp2
  go_ret
  exact ⟨rfl, blk_put HB.out 0 _ rfl, (KeepBut.refl w B none).set_ 0 _, fun w0 h1 h2 => below_set h1 h2⟩

theorem positions_bad (A0 : Option Addr) (c0 : Nat) (l0 : List Int) (r1 r2 : Int) (w : World) (hr0 : Kd.C (Kd.int .i64) w A0 l0.length l0) (hc0 : l0.length ≤ c0) (h : shaft_Check.f l0 = some (r1, r2)) (hr : r1 ≠ 0) :
    Calls Try.prog 34 #[.slice A0 l0.length c0] w fun e w' => e = .returned (.tuple #[.slice none 0 0, .int .i64 r1]) ∧ Below w.heap.size w w' := by
  have HC := Aside0.mk (shaft_Check.calls A0 c0 l0 r1 r2 w hr0 hc0 h)
  have hb : (r1 != 0) = true := bne_iff_ne.mpr hr
  clear hr0 h hr
  go_enter Try.func34, Try.ntmps34
  go_wp2_with (go_at_call 48; refine HC.out.mono ?_; rintro e w' ⟨rfl, hb2⟩)
  go_ret2
  exact ⟨rfl, hb2⟩

set_option maxRecDepth 100000 in
theorem positions_good (A0 : Option Addr) (c0 : Nat) (l0 : List Int) (r2 : Int) (w : World) (hr0 : Kd.C (Kd.int .i64) w A0 l0.length l0) (hc0 : l0.length ≤ c0) (h : shaft_Check.f l0 = some (0, r2)) :
    Calls Try.prog 34 #[.slice A0 l0.length c0] w fun e w' => ∃ v0_ : Value, e = .returned (.tuple #[v0_, .int .i64 0]) ∧ Kd.R (Kd.int .i64) 3 w' w.heap.size (fun _ => True) v0_ (posns l0) ∧ Below w.heap.size w w' := by
  have HC := Aside0.mk (shaft_Check.calls A0 c0 l0 0 r2 w hr0 hc0 h)
  have HR := Aside0.mk hr0
  have hmf : ∀ (fn : Fn) (first cap : Array Value) (w : World), (Instr.makeFunc fn first cap).run Try.prog w = .ok (.func fn first cap) w := fun _ _ _ _ => rfl
  obtain ⟨hn1, hn2, hgood⟩ : 1 ≤ l0.length ∧ l0.length < 64 ∧ ∀ j : Nat, j < l0.length → 1 ≤ rd l0 j ∧ rd l0 j ≤ 1000 := by
    unfold shaft_Check.f at h
    by_cases h1 : l0.length < 1
    · rw [if_pos h1] at h; simp at h
    · rw [if_neg h1] at h
      by_cases h2 : l0.length ≥ 64
      · rw [if_pos h2] at h; simp at h
      · rw [if_neg h2] at h
        by_cases h3 : sfb l0 0 l0.length ≥ 0
        · rw [if_pos h3] at h; simp at h
        · exact ⟨by omega, by omega, fun j hj => sfb_good l0 l0.length 0 (by omega) j (by omega) (by omega)⟩
  have HG := Aside0.mk hgood
  obtain ⟨ad, hA, hcell⟩ := (Kd.reads_of_C (d := (0 : Int)) hr0).2.2 (by omega)
  subst hA
  have HCE := Aside0.mk hcell
  clear hr0 h hgood hc0 hcell
  obtain ⟨n, hN⟩ : ∃ n, n = l0.length := ⟨_, rfl⟩
  have HN := Aside0.mk hN
  rw [← hN] at hn1 hn2 HC ⊢
  clear hN
  obtain ⟨i0, hi0, hz0, hz1, hz2⟩ := info_parts info3
  go_enter Try.func34, Try.ntmps34
  go_wp2_with (first | (go_at_call 48; refine HC.out.mono ?_; rintro e w1 ⟨rfl, hb⟩; have HB := Aside0.mk hb; clear hb) | (at_builtin; refine wpList_append_grows _ rfl (.tmp 21) (.tmp 22) 24 rfl 3 i0 (.int .i64 0) 1 8 Try.underlying24 hi0 hz0 hz1 hz2 rfl (by decide) (some ⟨w1.heap.size + 1, 0, none⟩) 1 1 [.int .i64 0] rfl (fun h => by cases h) rfl ?olds ad n c0 (l0.map (Value.int .i64)) rfl (by rw [HN.out]; simp) ?news ?one (by omega) (by unfold maxLen; omega) (by omega) ?next))
  case olds =>
    intro b hb j u hu
    cases hb
    match j, hu with
    | 0, hu => simp at hu; subst hu; simp [Addr.add]
  case news =>
    intro j u hu
    have hj : j < l0.length := by have := (List.getElem?_eq_some_iff.1 hu).1; simpa using this
    have hc := HCE.out j (by omega)
    rw [List.getElem?_map, List.getElem?_eq_getElem hj] at hu
    simp at hu
    subst hu
    rw [List.getD_eq_getElem?_getD, List.getElem?_eq_getElem hj] at hc
    exact pw_cell_below (below_alloc (below_alloc HB.out _) _) hc
  case one => intro u hu; obtain ⟨x, _, rfl⟩ := List.mem_map.1 hu; rfl
  case next =>
    intro v' w2 hown hgrow
    obtain ⟨g, cap, rfl⟩ : ∃ g cap, v' = .slice (some ⟨g, 0, none⟩) (1 + n) cap := by
      rcases hown.2 with ⟨_, h⟩ | ⟨g, cap', _, h, _⟩
      · simp at h
      · exact ⟨g, cap', h⟩
    have hg2 : w1.heap.size + 2 ≤ g := by have := own_base hown g rfl; simpa using this
    have hB0 : w.heap.size ≤ w1.heap.size := HB.out.size
    have BK := Aside0.mk (blk_grown (blk_alloc (blk_new w1 (.cells #[.int .i64 0] 3)) (.cells #[.int .i64 0] 72)) hgrow (by simp))
    have OW := Aside0.mk (show Kd.R (Kd.int .i64) 3 w2 w.heap.size (fun _ => True) (.slice (some ⟨g, 0, none⟩) (1 + n) cap) (mix l0 1) from Kd.R_of_own (by rw [mix_one, List.length_cons, ← HN.out, show n + 1 = 1 + n from by omega]; exact own_weaken (base' := w.heap.size) hown (by first | omega | (simp; omega))) (fun _ _ => trivial))
    have BE := Aside0.mk (Below.grown (below_alloc (below_alloc HB.out (.cells #[.int .i64 0] 3)) (.cells #[.int .i64 0] 72)) hgrow (by simp; omega) (fun k h => by cases h))
    clear hown hgrow
    go_wp2
    go_loopw [10] (fun v wr => ∃ k : Nat, 1 ≤ k ∧ k ≤ n + 1 ∧ v = .int .i64 k ∧ Aside0 (wr.heap[w1.heap.size]? = some (.cells #[.int .i64 (pos l0 (k - 1))] 3 (0, 0))) ∧ Aside0 (Kd.R (Kd.int .i64) 3 wr w.heap.size (fun _ => True) (.slice (some ⟨g, 0, none⟩) (1 + n) cap) (mix l0 k)) ∧ Aside0 (Below w.heap.size w wr)) (fun v _ => n + 1 - (intOf v).toNat)
    case atStart => exact ⟨1, by omega, by omega, rfl, ⟨by simpa [pos] using BK.out⟩, OW, BE⟩
    case round =>
      obtain ⟨k, hk1, hk2, rfl, K1, K2, K3⟩ := hrel
      by_cases hlt : k < 1 + n
      · have K2' := Aside0.mk (show Kd.R (Kd.int .i64) 3 wr w.heap.size (fun k_ => k_ ≠ w1.heap.size) (.slice (some ⟨g, 0, none⟩) (1 + n) cap) (mix l0 k) from Kd.R_of_own (Kd.own_of_R K2.out) (fun k_ h_ => by simp [Value.ownBlock] at h_; omega))
        have hc : wr.cell? ⟨g, k, none⟩ = some (.int .i64 (rd l0 ((k : Int) - 1))) := by
          have ho : wr.ownsRow w.heap.size 3 1 (.slice (some ⟨g, 0, none⟩) (1 + n) cap) (1 + n) (nums .i64 (mix l0 k)) := by have h := Kd.own_of_R K2.out; rw [mix_len, ← HN.out, show n + 1 = 1 + n from by omega] at h; exact h
          have := (own_at ho (k : Int) (by omega) (by omega)).1
          rw [mix_rd l0 k hk1 (by rw [← HN.out]; omega)] at this
          simpa using this
        have hb := HG.out (k - 1) (by rw [← HN.out]; omega)
        rw [show ((k - 1 : Nat) : Int) = (k : Int) - 1 from by omega] at hb
        have hp := pos_bound l0 HG.out (k - 1) (by rw [← HN.out]; omega)
        have hps := pos_succ l0 (k - 1) (by rw [← HN.out]; omega)
        rw [show k - 1 + 1 = k from by omega, show ((k - 1 : Nat) : Int) = (k : Int) - 1 from by omega] at hps
        have HPS := Aside0.mk hps
        clear hps
        have h0 : (0 : Int) ≤ (k : Int) := by omega
        have h1 : (k : Int) < 1 + (n : Int) := by omega
        go_wp2_with (go_at_call 49; refine (climb_any w1.heap.size _ _ _ K1.out (by omega) (by omega) (by omega) (by omega)).mono ?_; rintro e w3 ⟨rfl, hB3, hK3, hL3⟩; rw [← HPS.out] at hB3 ⊢; have M1 := Aside0.mk hB3; have M2 := Aside0.mk (Kd.R_keep (ok := fun k_ => k_ ≠ w1.heap.size) K2'.out hK3 (fun _ h => h)); have M3 := Aside0.mk (hL3 w K3.out hB0); clear hB3 hK3 hL3 hc; have ho : w3.ownsRow w.heap.size 3 1 (.slice (some ⟨g, 0, none⟩) (1 + n) cap) (1 + n) (nums .i64 (mix l0 k)) := (by have h := Kd.own_of_R M2.out; rw [mix_len, ← HN.out, show n + 1 = 1 + n from by omega] at h; exact h); have hc := (own_at ho (k : Int) (by omega) (by omega)).1; have hf := (own_at ho (k : Int) (by omega) (by omega)).2; rw [Int.toNat_natCast] at hc hf; clear ho)
        go_roundw
        case rel => exact ⟨k + 1, by omega, by omega, by go_num, ⟨by simpa using blk_far M1.out (p := ⟨g, k, none⟩) (by simp; omega) _⟩, ⟨by have h := Kd.R_putn M2.out (k : Int) (pos l0 k); rw [Int.toNat_natCast, mix_set l0 k hk1 (by rw [← HN.out]; omega)] at h; exact Kd.R_mono h (fun _ _ => trivial)⟩, ⟨below_set M3.out (by omega)⟩⟩
        case measure => simp [intOf]; omega
      · have hkn : k = l0.length + 1 := by rw [← HN.out]; omega
        have hlt' : ¬ (k : Int) < 1 + (n : Int) := by omega
        go_wp2
        go_ret2
        exact ⟨_, rfl, by have h := K2.out; rw [hkn, mix_all] at h; exact h, K3.out⟩

theorem shaft_Positions.calls (A0 : Option Addr) (c0 : Nat) (l0 : List Int) (r1 : List Int) (r2 : Int) (w : World) (hr0 : Kd.C (Kd.int .i64) w A0 l0.length l0) (hc0 : l0.length ≤ c0) (h : shaft_Positions.f l0 = some (r1, r2)) :
    Calls Try.prog 34 #[.slice A0 l0.length c0] w fun e w' => ∃ v0_ : Value, e = .returned (.tuple #[v0_, .int .i64 r2]) ∧ Kd.R (Kd.int .i64) 3 w' w.heap.size (fun _ => True) v0_ r1 ∧ Below w.heap.size w w' := by
  unfold shaft_Positions.f at h
  obtain ⟨⟨x, y⟩, hx, h⟩ := Option.bind_eq_some_iff.mp h
  dsimp only at h
  by_cases h0 : x = 0
  · subst h0
    rw [if_pos rfl] at h
    simp only [Option.some.injEq, Prod.mk.injEq] at h
    obtain ⟨rfl, rfl⟩ := h
    exact positions_good A0 c0 l0 y w hr0 hc0 hx
  · rw [if_neg h0] at h
    simp only [Option.some.injEq, Prod.mk.injEq] at h
    obtain ⟨rfl, rfl⟩ := h
    refine (positions_bad A0 c0 l0 x y w hr0 hc0 hx h0).mono ?_
    rintro e w' ⟨rfl, hb⟩
    exact ⟨_, rfl, Kd.R_nil _ _ _ _ _, hb⟩
end Go.Proofs.Ytlkphdcfgaolnaa.P
