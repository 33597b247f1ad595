/- What the laws of this chapter share: a padded move between two floors, in closed form: plain Lean, no program. -/
import Derived.Test.YtckaofgkepcibaaMr
import Derived.Test.YtckaofgkepcibaaP2move
import Derived.Test.YtckaofgkepcibaaP3tipstafflaw15
import Derived.Test.YtckaofgkepcibaaDm
import Derived.Test.YtckaofgkepcibaaShq
namespace Go.Proofs.Ytckaofgkepcibaa.P
open Go.RowKit Go.Proofs.YtckaofgkepcibaaW.PrintWords Go.Proofs.YtckaofgkepcibaaW.PrintLast Go.Proofs.YtckaofgkepcibaaW.PrintMore
set_option linter.unusedSimpArgs false
set_option linter.unusedVariables false

theorem awake_t (k : Nat) : q_awake.f (k + 20) = some true := by
  have h : q_awake.f 20 = some true := by decide +kernel
  induction k with
  | zero => exact h
  | succ k ih => exact q_awake.mono _ _ ih
theorem mod_big (a m : Int) (hm : 1 ≤ m) (hm2 : m ≤ 400000000000) : ∃ r, kit_Mod.f a m = some r ∧ 0 ≤ r ∧ r < m := by
  unfold kit_Mod.f
  rw [if_neg (by omega), if_neg (by omega)]
  have h1 := Int.tmod_lt_of_pos a (show 0 < m by omega)
  have h2 : -m < Int.tmod a m := by
    have h3 := Int.tmod_lt_of_pos (-a) (show 0 < m by omega)
    rw [Int.neg_tmod] at h3
    omega
  by_cases h : Int.tmod a m < 0
  · rw [if_pos h]
    exact ⟨_, rfl, by rw [wsm _ (by omega) (by omega)]; omega, by rw [wsm _ (by omega) (by omega)]; omega⟩
  · rw [if_neg h]
    exact ⟨_, rfl, by omega, by omega⟩
theorem at_some (l : List Int) (i : Int) : ∃ v, kit_At.f l i = some v := by
  unfold kit_At.f
  by_cases c : i < 0
  · exact ⟨0, by rw [if_pos c]⟩
  · by_cases c2 : i ≥ (l.length : Int)
    · exact ⟨0, by rw [if_neg c, if_pos c2]⟩
    · exact ⟨_, by rw [if_neg c, if_neg c2, if_pos (by omega), if_pos (by omega)]⟩
theorem pos_snoc (l : List Int) (i : Nat) (h : i < l.length) : pos l (i + 1) = pos l i + rd l i := pos_succ l i h
/-- The two loops over the floors. -/
theorem shaft_l2 (l : List Int) (hl : l.length ≤ 8) (hg : ∀ j : Nat, j < l.length → 1 ≤ rd l j ∧ rd l j ≤ 40) (x from_ : Int) (hx : 0 ≤ x) (hx2 : x < 1073741824) :
    ∀ (d K i : Nat), (i : Int) + d = (x / 1024) % ((l.length : Int) + 1) → d < K → q_shaft.l2 K l x from_ (pos l i) i = some (l, 1 + x % 8, (x / 8) % 4, 0, from_, pos l (i + d)) := by
  intro d
  have e1 : wrap64 ((l.length : Int) + 1) = (l.length : Int) + 1 := wsm _ (by omega) (by omega)
  have e2 : Int.tmod (wrap64 (Int.tdiv x 1024)) ((l.length : Int) + 1) = (x / 1024) % ((l.length : Int) + 1) := by
    rw [Int.tdiv_eq_ediv_of_nonneg hx, wsm _ (by omega) (by omega), Int.tmod_eq_emod_of_nonneg (by omega)]
  have hm := Int.emod_lt_of_pos (x / 1024) (show 0 < (l.length : Int) + 1 by omega)
  induction d with
  | zero =>
    intro K i hi hK
    obtain ⟨K, rfl⟩ : ∃ K', K = K' + 1 := ⟨K - 1, by omega⟩
    rw [q_shaft.l2, e1, if_neg (by omega), e2, if_neg (by omega), Int.tmod_eq_emod_of_nonneg hx, Int.tdiv_eq_ediv_of_nonneg hx, wsm (x / 8) (by omega) (by omega), Int.tmod_eq_emod_of_nonneg (show 0 ≤ x / 8 by omega), wsm (1 + x % 8) (by omega) (by omega)]
    rfl
  | succ d ih =>
    intro K i hi hK
    obtain ⟨K, rfl⟩ : ∃ K', K = K' + 1 := ⟨K - 1, by omega⟩
    have hlt : i < l.length := by omega
    have hb := pos_bound l (fun j hj => ⟨(hg j hj).1, by have := (hg j hj).2; omega⟩) i (by omega)
    have hr := hg i hlt
    rw [q_shaft.l2, e1, if_neg (by omega), e2, if_pos (by omega), if_pos (by omega), if_pos (by omega), wsm (pos l i + rd l i) (by omega) (by omega), wsm ((i : Int) + 1) (by omega) (by omega), ← pos_succ l i hlt]
    have := ih K (i + 1) (by omega) (by omega)
    rw [show ((i + 1 : Nat) : Int) = (i : Int) + 1 by omega] at this
    rw [this, show i + 1 + d = i + (d + 1) by omega]
theorem shaft_l1 (l : List Int) (hl : l.length ≤ 8) (hg : ∀ j : Nat, j < l.length → 1 ≤ rd l j ∧ rd l j ≤ 40) (x : Int) (hx : 0 ≤ x) (hx2 : x < 1073741824) :
    ∀ (d K i : Nat), (i : Int) + d = (x / 64) % ((l.length : Int) + 1) → d + 10 < K → ∃ b : Nat, b ≤ l.length ∧ q_shaft.l1 K l x (pos l i) 0 i = some (l, 1 + x % 8, (x / 8) % 4, 0, pos l (i + d), pos l b) := by
  intro d
  have e1 : wrap64 ((l.length : Int) + 1) = (l.length : Int) + 1 := wsm _ (by omega) (by omega)
  have e2 : Int.tmod (wrap64 (Int.tdiv x 64)) ((l.length : Int) + 1) = (x / 64) % ((l.length : Int) + 1) := by
    rw [Int.tdiv_eq_ediv_of_nonneg hx, wsm _ (by omega) (by omega), Int.tmod_eq_emod_of_nonneg (by omega)]
  have hm := Int.emod_lt_of_pos (x / 64) (show 0 < (l.length : Int) + 1 by omega)
  induction d with
  | zero =>
    intro K i hi hK
    obtain ⟨K, rfl⟩ : ∃ K', K = K' + 1 := ⟨K - 1, by omega⟩
    have hm2 := Int.emod_lt_of_pos (x / 1024) (show 0 < (l.length : Int) + 1 by omega)
    have hm3 := Int.emod_nonneg (x / 1024) (show (l.length : Int) + 1 ≠ 0 by omega)
    obtain ⟨b, hb⟩ : ∃ b : Nat, (b : Int) = (x / 1024) % ((l.length : Int) + 1) := ⟨((x / 1024) % ((l.length : Int) + 1)).toNat, by omega⟩
    refine ⟨b, by omega, ?_⟩
    rw [q_shaft.l1, e1, if_neg (by omega), e2, if_neg (by omega)]
    have := shaft_l2 l hl hg x (pos l i) hx hx2 b K 0 (by omega) (by omega)
    rw [show pos l 0 = 0 from by simp [pos], show ((0 : Nat) : Int) = 0 from rfl, Nat.zero_add] at this
    rw [this]
    rfl
  | succ d ih =>
    intro K i hi hK
    obtain ⟨K, rfl⟩ : ∃ K', K = K' + 1 := ⟨K - 1, by omega⟩
    have hlt : i < l.length := by omega
    have hb := pos_bound l (fun j hj => ⟨(hg j hj).1, by have := (hg j hj).2; omega⟩) i (by omega)
    have hr := hg i hlt
    obtain ⟨b, hb1, hb2⟩ := ih K (i + 1) (by omega) (by omega)
    refine ⟨b, hb1, ?_⟩
    rw [q_shaft.l1, e1, if_neg (by omega), e2, if_pos (by omega), if_pos (by omega), if_pos (by omega), wsm (pos l i + rd l i) (by omega) (by omega), wsm ((i : Int) + 1) (by omega) (by omega), ← pos_succ l i hlt]
    rw [show ((i + 1 : Nat) : Int) = (i : Int) + 1 by omega] at hb2
    rw [hb2, show i + 1 + d = i + (d + 1) by omega]
/-- Gaps as the laws make them. -/
def smallGaps (l : List Int) : Prop := l.length ≤ 8 ∧ ∀ j : Nat, j < l.length → 1 ≤ rd l j ∧ rd l j ≤ 40
theorem shaft_l0 (nums : List Int) (x : Int) : ∀ (d K : Nat) (l : List Int), smallGaps l → l.length + d = 8 → 2 * d + 30 < K →
    ∃ l' sp br, ∃ a b : Nat, smallGaps l' ∧ 1 ≤ l'.length ∧ 1 ≤ sp ∧ sp ≤ 8 ∧ 0 ≤ br ∧ br ≤ 3 ∧ a ≤ l'.length ∧ b ≤ l'.length ∧ q_shaft.l0 K nums x l l.length = some (l', sp, br, 0, pos l' a, pos l' b) := by
  intro d
  have fin : ∀ (K : Nat) (l : List Int), smallGaps l → 1 ≤ l.length → 25 < K → ∃ sp br, ∃ a b : Nat, 1 ≤ sp ∧ sp ≤ 8 ∧ 0 ≤ br ∧ br ≤ 3 ∧ a ≤ l.length ∧ b ≤ l.length ∧ q_shaft.j1 K nums x l l.length false = some (l, sp, br, 0, pos l a, pos l b) := by
    intro K l hl h1 hK
    obtain ⟨K, rfl⟩ : ∃ K', K = K' + 1 := ⟨K - 1, by omega⟩
    obtain ⟨t, ht, t0, t1⟩ := mod_big x 1073741824 (by omega) (by omega)
    have hm2 := Int.emod_lt_of_pos (t / 64) (show 0 < (l.length : Int) + 1 by omega)
    have hm3 := Int.emod_nonneg (t / 64) (show (l.length : Int) + 1 ≠ 0 by omega)
    obtain ⟨a, ha⟩ : ∃ a : Nat, (a : Int) = (t / 64) % ((l.length : Int) + 1) := ⟨((t / 64) % ((l.length : Int) + 1)).toNat, by omega⟩
    have hl8 := hl.1
    obtain ⟨b, hb1, hb2⟩ := shaft_l1 l hl.1 hl.2 t t0 t1 a K 0 (by omega) (by omega)
    refine ⟨1 + t % 8, (t / 8) % 4, a, b, by omega, by omega, by omega, by omega, by omega, hb1, ?_⟩
    rw [q_shaft.j1, if_neg (by decide), ht, Option.bind_some]
    rw [show pos l 0 = 0 from by simp [pos], show ((0 : Nat) : Int) = 0 from rfl, Nat.zero_add] at hb2
    exact hb2
  have add : ∀ (K : Nat) (l : List Int), smallGaps l → l.length < 8 → ∃ g, smallGaps (l ++ [g]) ∧ q_shaft.j1 (K + 1) nums x l l.length true = q_shaft.l0 K nums x (l ++ [g]) (l ++ [g]).length := by
    intro K l hl h8
    obtain ⟨v, hv⟩ := at_some nums l.length
    obtain ⟨t, ht, t0, t1⟩ := mod_big v 40 (by omega) (by omega)
    refine ⟨1 + t, ⟨by simp; omega, ?_⟩, ?_⟩
    · intro j hj
      simp only [List.length_append, List.length_cons, List.length_nil] at hj
      unfold rd
      rw [Int.toNat_natCast, List.getD_eq_getElem?_getD]
      by_cases c : j < l.length
      · rw [List.getElem?_append_left c]
        have := hl.2 j c
        unfold rd at this
        rw [Int.toNat_natCast, List.getD_eq_getElem?_getD] at this
        exact this
      · obtain rfl : j = l.length := by omega
        rw [List.getElem?_append_right (Nat.le_refl _), Nat.sub_self]
        simp
        omega
    · rw [q_shaft.j1, if_pos rfl, hv, Option.bind_some, ht, Option.bind_some, if_pos (by have := hl.1; omega), wsm (1 + t) (by omega) (by omega), wsm ((l.length : Int) + 1) (by omega) (by omega), List.length_append]
      rfl
  induction d with
  | zero =>
    intro K l hl hd hK
    obtain ⟨K, rfl⟩ : ∃ K', K = K' + 1 := ⟨K - 1, by omega⟩
    obtain ⟨sp, br, a, b, h1, h2, h3, h4, h5, h6, h7⟩ := fin K l hl (by omega) (by omega)
    refine ⟨l, sp, br, a, b, hl, by omega, h1, h2, h3, h4, h5, h6, ?_⟩
    rw [q_shaft.l0]
    by_cases c : (l.length : Int) < (nums.length : Int)
    · rw [if_pos c, if_neg (by omega), decide_eq_false (by omega)]
      exact h7
    · rw [if_neg c, decide_eq_false (by omega)]
      exact h7
  | succ d ih =>
    intro K l hl hd hK
    obtain ⟨K, rfl⟩ : ∃ K', K = K' + 1 := ⟨K - 1, by omega⟩
    obtain ⟨K, rfl⟩ : ∃ K', K = K' + 1 := ⟨K - 1, by omega⟩
    obtain ⟨g, hg, he⟩ := add K l hl (by omega)
    obtain ⟨l', sp, br, a, b, r1, r2, r3, r4, r5, r6, r7, r8, r9⟩ := ih K (l ++ [g]) hg (by simp; omega) (by omega)
    rw [q_shaft.l0]
    by_cases c : (l.length : Int) < (nums.length : Int)
    · rw [if_pos c, if_pos (by omega), he]
      exact ⟨l', sp, br, a, b, r1, r2, r3, r4, r5, r6, r7, r8, r9⟩
    · rw [if_neg c]
      by_cases c2 : l.length < 1
      · rw [decide_eq_true (show (l.length : Int) < 1 by omega), he]
        exact ⟨l', sp, br, a, b, r1, r2, r3, r4, r5, r6, r7, r8, r9⟩
      · rw [decide_eq_false (show ¬ (l.length : Int) < 1 by omega)]
        obtain ⟨sp, br, a, b, h1, h2, h3, h4, h5, h6, h7⟩ := fin (K + 1) l hl (by omega) (by omega)
        exact ⟨l, sp, br, a, b, hl, by omega, h1, h2, h3, h4, h5, h6, h7⟩
theorem shaft_ok (nums : List Int) (x : Int) (K : Nat) (hK : 50 < K) : ∃ l sp br, ∃ a b : Nat, smallGaps l ∧ 1 ≤ l.length ∧ 1 ≤ sp ∧ sp ≤ 8 ∧ 0 ≤ br ∧ br ≤ 3 ∧ a ≤ l.length ∧ b ≤ l.length ∧ q_shaft.f K nums x = some (l, sp, br, 0, pos l a, pos l b) := by
  obtain ⟨l', sp, br, a, b, r1, r2, r3, r4, r5, r6, r7, r8, r9⟩ := shaft_l0 nums x 8 K [] ⟨by decide, fun j hj => absurd hj (by simp)⟩ rfl (by omega)
  exact ⟨l', sp, br, a, b, r1, r2, r3, r4, r5, r6, r7, r8, r9⟩
theorem travel_ok (L sp : Int) (h : 0 ≤ L) (h1 : L ≤ 63000) (h2 : 1 ≤ sp) (h3 : sp ≤ 20) {T : Nat} (hT : pcnt sp 70000 (0, L) = some T) : profile_Travel.f L sp = some ((T : Int), 0) := by
  unfold profile_Travel.f profile_travel.f
  rw [limits_ok L sp ⟨h, h1⟩ ⟨h2, h3⟩, Option.bind_some, if_pos rfl, hT]
  rfl
theorem pcnt_some (L sp : Int) (h : 0 ≤ L) (h1 : L ≤ 63000) (h2 : 1 ≤ sp) (h3 : sp ≤ 20) : ∃ T : Nat, pcnt sp 70000 (0, L) = some T ∧ (T : Int) ≤ L :=
  pcnt_ex sp h2 h3 70000 0 L (by omega) (by omega) (by rw [show ptri (0 - 1) = 0 from by decide]; exact h) h (by omega) (by omega)
theorem pcnt_more (sp : Int) (h2 : 1 ≤ sp) (h3 : sp ≤ 20) : ∀ (n : Nat) (L : Int) (a b : Nat), 0 ≤ L → L + n ≤ 63000 → pcnt sp 70000 (0, L) = some a → pcnt sp 70000 (0, L + n) = some b → a ≤ b := by
  intro n
  induction n with
  | zero =>
    intro L a b _ _ ha hb
    rw [show L + ((0 : Nat) : Int) = L by omega, ha] at hb
    have := Option.some.inj hb
    omega
  | succ n ih =>
    intro L a b h0 h1 ha hb
    obtain ⟨c, hc, _⟩ := pcnt_some (L + n) sp (by omega) (by omega) h2 h3
    have q1 := ih L a c h0 (by omega) ha hc
    have q2 := pcnt_le sp h2 (by omega) 70000 0 (L + n) c b (by omega) (by omega) (by rw [show ptri (0 - 1) = 0 from by decide]; omega) hc (by rw [show L + (n : Int) + 1 = L + ((n + 1 : Nat) : Int) by omega]; exact hb)
    omega
theorem dms_le' {sp br p g s part left : Int} (h : DV sp br p g s part left) (hb : br ≤ 5) : dms br p g part left ≤ 63100 := by
  have hl := lf_le h.place
  have h1 := h.form
  have h2 := h.rule
  unfold dms
  split
  · omega
  · split
    · omega
    · split <;> omega
theorem numbers_ok (sp br : Int) (h : 1 ≤ sp ∧ sp ≤ 20) (h2 : 0 ≤ br ∧ br ≤ 5) : move_numbers.f sp br = some 0 := by
  unfold move_numbers.f
  rw [if_neg (by omega), if_neg (by omega), if_neg (by omega), if_neg (by omega)]
/-- A padded move that has the time that it needs is valid. -/
theorem Check_ok {sp br p g s part left : Int} (h : DV sp br p g s part left) (hb : 0 ≤ br ∧ br ≤ 5) {T : Nat} (hT : dcnt sp br 70000 (p, g, s, part, left) = some T) (tot dn : Int) (h0 : 0 ≤ dn) (h1 : dn ≤ tot) (h2 : tot ≤ 200000) (hn : (T : Int) ≤ tot - dn) :
    move_Check.f p g s part left tot dn sp br = some 0 := by
  have hr := h.rule
  unfold move_Check.f move_sound.f
  rw [numbers_ok sp br ⟨hr.1, hr.2.1⟩ hb, Option.bind_some, if_pos rfl, show (9 : Nat) = 6 + 3 from rfl, check_ok 6 h hb.2, Option.bind_some, Option.bind_some, if_pos rfl]
  have hm : mbad tot dn = false := by unfold mbad; simp; omega
  rw [if_neg (by rw [hm]; decide), NeedsP_ok 6 h hb.2 hT, Option.bind_some]
  unfold mchk
  dsimp only
  rw [if_pos rfl, if_neg (by omega)]
theorem Step_rest (k : Nat) {sp br p : Int} (hr : 1 ≤ sp ∧ sp ≤ 20) (hb : 0 ≤ br ∧ br ≤ 5) (hp : 0 ≤ p ∧ p ≤ 63000) : drive_Step.f (k + 3) p p 0 0 0 sp br = some (p, p, 0, 0, 0, false, 0) := by
  have h : DV sp br p p 0 0 0 := ⟨by omega, by omega, .inl ⟨rfl, rfl, rfl, rfl⟩⟩
  unfold drive_Step.f
  rw [checked_ok k h hb.2 (by omega), Option.bind_some, if_pos rfl]
  unfold drive_rule_tick.f
  rw [if_neg (by decide), if_neg (by decide), show k + 3 = (k + 2) + 1 from rfl, drive_rule_tick.j1, if_neg (by decide)]
  rfl
/-- A move that is under way for N ticks, in M of them with the motor, from s to f. -/
structure PWay (sp br : Int) (s : DS) (N : Nat) (M : Int) (f : DS) : Prop where
  rule : 1 ≤ sp ∧ sp ≤ 20
  brake : 0 ≤ br ∧ br ≤ 5
  ok : DV sp br s.1 s.2.1 s.2.2.1 s.2.2.2.1 s.2.2.2.2
  runs : Runs sp br s N M f
  cnt : dcnt sp br 70000 s = some N
theorem PWay.of {sp br : Int} {s : DS} {N : Nat} {M : Int} {f : DS} (hr : 1 ≤ sp ∧ sp ≤ 20) (hb : 0 ≤ br ∧ br ≤ 5) (h : DV sp br s.1 s.2.1 s.2.2.1 s.2.2.2.1 s.2.2.2.2) (hR : Runs sp br s N M f) : PWay sp br s N M f := by
  obtain ⟨T, hT, hc⟩ := cnt_ok (sp := sp) (br := br) 63100 70000 s.1 s.2.1 s.2.2.1 s.2.2.2.1 s.2.2.2.2 h (dms_le' h hb.2) (by decide)
  have hN := hR.count hc
  subst hN
  exact ⟨hr, hb, h, hR, hc⟩
/-- The drive behind k ticks. -/
def wst (sp br : Int) (s : DS) (N k : Nat) : DS := dst sp br s (min N k)
/-- The ticks with the motor, of the first k. -/
def wmo (sp br : Int) (s : DS) (N k : Nat) : Int := dmc sp br s (min N k)
theorem PWay.valid {sp br : Int} {s f : DS} {N : Nat} {M : Int} (h : PWay sp br s N M f) (k : Nat) : DV sp br (wst sp br s N k).1 (wst sp br s N k).2.1 (wst sp br s N k).2.2.1 (wst sp br s N k).2.2.2.1 (wst sp br s N k).2.2.2.2 :=
  dst_ok h.ok h.cnt (min N k) (Nat.min_le_left _ _)
theorem PWay.left {sp br : Int} {s f : DS} {N : Nat} {M : Int} (h : PWay sp br s N M f) (k : Nat) : dcnt sp br 70000 (wst sp br s N k) = some (N - min N k) :=
  dcnt_at h.cnt (min N k) (Nat.min_le_left _ _)
theorem PWay.check {sp br : Int} {s f : DS} {N : Nat} {M : Int} (h : PWay sp br s N M f) (k : Nat) (tot : Int) (h1 : (k : Int) ≤ tot) (h2 : tot ≤ 200000) (hN : (N : Int) ≤ tot) :
    move_Check.f (wst sp br s N k).1 (wst sp br s N k).2.1 (wst sp br s N k).2.2.1 (wst sp br s N k).2.2.2.1 (wst sp br s N k).2.2.2.2 tot k sp br = some 0 :=
  Check_ok (h.valid k) h.brake (h.left k) tot k (by omega) h1 h2 (by omega)
theorem PWay.step {sp br : Int} {s f : DS} {N : Nat} {M : Int} (h : PWay sp br s N M f) (k : Nat) :
    ∃ m : Bool, drive_Step.f 9 (wst sp br s N k).1 (wst sp br s N k).2.1 (wst sp br s N k).2.2.1 (wst sp br s N k).2.2.2.1 (wst sp br s N k).2.2.2.2 sp br =
      some ((wst sp br s N (k + 1)).1, (wst sp br s N (k + 1)).2.1, (wst sp br s N (k + 1)).2.2.1, (wst sp br s N (k + 1)).2.2.2.1, (wst sp br s N (k + 1)).2.2.2.2, m, 0) ∧ wmo sp br s N (k + 1) = wmo sp br s N k + (if m = true then 1 else 0) := by
  by_cases c : k < N
  · have hp := h.runs.busy k c
    have e1 : min N k = k := by omega
    have e2 : min N (k + 1) = k + 1 := by omega
    have hv := h.valid k
    unfold wst wmo at *
    rw [e1] at hv ⊢
    rw [e2]
    refine ⟨dmo sp br (dst sp br s k), ?_, rfl⟩
    have hd := dnx_eq hv hp
    rw [show (9 : Nat) = 6 + 3 from rfl, Step_ok 6 hv h.brake.2 hp]
    show _ = some ((dnx sp br (dst sp br s k)).1, (dnx sp br (dst sp br s k)).2.1, (dnx sp br (dst sp br s k)).2.2.1, (dnx sp br (dst sp br s k)).2.2.2.1, (dnx sp br (dst sp br s k)).2.2.2.2, dmo sp br (dst sp br s k), 0)
    obtain ⟨h1, h2⟩ := hd
    have e3 : (dst sp br s k) = ((dst sp br s k).1, (dst sp br s k).2.1, (dst sp br s k).2.2.1, (dst sp br s k).2.2.2.1, (dst sp br s k).2.2.2.2) := rfl
    rw [← e3] at h1 h2
    rw [h1, h2]
  · have e1 : min N k = N := by omega
    have e2 : min N (k + 1) = N := by omega
    have hv := h.valid k
    unfold wst wmo at *
    rw [e1] at hv ⊢
    rw [e2]
    have hrest := h.runs.rest
    rw [← h.runs.last] at hrest
    obtain ⟨p, g, q, part, left, he⟩ : ∃ p g q part left, dst sp br s N = (p, g, q, part, left) := ⟨_, _, _, _, _, rfl⟩
    rw [he] at hv hrest ⊢
    dsimp only at hv hrest ⊢
    subst hrest
    obtain ⟨rfl, rfl, rfl⟩ : g = p ∧ q = 0 ∧ left = 0 := by
      rcases hv.form with ⟨_, a, b, c⟩ | ⟨a, _⟩ | ⟨a, _⟩ | ⟨a, _⟩
      · exact ⟨a, b, c⟩
      all_goals exact absurd a (by decide)
    exact ⟨false, Step_rest 6 h.rule h.brake ⟨hv.place.1, hv.place.2.1⟩, by simp⟩
/-- So many ticks more. -/
theorem PWay.run {sp br : Int} {s f : DS} {N : Nat} {M : Int} (h : PWay sp br s N M f) : ∀ (n k : Nat) (m : Int), mrn sp br n (wst sp br s N k) m = some (wst sp br s N (k + n), m + (wmo sp br s N (k + n) - wmo sp br s N k)) := by
  intro n
  induction n with
  | zero =>
    intro k m
    rw [mrn, Nat.add_zero, Int.sub_self, Int.add_zero]
  | succ n ih =>
    intro k m
    obtain ⟨b, hb, hm⟩ := h.step k
    rw [mrn, hb, Option.bind_some]
    dsimp only
    rw [if_pos rfl]
    have := ih (k + 1) (if b = true then m + 1 else m)
    rw [show k + 1 + n = k + (n + 1) by omega] at this
    refine Eq.trans this ?_
    congr 2
    rw [hm]
    cases b <;> simp <;> omega
theorem PWay.runs_ {sp br : Int} {s f : DS} {N : Nat} {M : Int} (h : PWay sp br s N M f) (k n : Nat) (tot : Int) (h1 : (k : Int) + n ≤ tot) (h2 : tot ≤ 200000) (hN : (N : Int) ≤ tot) :
    move_Run.f (wst sp br s N k).1 (wst sp br s N k).2.1 (wst sp br s N k).2.2.1 (wst sp br s N k).2.2.2.1 (wst sp br s N k).2.2.2.2 tot k sp br (n : Int) =
      some ((wst sp br s N (k + n)).1, (wst sp br s N (k + n)).2.1, (wst sp br s N (k + n)).2.2.1, (wst sp br s N (k + n)).2.2.2.1, (wst sp br s N (k + n)).2.2.2.2, tot, (k : Int) + n, wmo sp br s N (k + n) - wmo sp br s N k, 0) := by
  unfold move_Run.f
  rw [h.check k tot (by omega) h2 hN, Option.bind_some, if_pos rfl, if_pos (by omega), Int.toNat_natCast]
  have := h.run n k 0
  have e3 : (wst sp br s N k) = ((wst sp br s N k).1, (wst sp br s N k).2.1, (wst sp br s N k).2.2.1, (wst sp br s N k).2.2.2.1, (wst sp br s N k).2.2.2.2) := rfl
  rw [← e3, this, Option.bind_some]
  dsimp only
  rw [Int.zero_add]
/-- How a padded move between two floors begins. -/
theorem begin_ok (K : Nat) (p d sp br : Int) (hp : 0 ≤ p ∧ p ≤ 63000) (hd : 0 ≤ d ∧ d ≤ 63000) (hr : 1 ≤ sp ∧ sp ≤ 20) (hb : 0 ≤ br ∧ br ≤ 5) (tot : Int) (T : Nat) (hT : pcnt sp 70000 (0, lf p d) = some T) (ht : (T : Int) + 2 * br ≤ tot) (ht2 : tot ≤ 200000) :
    ∃ s : DS, ∃ N : Nat, (N : Int) ≤ tot ∧ PWay sp br s N T (d, d, 0, 0, 0) ∧ move_Begin.f (K + 9) p p 0 0 0 d tot sp br = some (s.1, s.2.1, s.2.2.1, s.2.2.2.1, s.2.2.2.2, tot, 0, 0) := by
  obtain ⟨part, left, hg, hv, hR⟩ := goes_runs p d br sp hp hd hb hr T hT
  have hw : PWay sp br (p, d, 0, part, left) (if d = p then 0 else T + 2 * br.toNat) T (d, d, 0, 0, 0) := PWay.of hr hb hv hR
  refine ⟨(p, d, 0, part, left), (if d = p then 0 else T + 2 * br.toNat), by split <;> omega, hw, ?_⟩
  have hr0 : DV sp br p p 0 0 0 := ⟨by omega, by omega, .inl ⟨rfl, rfl, rfl, rfl⟩⟩
  unfold move_Begin.f move_sound.f
  rw [numbers_ok sp br hr hb, Option.bind_some, if_pos rfl, show K + 9 = (K + 6) + 3 from rfl, check_ok (K + 6) hr0 hb.2, Option.bind_some, Option.bind_some, if_pos rfl, Go_ok (K + 6) p d br part left hp hd hb hg, Option.bind_some]
  dsimp only
  have hwr : move_wrong.f tot = some false := by
    unfold move_wrong.f
    rw [if_neg (by omega), decide_eq_false (by omega)]
  have hc := Check_ok hv hb hw.cnt tot 0 (by omega) (by omega) ht2 (by split <;> omega)
  rw [show K + 6 + 3 = (K + 8) + 1 from rfl, move_Begin.j0, if_pos rfl, hwr, Option.bind_some, show K + 8 = (K + 7) + 1 from rfl, move_Begin.j1, if_neg (by decide), show K + 7 = (K + 6) + 1 from rfl, move_Begin.j2, if_pos rfl, hc, Option.bind_some, if_pos rfl]
/-- A shaft, its times, and two floors of it. -/
theorem way_ok (nums : List Int) (x : Int) (K : Nat) (hK : 50 < K) : ∃ l sp br from_ to_, ∃ T0 T : Nat, q_shaft.f K nums x = some (l, sp, br, 0, from_, to_) ∧ (1 ≤ sp ∧ sp ≤ 20) ∧ (0 ≤ br ∧ br ≤ 3) ∧ (0 ≤ from_ ∧ from_ ≤ 400) ∧ (0 ≤ to_ ∧ to_ ≤ 400) ∧
    move_Ticks.f l sp br = some ((T0 : Int) + 2 * br, 0) ∧ pcnt sp 70000 (0, lf from_ to_) = some T ∧ T ≤ T0 ∧ T0 ≤ 400 := by
  obtain ⟨l, sp, br, a, b, r1, r2, r3, r4, r5, r6, r7, r8, r9⟩ := shaft_ok nums x K hK
  have hg : Sh.gok l := ⟨r2, by have := r1.1; omega, fun j hj => ⟨(r1.2 j hj).1, by have := (r1.2 j hj).2; omega⟩⟩
  have hb40 : ∀ k, k ≤ l.length → pos l k ≤ 40 * k := by
    intro k
    induction k with
    | zero => intro _; simp [pos]
    | succ k ih => intro hk; rw [pos_succ l k (by omega)]; have := ih (by omega); have := (r1.2 k (by omega)).2; omega
  have h8 := r1.1
  have p1 := hb40 l.length (Nat.le_refl _)
  have p2 := Sh.pos_le l hg a l.length r7 (Nat.le_refl _)
  have p3 := Sh.pos_le l hg b l.length r8 (Nat.le_refl _)
  have p4 := (Sh.pos_top l hg a r7).1
  have p5 := (Sh.pos_top l hg b r8).1
  have p6 := (Sh.pos_top l hg l.length (Nat.le_refl _)).1
  have hlf : 0 ≤ lf (pos l a) (pos l b) ∧ lf (pos l a) (pos l b) ≤ pos l l.length := by unfold lf; split <;> omega
  obtain ⟨T0, hT0, hl0⟩ := pcnt_some (pos l l.length) sp p6 (by omega) r3 (by omega)
  obtain ⟨T, hT, hl⟩ := pcnt_some (lf (pos l a) (pos l b)) sp hlf.1 (by omega) r3 (by omega)
  have hle : T ≤ T0 := pcnt_more sp r3 (by omega) (pos l l.length - lf (pos l a) (pos l b)).toNat (lf (pos l a) (pos l b)) T T0 hlf.1 (by omega) hT (by rw [show lf (pos l a) (pos l b) + ((pos l l.length - lf (pos l a) (pos l b)).toNat : Int) = pos l l.length by omega]; exact hT0)
  refine ⟨l, sp, br, pos l a, pos l b, T0, T, r9, ⟨r3, by omega⟩, ⟨r5, r6⟩, ⟨p4, by omega⟩, ⟨p5, by omega⟩, ?_, hT, hle, by omega⟩
  unfold move_Ticks.f
  rw [Sh.Height_ok l hg, Option.bind_some]
  dsimp only
  rw [if_pos rfl, numbers_ok sp br ⟨r3, by omega⟩ ⟨r5, by omega⟩, Option.bind_some, if_pos rfl, travel_ok _ _ p6 (by omega) r3 (by omega) hT0, Option.bind_some]
  dsimp only
  rw [wsm (2 * br) (by omega) (by omega), wsm _ (by omega) (by omega)]
theorem at_rest (p : Int) (h : 0 ≤ p ∧ p ≤ 63000) : q_at.f p = some (p, p, 0, 0, 0) := by
  unfold q_at.f drive_At.f
  rw [at_eq, decide_eq_true h, Option.bind_some, if_pos rfl, Option.bind_some]
end Go.Proofs.Ytckaofgkepcibaa.P
