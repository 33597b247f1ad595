/- The faults of two lists, one after the other, are those of the joined list. -/
import Derived.Test.YtlkphdcfgaolnaaLSensorJoins
import Derived.Test.YtlkphdcfgaolnaaM
namespace Go.Proofs.Ytlkphdcfgaolnaa.Pure
open Go.RowKit Go.Proofs.Ytlkphdcfgaolnaa.P Go.Proofs.YtlkphdcfgaolnaaW.PrintWords Go.Proofs.YtlkphdcfgaolnaaW.PrintLast Go.Proofs.YtlkphdcfgaolnaaW.PrintMore
set_option linter.unusedSimpArgs false
set_option linter.unusedVariables false
def isf (car : Int) (e : S68) : Bool := decide (e.f1 = 2 ∧ e.f4 = car ∧ e.f5 ≥ 3 ∧ e.f5 ≤ 6)
def fl (l : List S68) (car : Int) : List Int := (l.filter (isf car)).map (·.f5)
theorem fl_append (a b : List S68) (car : Int) : fl (a ++ b) car = fl a car ++ fl b car := by simp [fl]
theorem fl_len (l : List S68) (car : Int) : (fl l car).length ≤ l.length := by
  unfold fl
  rw [List.length_map]
  exact List.length_filter_le _ _
theorem faults_loop (l : List S68) (hl : l.length ≤ 100000) (car : Int) : ∀ (d k i : Nat) (acc : List Int), i + d = l.length → acc.length ≤ i → sensor_Faults.l0 (k + d + 1) car acc l (l.length : Int) (i : Int) = some (acc ++ fl (l.drop i) car, 0) := by
  intro d
  induction d with
  | zero =>
    intro k i acc hi ha
    rw [Nat.add_zero, sensor_Faults.l0, if_neg (by omega), List.drop_eq_nil_of_le (by omega)]
    simp [fl]
  | succ d ih =>
    intro k i acc hi ha
    have hlt : i < l.length := by omega
    have hd := List.drop_eq_getElem_cons hlt
    have hrd : rd_T68 l (i : Int) = l[i] := by
      unfold rd_T68
      simp [List.getD_eq_getElem?_getD, hlt]
    rw [show k + (d + 1) + 1 = (k + d + 1) + 1 by omega, sensor_Faults.l0, if_pos (by omega), if_pos (by omega), if_pos (by omega), hrd, wsv ((i : Int) + 1) (by omega) (by omega), show (i : Int) + 1 = ((i + 1 : Nat) : Int) by omega,
      ih k (i + 1) acc (by omega) (by omega), ih k (i + 1) (acc ++ [l[i].f5]) (by omega) (by rw [List.length_append]; simp; omega), hd]
    generalize l[i] = e
    by_cases c1 : e.f1 = 2
    · by_cases c2 : e.f4 = car
      · by_cases c3 : e.f5 ≥ 3
        · by_cases c4 : e.f5 ≤ 6
          · rw [if_pos c1, if_pos c2, if_pos c3, if_pos c4, if_pos (by omega)]
            have : isf car e = true := decide_eq_true ⟨c1, c2, c3, c4⟩
            simp [fl, List.filter_cons, this]
          · rw [if_pos c1, if_pos c2, if_pos c3, if_neg c4]
            have : isf car e = false := decide_eq_false (fun q => c4 q.2.2.2)
            simp [fl, List.filter_cons, this]
        · rw [if_pos c1, if_pos c2, if_neg c3]
          have : isf car e = false := decide_eq_false (fun q => c3 q.2.2.1)
          simp [fl, List.filter_cons, this]
      · rw [if_pos c1, if_neg c2]
        have : isf car e = false := decide_eq_false (fun q => c2 q.2.1)
        simp [fl, List.filter_cons, this]
    · rw [if_neg c1]
      have : isf car e = false := decide_eq_false (fun q => c1 q.1)
      simp [fl, List.filter_cons, this]
theorem faults_ok (l : List S68) (n : Nat) (hn : l.length ≤ n) (hl : n ≤ 100000) (car : Int) (h1 : 1 ≤ car) (h8 : car ≤ 8) (k : Nat) : sensor_Faults.f (k + n + 2) l car = some (fl l car, 0) := by
  unfold sensor_Faults.f
  rw [if_neg (by omega), decide_eq_false (by omega), sensor_Faults.j0, if_neg (by decide), show k + n + 1 = (k + (n - l.length)) + l.length + 1 by omega]
  exact faults_loop l (by omega) car l.length _ 0 [] (by omega) (by simp)
theorem rd_at (l : List Int) (i : Nat) (h : i < l.length) : rd l (i : Int) = l[i] := by
  unfold rd
  simp [List.getD_eq_getElem?_getD, h]
theorem has_loop (l : List Int) (hl : l.length ≤ 100000) (v : Int) : ∀ (d k i : Nat), i + d = l.length → kit_Has.l0 (k + d + 1) l v (i : Int) = some (decide (v ∈ l.drop i)) := by
  intro d
  induction d with
  | zero =>
    intro k i hi
    rw [Nat.add_zero, kit_Has.l0, if_neg (by omega), List.drop_eq_nil_of_le (by omega)]
    simp
  | succ d ih =>
    intro k i hi
    have hlt : i < l.length := by omega
    have hd := List.drop_eq_getElem_cons hlt
    rw [show k + (d + 1) + 1 = (k + d + 1) + 1 by omega, kit_Has.l0, if_pos (by omega), if_pos (by omega), rd_at l i hlt, wsv ((i : Int) + 1) (by omega) (by omega), show (i : Int) + 1 = ((i + 1 : Nat) : Int) by omega, ih k (i + 1) (by omega), hd]
    by_cases c : l[i] = v
    · rw [if_pos c, c]; simp
    · rw [if_neg c]
      have c2 : ¬ v = l[i] := fun q => c q.symm
      exact congrArg some (decide_eq_decide.2 ⟨fun q => List.mem_cons_of_mem _ q, fun q => (List.mem_cons.1 q).resolve_left c2⟩)
theorem has_ok (l : List Int) (n : Nat) (hn : l.length ≤ n) (hl : n ≤ 100000) (v : Int) (k : Nat) : kit_Has.f (k + n + 1) l v = some (decide (v ∈ l)) := by
  unfold kit_Has.f
  rw [show k + n + 1 = (k + (n - l.length)) + l.length + 1 by omega]
  exact has_loop l (by omega) v l.length _ 0 (by omega)
theorem idx_loop (l : List Int) (hl : l.length ≤ 100000) (v : Int) : ∀ (d k i : Nat), i + d = l.length → ∃ r, slices_Index_int_int.l0 (k + d + 1) l v (l.length : Int) (i : Int) = some r ∧ decide (r ≥ 0) = decide (v ∈ l.drop i) := by
  intro d
  induction d with
  | zero =>
    intro k i hi
    rw [Nat.add_zero, slices_Index_int_int.l0, if_neg (by omega), List.drop_eq_nil_of_le (by omega)]
    exact ⟨-1, rfl, by simp⟩
  | succ d ih =>
    intro k i hi
    have hlt : i < l.length := by omega
    have hd := List.drop_eq_getElem_cons hlt
    rw [show k + (d + 1) + 1 = (k + d + 1) + 1 by omega, slices_Index_int_int.l0, if_pos (by omega), if_pos (by omega), if_pos (by omega), rd_at l i hlt, wsv ((i : Int) + 1) (by omega) (by omega), show (i : Int) + 1 = ((i + 1 : Nat) : Int) by omega, hd]
    by_cases c : v = l[i]
    · rw [if_pos c]
      exact ⟨_, rfl, (decide_eq_true (by omega)).trans (decide_eq_true (List.mem_cons.2 (.inl c))).symm⟩
    · rw [if_neg c]
      obtain ⟨r, h1, h2⟩ := ih k (i + 1) (by omega)
      exact ⟨r, h1, h2.trans (decide_eq_decide.2 ⟨fun q => List.mem_cons_of_mem _ q, fun q => (List.mem_cons.1 q).resolve_left c⟩)⟩
theorem contains_ok (l : List Int) (n : Nat) (hn : l.length ≤ n) (hl : n ≤ 100000) (v : Int) (k : Nat) : slices_Contains_int_int.f (k + n + 1) l v = some (decide (v ∈ l)) := by
  obtain ⟨r, h1, h2⟩ := idx_loop l (by omega) v l.length (k + (n - l.length)) 0 (by omega)
  unfold slices_Contains_int_int.f slices_Index_int_int.f
  rw [show k + n + 1 = (k + (n - l.length)) + l.length + 1 by omega, show (0 : Int) = ((0 : Nat) : Int) from rfl, h1, Option.bind_some]
  rw [show ((0 : Nat) : Int) = 0 from rfl, h2]
  rfl
theorem same_loop (l : List Int) (hl : l.length ≤ 100000) (d : Nat) : ∀ (k : Nat) (i : Int), 0 ≤ i → (l.length : Int) - i = d → kit_SameInts.l0 (k + d + 1) l l i = some true := by
  induction d with
  | zero =>
    intro k i h0 h1
    rw [Nat.add_zero, kit_SameInts.l0, if_neg (by omega)]
  | succ d ih =>
    intro k i h0 h1
    rw [show k + (d + 1) + 1 = (k + d + 1) + 1 by omega, kit_SameInts.l0, if_pos (by omega), if_pos h0, if_pos (by omega), if_pos rfl, wsv (i + 1) (by omega) (by omega)]
    exact ih k (i + 1) (by omega) (by omega)
theorem same_refl (l : List Int) (n : Nat) (hl : l.length ≤ n) (hn : n ≤ 100000) (k : Nat) : kit_SameInts.f (k + n + 1) l l = some true := by
  unfold kit_SameInts.f
  rw [if_pos rfl, show k + n + 1 = (k + (n - l.length)) + l.length + 1 by omega]
  exact same_loop l (by omega) l.length _ 0 (by omega) (by omega)
theorem entries_loop (nums : List Int) : ∀ (d k i : Nat) (acc : List S68), i + d = 20 → acc.length = i → ∃ l, q_entries.l0 (k + d + 1) nums acc (i : Int) = some l ∧ l.length ≤ 20 := by
  intro d
  induction d with
  | zero =>
    intro k i acc hi ha
    rw [Nat.add_zero, q_entries.l0]
    by_cases c : (i : Int) < (nums.length : Int)
    · rw [if_pos c, if_neg (by omega)]; exact ⟨acc, rfl, by omega⟩
    · rw [if_neg c]; exact ⟨acc, rfl, by omega⟩
  | succ d ih =>
    intro k i acc hi ha
    rw [show k + (d + 1) + 1 = (k + d + 1) + 1 by omega, q_entries.l0]
    by_cases c : (i : Int) < (nums.length : Int)
    · obtain ⟨t, ht, _, _⟩ := mod_eq (rd nums (i : Int)) 1000 (by omega) (by omega)
      rw [if_pos c, if_pos (by omega), if_pos (by omega), ht, Option.bind_some, if_pos (by omega), wsv ((i : Int) + 1) (by omega) (by omega), show (i : Int) + 1 = ((i + 1 : Nat) : Int) by omega]
      exact ih k (i + 1) _ (by omega) (by rw [List.length_append]; simp; omega)
    · rw [if_neg c]; exact ⟨acc, rfl, by omega⟩
theorem entries_ok (nums : List Int) (k : Nat) : ∃ l, q_entries.f (k + 21) nums = some l ∧ l.length ≤ 20 := entries_loop nums 20 k 0 [] rfl rfl
theorem works_ok (l : List S68) (n : Nat) (hn : l.length ≤ n) (hl : n ≤ 1000) (car : Int) (h1 : 1 ≤ car) (h8 : car ≤ 8) (k : Nat) : sensor_Works.f (k + n + 2) l car = some (!decide (5 ∈ fl l car), 0) := by
  unfold sensor_Works.f
  have := fl_len l car
  rw [faults_ok l n hn (by omega) car h1 h8 k, Option.bind_some]
  dsimp only
  rw [if_pos rfl, show k + n + 2 = (k + 1) + n + 1 by omega, contains_ok _ n (by omega) (by omega), Option.bind_some]
theorem SensorJoins : q_SensorJoins.Pure := by
  intro l0 l1 a2 _ _ _ _ _ _ _
  refine ⟨200, ?_⟩
  obtain ⟨t, ht, t0, t1⟩ := mod_eq a2 3 (by omega) (by omega)
  obtain ⟨a, ha, la⟩ := entries_ok l0 179
  obtain ⟨b, hb, lb⟩ := entries_ok l1 179
  have fa := fl_len a (1 + t)
  have fb := fl_len b (1 + t)
  have hfa := faults_ok a 40 (by omega) (by omega) (1 + t) (by omega) (by omega) 158
  have hfb := faults_ok b 40 (by omega) (by omega) (1 + t) (by omega) (by omega) 158
  have hfab := faults_ok (a ++ b) 40 (by rw [List.length_append]; omega) (by omega) (1 + t) (by omega) (by omega) 158
  have hwa := works_ok a 40 (by omega) (by omega) (1 + t) (by omega) (by omega) 158
  have hha := has_ok (fl a (1 + t)) 40 (by omega) (by omega) 5 159
  have hsame := same_refl (fl a (1 + t) ++ fl b (1 + t)) 40 (by rw [List.length_append]; omega) (by omega) 159
  rw [fl_append] at hfab
  have hown : kit_OwnInts.f (fl a (1 + t)) = some (fl a (1 + t)) := by
    unfold kit_OwnInts.f
    rw [Option.bind_some, if_pos (by simp; omega)]
    rfl
  unfold q_SensorJoins.f
  rw [show 200 = 140 + 60 from rfl, known_true, Option.bind_some, if_pos rfl, ht, Option.bind_some, wsv (1 + t) (by omega) (by omega), show 140 + 60 = 179 + 21 from rfl, ha, Option.bind_some, hb, Option.bind_some,
    show 179 + 21 = 158 + 40 + 2 from rfl, hfa, Option.bind_some, hfb, Option.bind_some, Option.bind_some, if_pos (by simp; omega), Option.bind_some, List.nil_append, if_pos (by omega), hfab, Option.bind_some, hwa, Option.bind_some]
  dsimp only
  rw [if_pos rfl, if_pos rfl, if_pos rfl, if_pos rfl, show 158 + 40 + 2 = 159 + 40 + 1 from rfl, hha, Option.bind_some, if_pos (by cases decide (5 ∈ fl a (1 + t)) <;> rfl), hown, Option.bind_some, if_pos (by omega), hsame, Option.bind_some]
end Go.Proofs.Ytlkphdcfgaolnaa.Pure
