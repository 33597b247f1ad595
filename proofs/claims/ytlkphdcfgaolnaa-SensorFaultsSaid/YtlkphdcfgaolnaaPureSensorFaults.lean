/- Faults of a car: the program answers as the reference, and the list is not changed. -/
import Derived.Test.YtlkphdcfgaolnaaLSensorFaults
import Derived.Test.YtlkphdcfgaolnaaM
namespace Go.Proofs.Ytlkphdcfgaolnaa.Pure
open Go.RowKit Go.Proofs.Ytlkphdcfgaolnaa.P Go.Proofs.YtlkphdcfgaolnaaW.PrintWords Go.Proofs.YtlkphdcfgaolnaaW.PrintLast Go.Proofs.YtlkphdcfgaolnaaW.PrintMore
set_option linter.unusedSimpArgs false
set_option linter.unusedVariables false
def isf (car : Int) (e : S68) : Bool := decide (e.f1 = 2 ∧ e.f4 = car ∧ e.f5 ≥ 3 ∧ e.f5 ≤ 6)
def fl (l : List S68) (car : Int) : List Int := (l.filter (isf car)).map (·.f5)
theorem fl_append (a b : List S68) (car : Int) : fl (a ++ b) car = fl a car ++ fl b car := by simp [fl]
theorem fl_len (l : List S68) (car : Int) : (fl l car).length ≤ l.length := by
  unfold fl
  rw [List.length_map]
  exact List.length_filter_le _ _
theorem faults_loop (l : List S68) (hl : l.length ≤ 100000) (car : Int) : ∀ (d k i : Nat) (acc : List Int), i + d = l.length → acc.length ≤ i → sensor_Faults.l0 (k + d + 1) car acc l (l.length : Int) (i : Int) = some (acc ++ fl (l.drop i) car, 0) := by
  intro d
  induction d with
  | zero =>
    intro k i acc hi ha
    rw [Nat.add_zero, sensor_Faults.l0, if_neg (by omega), List.drop_eq_nil_of_le (by omega)]
    simp [fl]
  | succ d ih =>
    intro k i acc hi ha
    have hlt : i < l.length := by omega
    have hd := List.drop_eq_getElem_cons hlt
    have hrd : rd_T68 l (i : Int) = l[i] := by
      unfold rd_T68
      simp [List.getD_eq_getElem?_getD, hlt]
    rw [show k + (d + 1) + 1 = (k + d + 1) + 1 by omega, sensor_Faults.l0, if_pos (by omega), if_pos (by omega), if_pos (by omega), hrd, wsv ((i : Int) + 1) (by omega) (by omega), show (i : Int) + 1 = ((i + 1 : Nat) : Int) by omega,
      ih k (i + 1) acc (by omega) (by omega), ih k (i + 1) (acc ++ [l[i].f5]) (by omega) (by rw [List.length_append]; simp; omega), hd]
    generalize l[i] = e
    by_cases c1 : e.f1 = 2
    · by_cases c2 : e.f4 = car
      · by_cases c3 : e.f5 ≥ 3
        · by_cases c4 : e.f5 ≤ 6
          · rw [if_pos c1, if_pos c2, if_pos c3, if_pos c4, if_pos (by omega)]
            have : isf car e = true := decide_eq_true ⟨c1, c2, c3, c4⟩
            simp [fl, List.filter_cons, this]
          · rw [if_pos c1, if_pos c2, if_pos c3, if_neg c4]
            have : isf car e = false := decide_eq_false (fun q => c4 q.2.2.2)
            simp [fl, List.filter_cons, this]
        · rw [if_pos c1, if_pos c2, if_neg c3]
          have : isf car e = false := decide_eq_false (fun q => c3 q.2.2.1)
          simp [fl, List.filter_cons, this]
      · rw [if_pos c1, if_neg c2]
        have : isf car e = false := decide_eq_false (fun q => c2 q.2.1)
        simp [fl, List.filter_cons, this]
    · rw [if_neg c1]
      have : isf car e = false := decide_eq_false (fun q => c1 q.1)
      simp [fl, List.filter_cons, this]
theorem faults_ok (l : List S68) (n : Nat) (hn : l.length ≤ n) (hl : n ≤ 100000) (car : Int) (h1 : 1 ≤ car) (h8 : car ≤ 8) (k : Nat) : sensor_Faults.f (k + n + 2) l car = some (fl l car, 0) := by
  unfold sensor_Faults.f
  rw [if_neg (by omega), decide_eq_false (by omega), sensor_Faults.j0, if_neg (by decide), show k + n + 1 = (k + (n - l.length)) + l.length + 1 by omega]
  exact faults_loop l (by omega) car l.length _ 0 [] (by omega) (by simp)
theorem rd_at (l : List Int) (i : Nat) (h : i < l.length) : rd l (i : Int) = l[i] := by
  unfold rd
  simp [List.getD_eq_getElem?_getD, h]
theorem idx_loop (l : List Int) (hl : l.length ≤ 100000) (v : Int) : ∀ (d k i : Nat), i + d = l.length → ∃ r, slices_Index_int_int.l0 (k + d + 1) l v (l.length : Int) (i : Int) = some r ∧ decide (r ≥ 0) = decide (v ∈ l.drop i) := by
  intro d
  induction d with
  | zero =>
    intro k i hi
    rw [Nat.add_zero, slices_Index_int_int.l0, if_neg (by omega), List.drop_eq_nil_of_le (by omega)]
    exact ⟨-1, rfl, by simp⟩
  | succ d ih =>
    intro k i hi
    have hlt : i < l.length := by omega
    have hd := List.drop_eq_getElem_cons hlt
    rw [show k + (d + 1) + 1 = (k + d + 1) + 1 by omega, slices_Index_int_int.l0, if_pos (by omega), if_pos (by omega), if_pos (by omega), rd_at l i hlt, wsv ((i : Int) + 1) (by omega) (by omega), show (i : Int) + 1 = ((i + 1 : Nat) : Int) by omega, hd]
    by_cases c : v = l[i]
    · rw [if_pos c]
      exact ⟨_, rfl, (decide_eq_true (by omega)).trans (decide_eq_true (List.mem_cons.2 (.inl c))).symm⟩
    · rw [if_neg c]
      obtain ⟨r, h1, h2⟩ := ih k (i + 1) (by omega)
      exact ⟨r, h1, h2.trans (decide_eq_decide.2 ⟨fun q => List.mem_cons_of_mem _ q, fun q => (List.mem_cons.1 q).resolve_left c⟩)⟩
theorem contains_ok (l : List Int) (n : Nat) (hn : l.length ≤ n) (hl : n ≤ 100000) (v : Int) (k : Nat) : slices_Contains_int_int.f (k + n + 1) l v = some (decide (v ∈ l)) := by
  obtain ⟨r, h1, h2⟩ := idx_loop l (by omega) v l.length (k + (n - l.length)) 0 (by omega)
  unfold slices_Contains_int_int.f slices_Index_int_int.f
  rw [show k + n + 1 = (k + (n - l.length)) + l.length + 1 by omega, show (0 : Int) = ((0 : Nat) : Int) from rfl, h1, Option.bind_some]
  rw [show ((0 : Nat) : Int) = 0 from rfl, h2]
  rfl
theorem same_loop (l : List Int) (hl : l.length ≤ 100000) (d : Nat) : ∀ (k : Nat) (i : Int), 0 ≤ i → (l.length : Int) - i = d → kit_SameInts.l0 (k + d + 1) l l i = some true := by
  induction d with
  | zero =>
    intro k i h0 h1
    rw [Nat.add_zero, kit_SameInts.l0, if_neg (by omega)]
  | succ d ih =>
    intro k i h0 h1
    rw [show k + (d + 1) + 1 = (k + d + 1) + 1 by omega, kit_SameInts.l0, if_pos (by omega), if_pos h0, if_pos (by omega), if_pos rfl, wsv (i + 1) (by omega) (by omega)]
    exact ih k (i + 1) (by omega) (by omega)
theorem same_refl (l : List Int) (n : Nat) (hl : l.length ≤ n) (hn : n ≤ 100000) (k : Nat) : kit_SameInts.f (k + n + 1) l l = some true := by
  unfold kit_SameInts.f
  rw [if_pos rfl, show k + n + 1 = (k + (n - l.length)) + l.length + 1 by omega]
  exact same_loop l (by omega) l.length _ 0 (by omega) (by omega)
theorem works_ok (l : List S68) (n : Nat) (hn : l.length ≤ n) (hl : n ≤ 1000) (car : Int) (h1 : 1 ≤ car) (h8 : car ≤ 8) (k : Nat) : sensor_Works.f (k + n + 2) l car = some (!decide (5 ∈ fl l car), 0) := by
  unfold sensor_Works.f
  have := fl_len l car
  rw [faults_ok l n hn (by omega) car h1 h8 k, Option.bind_some]
  dsimp only
  rw [if_pos rfl, show k + n + 2 = (k + 1) + n + 1 by omega, contains_ok _ n (by omega) (by omega), Option.bind_some]
theorem rfaults_loop (l : List S68) (hl : l.length ≤ 100000) (car : Int) : ∀ (d k i : Nat) (acc : List Int), i + d = l.length → acc.length ≤ i → ref_Faults.l0 (k + d + 1) l car acc (i : Int) = some (acc ++ fl (l.drop i) car, 0) := by
  intro d
  induction d with
  | zero =>
    intro k i acc hi ha
    rw [Nat.add_zero, ref_Faults.l0, if_neg (by omega), List.drop_eq_nil_of_le (by omega)]
    simp [fl]
  | succ d ih =>
    intro k i acc hi ha
    have hlt : i < l.length := by omega
    have hd := List.drop_eq_getElem_cons hlt
    have hrd : rd_T68 l (i : Int) = l[i] := by
      unfold rd_T68
      simp [List.getD_eq_getElem?_getD, hlt]
    rw [show k + (d + 1) + 1 = (k + d + 1) + 1 by omega, ref_Faults.l0, if_pos (by omega), if_pos (by omega), hrd, wsv ((i : Int) + 1) (by omega) (by omega), show (i : Int) + 1 = ((i + 1 : Nat) : Int) by omega,
      ih k (i + 1) acc (by omega) (by omega), ih k (i + 1) (acc ++ [l[i].f5]) (by omega) (by rw [List.length_append]; simp; omega), hd]
    generalize l[i] = e
    by_cases c1 : e.f1 = 2
    · by_cases c2 : e.f4 = car
      · by_cases c3 : e.f5 ≥ 3
        · by_cases c4 : e.f5 ≤ 6
          · rw [if_pos c1, if_pos c2, if_pos c3, if_pos c4, if_pos (by omega)]
            have : isf car e = true := decide_eq_true ⟨c1, c2, c3, c4⟩
            simp [fl, List.filter_cons, this]
          · rw [if_pos c1, if_pos c2, if_pos c3, if_neg c4]
            have : isf car e = false := decide_eq_false (fun q => c4 q.2.2.2)
            simp [fl, List.filter_cons, this]
        · rw [if_pos c1, if_pos c2, if_neg c3]
          have : isf car e = false := decide_eq_false (fun q => c3 q.2.2.1)
          simp [fl, List.filter_cons, this]
      · rw [if_pos c1, if_neg c2]
        have : isf car e = false := decide_eq_false (fun q => c2 q.2.1)
        simp [fl, List.filter_cons, this]
    · rw [if_neg c1]
      have : isf car e = false := decide_eq_false (fun q => c1 q.1)
      simp [fl, List.filter_cons, this]
theorem rfaults_ok (l : List S68) (n : Nat) (hn : l.length ≤ n) (hl : n ≤ 100000) (car : Int) (h1 : 1 ≤ car) (h8 : car ≤ 8) (k : Nat) : ref_Faults.f (k + n + 2) l car = some (fl l car, 0) := by
  unfold ref_Faults.f
  rw [if_neg (by omega), decide_eq_false (by omega), ref_Faults.j0, if_neg (by decide), show k + n + 1 = (k + (n - l.length)) + l.length + 1 by omega]
  exact rfaults_loop l (by omega) car l.length _ 0 [] (by omega) (by simp)
theorem rworks_loop (l : List Int) (hl : l.length ≤ 100000) : ∀ (d k i : Nat), i + d = l.length → ref_Works.l0 (k + d + 1) l (i : Int) = some (!decide (5 ∈ l.drop i), 0) := by
  intro d
  induction d with
  | zero =>
    intro k i hi
    rw [Nat.add_zero, ref_Works.l0, if_neg (by omega), List.drop_eq_nil_of_le (by omega)]
    simp
  | succ d ih =>
    intro k i hi
    have hlt : i < l.length := by omega
    have hd := List.drop_eq_getElem_cons hlt
    rw [show k + (d + 1) + 1 = (k + d + 1) + 1 by omega, ref_Works.l0, if_pos (by omega), if_pos (by omega), rd_at l i hlt, wsv ((i : Int) + 1) (by omega) (by omega), show (i : Int) + 1 = ((i + 1 : Nat) : Int) by omega, ih k (i + 1) (by omega), hd]
    by_cases c : l[i] = 5
    · rw [if_pos c, c]; simp
    · rw [if_neg c]
      have c2 : ¬ (5 : Int) = l[i] := fun q => c q.symm
      have : decide (5 ∈ l.drop (i + 1)) = decide (5 ∈ l[i] :: l.drop (i + 1)) := decide_eq_decide.2 ⟨fun q => List.mem_cons_of_mem _ q, fun q => (List.mem_cons.1 q).resolve_left c2⟩
      rw [this]
theorem rworks_ok (l : List S68) (n : Nat) (hn : l.length ≤ n) (hl : n ≤ 1000) (car : Int) (h1 : 1 ≤ car) (h8 : car ≤ 8) (k : Nat) : ref_Works.f (k + n + 2) l car = some (!decide (5 ∈ fl l car), 0) := by
  unfold ref_Works.f
  have := fl_len l car
  rw [rfaults_ok l n hn (by omega) car h1 h8 k, Option.bind_some]
  dsimp only
  rw [if_pos rfl, show k + n + 2 = (k + n + 1 - (fl l car).length) + (fl l car).length + 1 by omega]
  exact rworks_loop _ (by omega) _ _ 0 (by omega)
theorem ents_loop (l : List S68) (hl : l.length ≤ 100000) (d : Nat) : ∀ (k : Nat) (i : Int), 0 ≤ i → (l.length : Int) - i = d → kit_SameEntries.l0 (k + d + 1) l l i = some true := by
  induction d with
  | zero =>
    intro k i h0 h1
    rw [Nat.add_zero, kit_SameEntries.l0, if_neg (by omega)]
  | succ d ih =>
    intro k i h0 h1
    rw [show k + (d + 1) + 1 = (k + d + 1) + 1 by omega, kit_SameEntries.l0, if_pos (by omega), if_pos h0, if_pos (by omega), if_neg (by simp), wsv (i + 1) (by omega) (by omega)]
    exact ih k (i + 1) (by omega) (by omega)
theorem ents_refl (l : List S68) (n : Nat) (hl : l.length ≤ n) (hn : n ≤ 100000) (k : Nat) : kit_SameEntries.f (k + n + 1) l l = some true := by
  unfold kit_SameEntries.f
  rw [if_pos rfl, show k + n + 1 = (k + (n - l.length)) + l.length + 1 by omega]
  exact ents_loop l (by omega) l.length _ 0 (by omega) (by omega)
theorem awake_t : ∀ k, q_awake.f (k + 60) = some true
  | 0 => by decide +kernel
  | k + 1 => q_awake.mono _ _ (awake_t k)
theorem SensorFaults : q_SensorFaults.Pure := by
  intro l car _ _ _
  refine ⟨500, ?_⟩
  have hk : q_awake.f 500 = some true := awake_t 440
  unfold q_SensorFaults.f
  by_cases c : (l.length : Int) > 200
  · rw [if_pos c, hk, Option.bind_some, if_pos rfl]
  · rw [if_neg c, Option.bind_some, if_pos (by simp; omega), Option.bind_some, List.nil_append]
    have fa := fl_len l car
    by_cases hc : 1 ≤ car ∧ car ≤ 8
    · have h1 := faults_ok l 200 (by omega) (by omega) car hc.1 hc.2 298
      have h2 := rfaults_ok l 200 (by omega) (by omega) car hc.1 hc.2 298
      have h3 := works_ok l 200 (by omega) (by omega) car hc.1 hc.2 298
      have h4 := rworks_ok l 200 (by omega) (by omega) car hc.1 hc.2 298
      have h5 := same_refl (fl l car) 200 (by omega) (by omega) 299
      have h6 := ents_refl l 200 (by omega) (by omega) 299
      rw [show 298 + 200 + 2 = 500 from rfl] at h1 h2 h3 h4
      rw [show 299 + 200 + 1 = 500 from rfl] at h5 h6
      rw [h1, Option.bind_some, h2, Option.bind_some, h3, Option.bind_some, h4, Option.bind_some]
      dsimp only
      rw [h5, Option.bind_some, if_pos rfl, if_pos rfl, if_pos (by simp), if_pos rfl, h6, Option.bind_some, if_pos rfl, hk, Option.bind_some, if_pos rfl]
    · have h1 : sensor_Faults.f 500 l car = some ([], 2) := by
        unfold sensor_Faults.f
        by_cases q : car < 1
        · rw [if_pos q, sensor_Faults.j0, if_pos rfl]
        · rw [if_neg q, decide_eq_true (by omega), sensor_Faults.j0, if_pos rfl]
      have h2 : ref_Faults.f 500 l car = some ([], 2) := by
        unfold ref_Faults.f
        by_cases q : car < 1
        · rw [if_pos q, ref_Faults.j0, if_pos rfl]
        · rw [if_neg q, decide_eq_true (by omega), ref_Faults.j0, if_pos rfl]
      have h3 : sensor_Works.f 500 l car = some (false, 2) := by
        unfold sensor_Works.f
        rw [h1, Option.bind_some]
        rfl
      have h4 : ref_Works.f 500 l car = some (false, 2) := by
        unfold ref_Works.f
        rw [h2, Option.bind_some]
        rfl
      have h5 := same_refl ([] : List Int) 200 (by simp) (by omega) 299
      have h6 := ents_refl l 200 (by omega) (by omega) 299
      rw [show 299 + 200 + 1 = 500 from rfl] at h5 h6
      rw [h1, Option.bind_some, h2, Option.bind_some, h3, Option.bind_some, h4, Option.bind_some]
      dsimp only
      rw [h5, Option.bind_some, if_pos rfl, if_pos rfl, if_pos (by simp), if_pos rfl, h6, Option.bind_some, if_pos rfl, hk, Option.bind_some, if_pos rfl]
end Go.Proofs.Ytlkphdcfgaolnaa.Pure
