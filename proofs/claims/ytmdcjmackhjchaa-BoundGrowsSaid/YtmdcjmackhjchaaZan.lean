import Derived.Test.YtmdcjmackhjchaaZaf
import Derived.Test.YtmdcjmackhjchaaZai
import Derived.Test.YtmdcjmackhjchaaZag
import Derived.Test.YtmdcjmackhjchaaZah
import Derived.Test.YtmdcjmackhjchaaZaj
import Derived.Test.YtmdcjmackhjchaaZak
import Derived.Test.YtmdcjmackhjchaaZam
section
/- config.Check and the reference's: they answer the same. Plain Lean, by the printed functions. -/
namespace Go.Proofs.Ytmdcjmackhjchaa.P
open Go.RowKit Go.Proofs.YtmdcjmackhjchaaW.PrintWords Go.Proofs.YtmdcjmackhjchaaW.PrintLast Go.Proofs.YtmdcjmackhjchaaW.PrintMore
set_option linter.unusedVariables false
set_option linter.unusedSimpArgs false

theorem rin_f (v lo hi : Int) : r27_in.f v lo hi = some (inb v lo hi) := in_f v lo hi
theorem w_succ (i : Nat) (h : i < 1000000) : wrap64 ((i : Int) + 1) = ((i + 1 : Nat) : Int) := by unfold wrap64; omega
/-- The keys' error, from key i on, among d. -/
def klE (ks : List Int) : Nat → Nat → Int
 | 0, _ => 0
 | d + 1, i => if inb (rd ks i) 1 99 = true then (if 0 < i ∧ rd ks i ≤ rd ks ((i : Int) - 1) then 8 else klE ks d (i + 1)) else 2
def ksE (ks : List Int) : Int := if (ks.length : Int) > 8 then 5 else klE ks ks.length 0
/-- A rule's error. -/
def ruleE (f m h k : Int) : Int := if m = 0 then 3 else if highB f m = true then 3 else if bitB m h = true then (if inb k 1 32 = true then 0 else 2) else 2
def rulesE (f m0 h0 k0 m1 h1 k1 m2 h2 k2 : Int) (ks : List Int) : Int :=
 if ruleE f m0 h0 k0 = 0 then (if ruleE f m1 h1 k1 = 0 then (if ruleE f m2 h2 k2 = 0 then ksE ks else ruleE f m2 h2 k2) else ruleE f m1 h1 k1) else ruleE f m0 h0 k0
def okD (l : List Int) : Nat → Nat → Bool
 | 0, _ => true
 | d + 1, j => if inb (rd l j) 0 3 = true then okD l d (j + 1) else false
def okRows (t : List (List Int)) (s : Nat) : Nat → Nat → Bool
 | 0, _ => true
 | d + 1, i => if okD (rd_L1 t i) s 0 = true then okRows t s d (i + 1) else false
def okLen (t : List (List Int)) (sl : Int) : Nat → Nat → Bool
 | 0, _ => true
 | d + 1, i => if ((rd_L1 t i).length : Int) = sl then okLen t sl d (i + 1) else false
def okG (g : List Int) : Nat → Nat → Bool
 | 0, _ => true
 | d + 1, i => if inb (rd g i) 1 1000 = true then okG g d (i + 1) else false
theorem okLen_at {t : List (List Int)} {sl : Int} : ∀ (d i : Nat), okLen t sl d i = true → ∀ j, i ≤ j → j < i + d → ((rd_L1 t j).length : Int) = sl
 | 0, i, _, j, h1, h2 => by omega
 | d + 1, i, h, j, h1, h2 => by
  rw [okLen] at h
  by_cases q : ((rd_L1 t i).length : Int) = sl
  ·rw [if_pos q] at h
   rcases Nat.eq_or_lt_of_le h1 with e | e
   ·subst e; exact q
   ·exact okLen_at d (i + 1) h j e (by omega)
  ·rw [if_neg q] at h; cases h
theorem bit_low (f m h : Int) (f0 : 2 ≤ f) (f1 : f ≤ 64) (hh : highB f m = false) (hb : bitB m h = true) : inb h 0 (f - 1) = true := by
 unfold bitB at hb
 rw [Bool.and_eq_true, Bool.and_eq_true] at hb
 obtain ⟨⟨a, b⟩, c⟩ := hb
 have a := of_decide_eq_true a
 have b := of_decide_eq_true b
 have : h ≤ f - 1 := by
  by_cases q : f < 64
  ·unfold highB at hh
   rw [decide_eq_true q, Bool.true_and] at hh
   have hlt := of_decide_eq_false hh
   rcases Int.lt_or_le h f with z | z
   ·omega
   ·have : m.toNat < 2 ^ h.toNat := Nat.lt_of_lt_of_le (by omega) (Nat.pow_le_pow_right (by decide) (show f.toNat ≤ h.toNat by omega))
    rw [Nat.testBit_lt_two_pow this] at c
    cases c
  ·omega
 unfold inb
 rw [decide_eq_true a, decide_eq_true this]
 rfl
theorem shr_high (f m : Int) (w0 : 0 ≤ m) (f0 : 0 ≤ f) (f1 : f < 64) : (shr .u64 m f != 0) = highB f m := by
 obtain ⟨a, rfl⟩ := Int.eq_ofNat_of_zero_le w0
 obtain ⟨b, rfl⟩ := Int.eq_ofNat_of_zero_le f0
 have hb : b < 64 := by omega
 rw [shr_nat a b hb]
 unfold highB
 rw [decide_eq_true f1, Int.toNat_natCast, Int.toNat_natCast, Bool.true_and]
 by_cases z : 2 ^ b ≤ a
 ·have : a / 2 ^ b ≠ 0 := by
   have := Nat.div_pos z (Nat.two_pow_pos b)
   omega
  rw [decide_eq_true z]
  have z2 : ((a / 2 ^ b : Nat) : Int) ≠ 0 := by exact_mod_cast this
  exact bne_iff_ne.mpr z2
 ·rw [Nat.div_eq_of_lt (by omega), decide_eq_false z]
  rfl
section
variable (f : Int) (g : List Int) (cars : Int) (sp : Int) (br : Int) (tol : Int) (w : Int) (dw : Int) (re : Int) (em : Int) (fu : Int) (tr : Int) (sl : Int) (t : List (List Int)) (m0 : Int) (h0 : Int) (k0 : Int) (m1 : Int) (h1 : Int) (k1 : Int) (m2 : Int) (h2 : Int) (k2 : Int) (ks : List Int) (li : Int)
theorem cr_l1 (hl : ks.length ≤ 1000) : ∀ (d i k : Nat), i + d = ks.length → d + 1 ≤ k → config_rules.l1 k ks (ks.length : Int) (i : Int) f g cars sp br tol w dw re em fu tr sl t m0 h0 k0 m1 h1 k1 m2 h2 k2 ks li = some (klE ks d i) := by
 intro d
 induction d with
 | zero =>
  intro i k h hk
  obtain ⟨k, rfl⟩ : ∃ m, k = m + 1 := ⟨k - 1, by omega⟩
  rw [config_rules.l1, if_neg (by omega), klE]
 | succ d ih =>
  intro i k h hk
  obtain ⟨k, rfl⟩ : ∃ m, k = m + 1 := ⟨k - 1, by omega⟩
  rw [config_rules.l1, if_pos (by omega), if_pos (by omega), if_pos (by omega), in_f, Option.bind_some, klE]
  have e := w_succ i (by omega)
  have ih' := ih (i + 1) k (by omega) (by omega)
  by_cases b : inb (rd ks i) 1 99 = true
  ·rw [if_pos b, if_pos b]
   by_cases p : (i : Int) > 0
   ·have e2 : wrap64 ((i : Int) - 1) = (i : Int) - 1 := by unfold wrap64; omega
    rw [if_pos p, e2, if_pos (by omega), if_pos (by omega)]
    by_cases q : rd ks i ≤ rd ks ((i : Int) - 1)
    ·rw [if_pos q, if_pos ⟨by omega, q⟩]
    ·rw [if_neg q, if_neg (fun z => q z.2), e, ih']
   ·rw [if_neg p, if_neg (fun z => p (by omega)), e, ih']
  ·rw [if_neg b, if_neg b]
theorem rr_l1 (hl : ks.length ≤ 1000) : ∀ (d i k : Nat), i + d = ks.length → d + 1 ≤ k → r27_rules.l1 k (i : Int) f g cars sp br tol w dw re em fu tr sl t m0 h0 k0 m1 h1 k1 m2 h2 k2 ks li = some (klE ks d i) := by
 intro d
 induction d with
 | zero =>
  intro i k h hk
  obtain ⟨k, rfl⟩ : ∃ m, k = m + 1 := ⟨k - 1, by omega⟩
  rw [r27_rules.l1, if_neg (by omega), klE]
 | succ d ih =>
  intro i k h hk
  obtain ⟨k, rfl⟩ : ∃ m, k = m + 1 := ⟨k - 1, by omega⟩
  rw [r27_rules.l1, if_pos (by omega), if_pos (by omega), rin_f, Option.bind_some, klE]
  have e := w_succ i (by omega)
  have ih' := ih (i + 1) k (by omega) (by omega)
  by_cases b : inb (rd ks i) 1 99 = true
  ·rw [if_pos b, if_pos b]
   by_cases p : (i : Int) > 0
   ·have e2 : wrap64 ((i : Int) - 1) = (i : Int) - 1 := by unfold wrap64; omega
    rw [if_pos p, e2, if_pos (by omega), if_pos (by omega)]
    by_cases q : rd ks i ≤ rd ks ((i : Int) - 1)
    ·rw [if_pos q, if_pos ⟨by omega, q⟩]
    ·rw [if_neg q, if_neg (fun z => q z.2), e, ih']
   ·rw [if_neg p, if_neg (fun z => p (by omega)), e, ih']
  ·rw [if_neg b, if_neg b]
theorem cr_s0 (a : Int) (k : Nat) (w0 : 0 ≤ m0) (w1 : m0 < 18446744073709551616) (ha : (Go.bits .andNot .u64 m0 a != 0) = highB f m0) :
  config_rules.l0 (k + 2) a 0 f g cars sp br tol w dw re em fu tr sl t m0 h0 k0 m1 h1 k1 m2 h2 k2 ks li = if ruleE f m0 h0 k0 = 0 then config_rules.l0 k a 1 f g cars sp br tol w dw re em fu tr sl t m0 h0 k0 m1 h1 k1 m2 h2 k2 ks li else some (ruleE f m0 h0 k0) := by
 have ew : wrap64 ((0 : Int) + 1) = 1 := by unfold wrap64; omega
 have ej : ∀ b : Bool, b = (decide (m0 = 0) || highB f m0) → config_rules.j1 (k + 1) a 0 b f g cars sp br tol w dw re em fu tr sl t m0 h0 k0 m1 h1 k1 m2 h2 k2 ks li m0 h0 k0 = if ruleE f m0 h0 k0 = 0 then config_rules.l0 k a 1 f g cars sp br tol w dw re em fu tr sl t m0 h0 k0 m1 h1 k1 m2 h2 k2 ks li else some (ruleE f m0 h0 k0) := by
  intro b hb
  rw [config_rules.j1, has_f m0 h0 w0 w1, Option.bind_some, in_f, Option.bind_some, ew]
  unfold ruleE
  by_cases q0 : m0 = 0
  ·have : b = true := by rw [hb, decide_eq_true q0]; rfl
   simp [q0, this]
  ·by_cases q1 : highB f m0 = true
   ·have : b = true := by rw [hb, q1]; simp
    simp [q0, q1, this]
   ·have : b = false := by rw [hb, decide_eq_false q0]; simpa using q1
    by_cases q2 : bitB m0 h0 = true
    ·by_cases q3 : inb k0 1 32 = true
     ·simp [q0, q1, q2, q3, this]
     ·simp [q0, q1, q2, q3, this]
    ·simp [q0, q1, q2, this]
 rw [config_rules.l0, if_pos (show (0 : Int) < 3 by decide), if_pos (show (0 : Int) = 0 from rfl)]
 by_cases q0 : m0 = 0
 ·rw [if_pos q0]; exact ej true (by rw [decide_eq_true q0]; rfl)
 ·rw [if_neg q0, ha]; exact ej _ (by rw [decide_eq_false q0]; rfl)
theorem rr_s0 (k : Nat) (w0 : 0 ≤ m0) (w1 : m0 < 18446744073709551616) (f0 : 2 ≤ f) (f1 : f ≤ 64) :
  r27_rules.l0 (k + 2) 0 f g cars sp br tol w dw re em fu tr sl t m0 h0 k0 m1 h1 k1 m2 h2 k2 ks li = if ruleE f m0 h0 k0 = 0 then r27_rules.l0 k 1 f g cars sp br tol w dw re em fu tr sl t m0 h0 k0 m1 h1 k1 m2 h2 k2 ks li else some (ruleE f m0 h0 k0) := by
 have ew : wrap64 ((0 : Int) + 1) = 1 := by unfold wrap64; omega
 have ef : wrap64 (f - 1) = f - 1 := by unfold wrap64; omega
 have ej : ∀ b : Bool, b = (decide (m0 = 0) || highB f m0) → r27_rules.j1 (k + 1) 0 b f g cars sp br tol w dw re em fu tr sl t m0 h0 k0 m1 h1 k1 m2 h2 k2 ks li m0 h0 k0 = if ruleE f m0 h0 k0 = 0 then r27_rules.l0 k 1 f g cars sp br tol w dw re em fu tr sl t m0 h0 k0 m1 h1 k1 m2 h2 k2 ks li else some (ruleE f m0 h0 k0) := by
  intro b hb
  rw [r27_rules.j1, r02has_f m0 h0 w0 w1, rin_f, rin_f, Option.bind_some, Option.bind_some, Option.bind_some, ew, ef]
  unfold ruleE
  by_cases q0 : m0 = 0
  ·have : b = true := by rw [hb, decide_eq_true q0]; rfl
   simp [q0, this]
  ·by_cases q1 : highB f m0 = true
   ·have : b = true := by rw [hb, q1]; simp
    simp [q0, q1, this]
   ·have : b = false := by rw [hb, decide_eq_false q0]; simpa using q1
    by_cases q2 : bitB m0 h0 = true
    ·have q4 : inb h0 0 (f - 1) = true := bit_low f m0 h0 f0 f1 (by simpa using q1) q2
     by_cases q3 : inb k0 1 32 = true
     ·simp [q0, q1, q2, q3, q4, this]
     ·simp [q0, q1, q2, q3, q4, this]
    ·by_cases q4 : inb h0 0 (f - 1) = true
     ·simp [q0, q1, q2, q4, this]
     ·simp [q0, q1, q2, q4, this]
 rw [r27_rules.l0, if_pos (show (0 : Int) < 3 by decide), if_pos (show (0 : Int) = 0 from rfl)]
 by_cases q0 : m0 = 0
 ·rw [if_pos q0]; exact ej true (by rw [decide_eq_true q0]; rfl)
 ·rw [if_neg q0]
  by_cases q1 : f < 64
  ·rw [if_pos q1, u64_id f (by omega) (by omega), if_pos (by omega)]
   exact ej _ (by rw [decide_eq_false q0, shr_high f m0 w0 (by omega) q1]; rfl)
  ·rw [if_neg q1]
   exact ej _ (by rw [decide_eq_false q0]; unfold highB; rw [decide_eq_false q1]; rfl)
theorem cr_s1 (a : Int) (k : Nat) (w0 : 0 ≤ m1) (w1 : m1 < 18446744073709551616) (ha : (Go.bits .andNot .u64 m1 a != 0) = highB f m1) :
  config_rules.l0 (k + 2) a 1 f g cars sp br tol w dw re em fu tr sl t m0 h0 k0 m1 h1 k1 m2 h2 k2 ks li = if ruleE f m1 h1 k1 = 0 then config_rules.l0 k a 2 f g cars sp br tol w dw re em fu tr sl t m0 h0 k0 m1 h1 k1 m2 h2 k2 ks li else some (ruleE f m1 h1 k1) := by
 have ew : wrap64 ((1 : Int) + 1) = 2 := by unfold wrap64; omega
 have ej : ∀ b : Bool, b = (decide (m1 = 0) || highB f m1) → config_rules.j2 (k + 1) a 1 b f g cars sp br tol w dw re em fu tr sl t m0 h0 k0 m1 h1 k1 m2 h2 k2 ks li m1 h1 k1 = if ruleE f m1 h1 k1 = 0 then config_rules.l0 k a 2 f g cars sp br tol w dw re em fu tr sl t m0 h0 k0 m1 h1 k1 m2 h2 k2 ks li else some (ruleE f m1 h1 k1) := by
  intro b hb
  rw [config_rules.j2, has_f m1 h1 w0 w1, Option.bind_some, in_f, Option.bind_some, ew]
  unfold ruleE
  by_cases q0 : m1 = 0
  ·have : b = true := by rw [hb, decide_eq_true q0]; rfl
   simp [q0, this]
  ·by_cases q1 : highB f m1 = true
   ·have : b = true := by rw [hb, q1]; simp
    simp [q0, q1, this]
   ·have : b = false := by rw [hb, decide_eq_false q0]; simpa using q1
    by_cases q2 : bitB m1 h1 = true
    ·by_cases q3 : inb k1 1 32 = true
     ·simp [q0, q1, q2, q3, this]
     ·simp [q0, q1, q2, q3, this]
    ·simp [q0, q1, q2, this]
 rw [config_rules.l0, if_pos (show (1 : Int) < 3 by decide), if_neg (show ¬ (1 : Int) = 0 by decide), if_pos (show (1 : Int) = 1 from rfl)]
 by_cases q0 : m1 = 0
 ·rw [if_pos q0]; exact ej true (by rw [decide_eq_true q0]; rfl)
 ·rw [if_neg q0, ha]; exact ej _ (by rw [decide_eq_false q0]; rfl)
theorem rr_s1 (k : Nat) (w0 : 0 ≤ m1) (w1 : m1 < 18446744073709551616) (f0 : 2 ≤ f) (f1 : f ≤ 64) :
  r27_rules.l0 (k + 2) 1 f g cars sp br tol w dw re em fu tr sl t m0 h0 k0 m1 h1 k1 m2 h2 k2 ks li = if ruleE f m1 h1 k1 = 0 then r27_rules.l0 k 2 f g cars sp br tol w dw re em fu tr sl t m0 h0 k0 m1 h1 k1 m2 h2 k2 ks li else some (ruleE f m1 h1 k1) := by
 have ew : wrap64 ((1 : Int) + 1) = 2 := by unfold wrap64; omega
 have ef : wrap64 (f - 1) = f - 1 := by unfold wrap64; omega
 have ej : ∀ b : Bool, b = (decide (m1 = 0) || highB f m1) → r27_rules.j2 (k + 1) 1 b f g cars sp br tol w dw re em fu tr sl t m0 h0 k0 m1 h1 k1 m2 h2 k2 ks li m1 h1 k1 = if ruleE f m1 h1 k1 = 0 then r27_rules.l0 k 2 f g cars sp br tol w dw re em fu tr sl t m0 h0 k0 m1 h1 k1 m2 h2 k2 ks li else some (ruleE f m1 h1 k1) := by
  intro b hb
  rw [r27_rules.j2, r02has_f m1 h1 w0 w1, rin_f, rin_f, Option.bind_some, Option.bind_some, Option.bind_some, ew, ef]
  unfold ruleE
  by_cases q0 : m1 = 0
  ·have : b = true := by rw [hb, decide_eq_true q0]; rfl
   simp [q0, this]
  ·by_cases q1 : highB f m1 = true
   ·have : b = true := by rw [hb, q1]; simp
    simp [q0, q1, this]
   ·have : b = false := by rw [hb, decide_eq_false q0]; simpa using q1
    by_cases q2 : bitB m1 h1 = true
    ·have q4 : inb h1 0 (f - 1) = true := bit_low f m1 h1 f0 f1 (by simpa using q1) q2
     by_cases q3 : inb k1 1 32 = true
     ·simp [q0, q1, q2, q3, q4, this]
     ·simp [q0, q1, q2, q3, q4, this]
    ·by_cases q4 : inb h1 0 (f - 1) = true
     ·simp [q0, q1, q2, q4, this]
     ·simp [q0, q1, q2, q4, this]
 rw [r27_rules.l0, if_pos (show (1 : Int) < 3 by decide), if_neg (show ¬ (1 : Int) = 0 by decide), if_pos (show (1 : Int) = 1 from rfl)]
 by_cases q0 : m1 = 0
 ·rw [if_pos q0]; exact ej true (by rw [decide_eq_true q0]; rfl)
 ·rw [if_neg q0]
  by_cases q1 : f < 64
  ·rw [if_pos q1, u64_id f (by omega) (by omega), if_pos (by omega)]
   exact ej _ (by rw [decide_eq_false q0, shr_high f m1 w0 (by omega) q1]; rfl)
  ·rw [if_neg q1]
   exact ej _ (by rw [decide_eq_false q0]; unfold highB; rw [decide_eq_false q1]; rfl)
theorem cr_s2 (a : Int) (k : Nat) (w0 : 0 ≤ m2) (w1 : m2 < 18446744073709551616) (ha : (Go.bits .andNot .u64 m2 a != 0) = highB f m2) :
  config_rules.l0 (k + 2) a 2 f g cars sp br tol w dw re em fu tr sl t m0 h0 k0 m1 h1 k1 m2 h2 k2 ks li = if ruleE f m2 h2 k2 = 0 then config_rules.l0 k a 3 f g cars sp br tol w dw re em fu tr sl t m0 h0 k0 m1 h1 k1 m2 h2 k2 ks li else some (ruleE f m2 h2 k2) := by
 have ew : wrap64 ((2 : Int) + 1) = 3 := by unfold wrap64; omega
 have ej : ∀ b : Bool, b = (decide (m2 = 0) || highB f m2) → config_rules.j3 (k + 1) a 2 b f g cars sp br tol w dw re em fu tr sl t m0 h0 k0 m1 h1 k1 m2 h2 k2 ks li m2 h2 k2 = if ruleE f m2 h2 k2 = 0 then config_rules.l0 k a 3 f g cars sp br tol w dw re em fu tr sl t m0 h0 k0 m1 h1 k1 m2 h2 k2 ks li else some (ruleE f m2 h2 k2) := by
  intro b hb
  rw [config_rules.j3, has_f m2 h2 w0 w1, Option.bind_some, in_f, Option.bind_some, ew]
  unfold ruleE
  by_cases q0 : m2 = 0
  ·have : b = true := by rw [hb, decide_eq_true q0]; rfl
   simp [q0, this]
  ·by_cases q1 : highB f m2 = true
   ·have : b = true := by rw [hb, q1]; simp
    simp [q0, q1, this]
   ·have : b = false := by rw [hb, decide_eq_false q0]; simpa using q1
    by_cases q2 : bitB m2 h2 = true
    ·by_cases q3 : inb k2 1 32 = true
     ·simp [q0, q1, q2, q3, this]
     ·simp [q0, q1, q2, q3, this]
    ·simp [q0, q1, q2, this]
 rw [config_rules.l0, if_pos (show (2 : Int) < 3 by decide), if_neg (show ¬ (2 : Int) = 0 by decide), if_neg (show ¬ (2 : Int) = 1 by decide), if_pos (show (2 : Int) = 2 from rfl)]
 by_cases q0 : m2 = 0
 ·rw [if_pos q0]; exact ej true (by rw [decide_eq_true q0]; rfl)
 ·rw [if_neg q0, ha]; exact ej _ (by rw [decide_eq_false q0]; rfl)
theorem rr_s2 (k : Nat) (w0 : 0 ≤ m2) (w1 : m2 < 18446744073709551616) (f0 : 2 ≤ f) (f1 : f ≤ 64) :
  r27_rules.l0 (k + 2) 2 f g cars sp br tol w dw re em fu tr sl t m0 h0 k0 m1 h1 k1 m2 h2 k2 ks li = if ruleE f m2 h2 k2 = 0 then r27_rules.l0 k 3 f g cars sp br tol w dw re em fu tr sl t m0 h0 k0 m1 h1 k1 m2 h2 k2 ks li else some (ruleE f m2 h2 k2) := by
 have ew : wrap64 ((2 : Int) + 1) = 3 := by unfold wrap64; omega
 have ef : wrap64 (f - 1) = f - 1 := by unfold wrap64; omega
 have ej : ∀ b : Bool, b = (decide (m2 = 0) || highB f m2) → r27_rules.j3 (k + 1) 2 b f g cars sp br tol w dw re em fu tr sl t m0 h0 k0 m1 h1 k1 m2 h2 k2 ks li m2 h2 k2 = if ruleE f m2 h2 k2 = 0 then r27_rules.l0 k 3 f g cars sp br tol w dw re em fu tr sl t m0 h0 k0 m1 h1 k1 m2 h2 k2 ks li else some (ruleE f m2 h2 k2) := by
  intro b hb
  rw [r27_rules.j3, r02has_f m2 h2 w0 w1, rin_f, rin_f, Option.bind_some, Option.bind_some, Option.bind_some, ew, ef]
  unfold ruleE
  by_cases q0 : m2 = 0
  ·have : b = true := by rw [hb, decide_eq_true q0]; rfl
   simp [q0, this]
  ·by_cases q1 : highB f m2 = true
   ·have : b = true := by rw [hb, q1]; simp
    simp [q0, q1, this]
   ·have : b = false := by rw [hb, decide_eq_false q0]; simpa using q1
    by_cases q2 : bitB m2 h2 = true
    ·have q4 : inb h2 0 (f - 1) = true := bit_low f m2 h2 f0 f1 (by simpa using q1) q2
     by_cases q3 : inb k2 1 32 = true
     ·simp [q0, q1, q2, q3, q4, this]
     ·simp [q0, q1, q2, q3, q4, this]
    ·by_cases q4 : inb h2 0 (f - 1) = true
     ·simp [q0, q1, q2, q4, this]
     ·simp [q0, q1, q2, q4, this]
 rw [r27_rules.l0, if_pos (show (2 : Int) < 3 by decide), if_neg (show ¬ (2 : Int) = 0 by decide), if_neg (show ¬ (2 : Int) = 1 by decide), if_pos (show (2 : Int) = 2 from rfl)]
 by_cases q0 : m2 = 0
 ·rw [if_pos q0]; exact ej true (by rw [decide_eq_true q0]; rfl)
 ·rw [if_neg q0]
  by_cases q1 : f < 64
  ·rw [if_pos q1, u64_id f (by omega) (by omega), if_pos (by omega)]
   exact ej _ (by rw [decide_eq_false q0, shr_high f m2 w0 (by omega) q1]; rfl)
  ·rw [if_neg q1]
   exact ej _ (by rw [decide_eq_false q0]; unfold highB; rw [decide_eq_false q1]; rfl)
theorem cr_3 (a : Int) (k : Nat) (hl : ks.length ≤ 1000) (hk : ks.length + 2 ≤ k) : config_rules.l0 k a 3 f g cars sp br tol w dw re em fu tr sl t m0 h0 k0 m1 h1 k1 m2 h2 k2 ks li = some (ksE ks) := by
 obtain ⟨k, rfl⟩ : ∃ m, k = m + 1 := ⟨k - 1, by omega⟩
 rw [config_rules.l0, if_neg (by decide), ksE]
 by_cases q : (ks.length : Int) > 8
 ·rw [if_pos q, if_pos q]
 ·rw [if_neg q, if_neg q]
  exact cr_l1 f g cars sp br tol w dw re em fu tr sl t m0 h0 k0 m1 h1 k1 m2 h2 k2 ks li hl ks.length 0 k (by omega) (by omega)
theorem rr_3 (k : Nat) (hl : ks.length ≤ 1000) (hk : ks.length + 2 ≤ k) : r27_rules.l0 k 3 f g cars sp br tol w dw re em fu tr sl t m0 h0 k0 m1 h1 k1 m2 h2 k2 ks li = some (ksE ks) := by
 obtain ⟨k, rfl⟩ : ∃ m, k = m + 1 := ⟨k - 1, by omega⟩
 rw [r27_rules.l0, if_neg (by decide), ksE]
 by_cases q : (ks.length : Int) > 8
 ·rw [if_pos q, if_pos q]
 ·rw [if_neg q, if_neg q]
  exact rr_l1 f g cars sp br tol w dw re em fu tr sl t m0 h0 k0 m1 h1 k1 m2 h2 k2 ks li hl ks.length 0 k (by omega) (by omega)
theorem cr_f (k : Nat) (hl : ks.length ≤ 1000) (hk : ks.length + 8 ≤ k) (f0 : 2 ≤ f) (f1 : f ≤ 64) (w0 : 0 ≤ m0) (v0 : m0 < 18446744073709551616) (w1 : 0 ≤ m1) (v1 : m1 < 18446744073709551616) (w2 : 0 ≤ m2) (v2 : m2 < 18446744073709551616) : config_rules.f k f g cars sp br tol w dw re em fu tr sl t m0 h0 k0 m1 h1 k1 m2 h2 k2 ks li = some (rulesE f m0 h0 k0 m1 h1 k1 m2 h2 k2 ks) := by
 obtain ⟨a, ha, hb⟩ := all_f f (by omega) f1
 obtain ⟨k, rfl⟩ : ∃ m, k = m + 6 := ⟨k - 6, by omega⟩
 rw [config_rules.f, ha, Option.bind_some]
 show config_rules.l0 (k + 4 + 2) a 0 f g cars sp br tol w dw re em fu tr sl t m0 h0 k0 m1 h1 k1 m2 h2 k2 ks li = _
 rw [cr_s0 f g cars sp br tol w dw re em fu tr sl t m0 h0 k0 m1 h1 k1 m2 h2 k2 ks li a (k + 4) w0 v0 (hb m0 w0 v0), rulesE]
 by_cases q0 : ruleE f m0 h0 k0 = 0
 ·rw [if_pos q0, if_pos q0]
  rw [cr_s1 f g cars sp br tol w dw re em fu tr sl t m0 h0 k0 m1 h1 k1 m2 h2 k2 ks li a (k + 2) w1 v1 (hb m1 w1 v1)]
  by_cases q1 : ruleE f m1 h1 k1 = 0
  ·rw [if_pos q1, if_pos q1, cr_s2 f g cars sp br tol w dw re em fu tr sl t m0 h0 k0 m1 h1 k1 m2 h2 k2 ks li a k w2 v2 (hb m2 w2 v2)]
   by_cases q2 : ruleE f m2 h2 k2 = 0
   ·rw [if_pos q2, if_pos q2, cr_3 f g cars sp br tol w dw re em fu tr sl t m0 h0 k0 m1 h1 k1 m2 h2 k2 ks li a k hl (by omega)]
   ·rw [if_neg q2, if_neg q2]
  ·rw [if_neg q1, if_neg q1]
 ·rw [if_neg q0, if_neg q0]
theorem rr_f (k : Nat) (hl : ks.length ≤ 1000) (hk : ks.length + 8 ≤ k) (f0 : 2 ≤ f) (f1 : f ≤ 64) (w0 : 0 ≤ m0) (v0 : m0 < 18446744073709551616) (w1 : 0 ≤ m1) (v1 : m1 < 18446744073709551616) (w2 : 0 ≤ m2) (v2 : m2 < 18446744073709551616) : r27_rules.f k f g cars sp br tol w dw re em fu tr sl t m0 h0 k0 m1 h1 k1 m2 h2 k2 ks li = some (rulesE f m0 h0 k0 m1 h1 k1 m2 h2 k2 ks) := by
 obtain ⟨k, rfl⟩ : ∃ m, k = m + 6 := ⟨k - 6, by omega⟩
 rw [r27_rules.f]
 show r27_rules.l0 (k + 4 + 2) 0 f g cars sp br tol w dw re em fu tr sl t m0 h0 k0 m1 h1 k1 m2 h2 k2 ks li = _
 rw [rr_s0 f g cars sp br tol w dw re em fu tr sl t m0 h0 k0 m1 h1 k1 m2 h2 k2 ks li (k + 4) w0 v0 f0 f1, rulesE]
 by_cases q0 : ruleE f m0 h0 k0 = 0
 ·rw [if_pos q0, if_pos q0]
  rw [rr_s1 f g cars sp br tol w dw re em fu tr sl t m0 h0 k0 m1 h1 k1 m2 h2 k2 ks li (k + 2) w1 v1 f0 f1]
  by_cases q1 : ruleE f m1 h1 k1 = 0
  ·rw [if_pos q1, if_pos q1, rr_s2 f g cars sp br tol w dw re em fu tr sl t m0 h0 k0 m1 h1 k1 m2 h2 k2 ks li k w2 v2 f0 f1]
   by_cases q2 : ruleE f m2 h2 k2 = 0
   ·rw [if_pos q2, if_pos q2, rr_3 f g cars sp br tol w dw re em fu tr sl t m0 h0 k0 m1 h1 k1 m2 h2 k2 ks li k hl (by omega)]
   ·rw [if_neg q2, if_neg q2]
  ·rw [if_neg q1, if_neg q1]
 ·rw [if_neg q0, if_neg q0]
theorem cl_l3 (row : List Int) (x51 : Int) (R : Int) (B : Nat) (hl : row.length ≤ 1000)
  (IH : ∀ k, B ≤ k → config_lists.l2 k t (t.length : Int) (wrap64 (x51 + 1)) f g cars sp br tol w dw re em fu tr sl t m0 h0 k0 m1 h1 k1 m2 h2 k2 ks li = some R) :
  ∀ (d j k : Nat), j + d = row.length → d + 1 + B ≤ k → config_lists.l3 k t (t.length : Int) x51 row (row.length : Int) (j : Int) f g cars sp br tol w dw re em fu tr sl t m0 h0 k0 m1 h1 k1 m2 h2 k2 ks li = some (if okD row d j = true then R else 2) := by
 intro d
 induction d with
 | zero =>
  intro j k h hk
  obtain ⟨k, rfl⟩ : ∃ m, k = m + 1 := ⟨k - 1, by omega⟩
  rw [config_lists.l3, if_neg (by omega), IH k (by omega), okD, if_pos rfl]
 | succ d ih =>
  intro j k h hk
  obtain ⟨k, rfl⟩ : ∃ m, k = m + 1 := ⟨k - 1, by omega⟩
  rw [config_lists.l3, if_pos (by omega), if_pos (by omega), if_pos (by omega), in_f, Option.bind_some, okD]
  by_cases b : inb (rd row j) 0 3 = true
  ·rw [if_pos b, if_pos b, w_succ j (by omega), ih (j + 1) k (by omega) (by omega)]
  ·rw [if_neg b, if_neg b, if_neg (by simp)]
theorem cl_l2 (s : Nat) (R : Int) (B : Nat) (hl : t.length ≤ 1000) (hs : s ≤ 1000) (hrow : ∀ j, j < t.length → (rd_L1 t (j : Int)).length = s)
  (HR : ∀ k, B ≤ k → config_rules.f k f g cars sp br tol w dw re em fu tr sl t m0 h0 k0 m1 h1 k1 m2 h2 k2 ks li = some R) :
  ∀ (d i k : Nat), i + d = t.length → d * (s + 2) + 1 + B ≤ k → config_lists.l2 k t (t.length : Int) (i : Int) f g cars sp br tol w dw re em fu tr sl t m0 h0 k0 m1 h1 k1 m2 h2 k2 ks li = some (if okRows t s d i = true then R else 2) := by
 intro d
 induction d with
 | zero =>
  intro i k h hk
  obtain ⟨k, rfl⟩ : ∃ m, k = m + 1 := ⟨k - 1, by omega⟩
  rw [config_lists.l2, if_neg (by omega), HR k (by omega), okRows, if_pos rfl]
  rfl
 | succ d ih =>
  intro i k h hk
  have e1 : (d + 1) * (s + 2) = d * (s + 2) + (s + 2) := Nat.succ_mul d (s + 2)
  obtain ⟨k, rfl⟩ : ∃ m, k = m + 1 := ⟨k - 1, by omega⟩
  have hr := hrow i (by omega)
  rw [config_lists.l2, if_pos (by omega), if_pos (by omega), if_pos (by omega)]
  have z := cl_l3 f g cars sp br tol w dw re em fu tr sl t m0 h0 k0 m1 h1 k1 m2 h2 k2 ks li (rd_L1 t (i : Int)) (i : Int) (if okRows t s d (i + 1) = true then R else 2) (d * (s + 2) + 1 + B) (by omega)
   (fun k' hk' => by rw [w_succ i (by omega)]; exact ih (i + 1) k' (by omega) hk') s 0 k (by omega) (by omega)
  rw [show ((0 : Nat) : Int) = 0 from rfl] at z
  rw [z, okRows]
  by_cases b : okD (rd_L1 t (i : Int)) s 0 = true
  ·rw [if_pos b, if_pos b]
  ·rw [if_neg b, if_neg b, if_neg (by simp)]
theorem cl_l1 (R : Int) (B : Nat) (hl : t.length ≤ 1000) (H2 : okLen t sl t.length 0 = true → ∀ k, B ≤ k → config_lists.l2 k t (t.length : Int) 0 f g cars sp br tol w dw re em fu tr sl t m0 h0 k0 m1 h1 k1 m2 h2 k2 ks li = some R) :
  ∀ (d i k : Nat), i + d = t.length → d + 1 + B ≤ k → (okLen t sl d i = true → okLen t sl t.length 0 = true) → config_lists.l1 k t (t.length : Int) (i : Int) f g cars sp br tol w dw re em fu tr sl t m0 h0 k0 m1 h1 k1 m2 h2 k2 ks li = some (if okLen t sl d i = true then R else 3) := by
 intro d
 induction d with
 | zero =>
  intro i k h hk ho
  obtain ⟨k, rfl⟩ : ∃ m, k = m + 1 := ⟨k - 1, by omega⟩
  rw [config_lists.l1, if_neg (by omega), H2 (ho rfl) k (by omega), okLen, if_pos rfl]
 | succ d ih =>
  intro i k h hk ho
  obtain ⟨k, rfl⟩ : ∃ m, k = m + 1 := ⟨k - 1, by omega⟩
  rw [config_lists.l1, if_pos (by omega), if_pos (by omega), if_pos (by omega), okLen]
  rw [okLen] at ho
  by_cases b : ((rd_L1 t (i : Int)).length : Int) = sl
  ·rw [if_pos b] at ho
   rw [if_pos b, if_pos b, w_succ i (by omega), ih (i + 1) k (by omega) (by omega) ho]
  ·rw [if_neg b, if_neg b, if_neg (by simp)]
theorem cl_l0 (R : Int) (B : Nat) (hl : g.length ≤ 1000) (H1 : ∀ k, B ≤ k → config_lists.l1 k t (t.length : Int) 0 f g cars sp br tol w dw re em fu tr sl t m0 h0 k0 m1 h1 k1 m2 h2 k2 ks li = some R) :
  ∀ (d i k : Nat), i + d = g.length → d + 1 + B ≤ k → config_lists.l0 k g (g.length : Int) (i : Int) f g cars sp br tol w dw re em fu tr sl t m0 h0 k0 m1 h1 k1 m2 h2 k2 ks li = some (if okG g d i = true then (if (t.length : Int) = cars then R else 3) else 2) := by
 intro d
 induction d with
 | zero =>
  intro i k h hk
  obtain ⟨k, rfl⟩ : ∃ m, k = m + 1 := ⟨k - 1, by omega⟩
  rw [config_lists.l0, if_neg (by omega), okG, if_pos rfl, H1 k (by omega)]
  by_cases q : (t.length : Int) = cars
  ·rw [if_pos q, if_pos q]
  ·rw [if_neg q, if_neg q]
 | succ d ih =>
  intro i k h hk
  obtain ⟨k, rfl⟩ : ∃ m, k = m + 1 := ⟨k - 1, by omega⟩
  rw [config_lists.l0, if_pos (by omega), if_pos (by omega), if_pos (by omega), in_f, Option.bind_some, okG]
  by_cases b : inb (rd g i) 1 1000 = true
  ·rw [if_pos b, if_pos b, w_succ i (by omega), ih (i + 1) k (by omega) (by omega)]
  ·rw [if_neg b, if_neg b, if_neg (by simp)]
/-- What the lists come to. -/
def listsE (f : Int) (g : List Int) (cars sl : Int) (t : List (List Int)) (R : Int) : Int :=
 if (g.length : Int) = f - 1 then (if okG g g.length 0 = true then (if (t.length : Int) = cars then (if okLen t sl t.length 0 = true then (if okRows t sl.toNat t.length 0 = true then R else 2) else 3) else 3) else 2) else 3
theorem cl_f (k : Nat) (hg : g.length ≤ 1000) (ht : t.length ≤ 1000) (hl : ks.length ≤ 1000) (s0 : 0 ≤ sl) (s1 : sl ≤ 1000) (f0 : 2 ≤ f) (f1 : f ≤ 64) (w0 : 0 ≤ m0) (v0 : m0 < 18446744073709551616) (w1 : 0 ≤ m1) (v1 : m1 < 18446744073709551616) (w2 : 0 ≤ m2) (v2 : m2 < 18446744073709551616)
  (hk : g.length + t.length + t.length * (sl.toNat + 2) + ks.length + 20 ≤ k) : config_lists.f k f g cars sp br tol w dw re em fu tr sl t m0 h0 k0 m1 h1 k1 m2 h2 k2 ks li = some (listsE f g cars sl t (rulesE f m0 h0 k0 m1 h1 k1 m2 h2 k2 ks)) := by
 have ef : wrap64 (f - 1) = f - 1 := by unfold wrap64; omega
 rw [config_lists.f, ef, listsE]
 by_cases q : (g.length : Int) = f - 1
 ·rw [if_pos q, if_pos q]
  refine cl_l0 f g cars sp br tol w dw re em fu tr sl t m0 h0 k0 m1 h1 k1 m2 h2 k2 ks li (if okLen t sl t.length 0 = true then (if okRows t sl.toNat t.length 0 = true then rulesE f m0 h0 k0 m1 h1 k1 m2 h2 k2 ks else 2) else 3) (t.length + 1 + (t.length * (sl.toNat + 2) + 1 + (ks.length + 8))) hg (fun k' hk' => ?_) g.length 0 k (by omega) (by omega)
  refine cl_l1 f g cars sp br tol w dw re em fu tr sl t m0 h0 k0 m1 h1 k1 m2 h2 k2 ks li (if okRows t sl.toNat t.length 0 = true then rulesE f m0 h0 k0 m1 h1 k1 m2 h2 k2 ks else 2) (t.length * (sl.toNat + 2) + 1 + (ks.length + 8)) ht (fun ho kf hkf => ?_) t.length 0 k' (by omega) (by omega) (fun z => z)
  have hrow : ∀ j, j < t.length → (rd_L1 t (j : Int)).length = sl.toNat := fun j hj => by
   have := okLen_at _ _ ho j (by omega) (by omega)
   omega
  exact cl_l2 f g cars sp br tol w dw re em fu tr sl t m0 h0 k0 m1 h1 k1 m2 h2 k2 ks li sl.toNat (rulesE f m0 h0 k0 m1 h1 k1 m2 h2 k2 ks) (ks.length + 8) ht (by omega) hrow (fun kg hkg => cr_f f g cars sp br tol w dw re em fu tr sl t m0 h0 k0 m1 h1 k1 m2 h2 k2 ks li kg hl hkg f0 f1 w0 v0 w1 v1 w2 v2) t.length 0 kf (by omega) hkf
 ·rw [if_neg q, if_neg q]
theorem rn_f (k : Nat) (hk : 1 ≤ k) : r27_numbers.f k f g cars sp br tol w dw re em fu tr sl t m0 h0 k0 m1 h1 k1 m2 h2 k2 ks li = some (fok ⟨f, .slice none 0 0, cars, sp, br, tol, w, dw, re, em, fu, tr, sl, .slice none 0 0, .int .u64 m0, h0, k0, .int .u64 m1, h1, k1, .int .u64 m2, h2, k2, .slice none 0 0, li⟩) := by
 obtain ⟨k, rfl⟩ : ∃ m, k = m + 1 := ⟨k - 1, by omega⟩
 have hj : ∀ b : Bool, r27_numbers.j0 (k + 1) b f g cars sp br tol w dw re em fu tr sl t m0 h0 k0 m1 h1 k1 m2 h2 k2 ks li = some (b && (inb w 1 20 && (inb dw 1 50 && (inb re 0 5 && (inb em 0 10000 && (decide (fu > em) && (decide (fu ≤ 10000) && (inb tr 1 16 && (inb sl 1 24 && inb li 1 100000))))))))) := by
  intro b
  rw [r27_numbers.j0]
  simp only [rin_f, Option.bind_some]
  generalize inb w 1 20 = b1
  generalize inb dw 1 50 = b2
  generalize inb re 0 5 = b3
  generalize inb em 0 10000 = b4
  generalize inb tr 1 16 = b5
  generalize inb sl 1 24 = b6
  generalize inb li 1 100000 = b7
  cases b1
  ·cases b <;> simp
  cases b2
  ·cases b <;> simp
  cases b3
  ·cases b <;> simp
  cases b4
  ·cases b <;> simp
  by_cases q : fu > em
  ·cases b
   ·simp [q]
   by_cases q2 : fu ≤ 10000
   ·cases b5
    ·simp [q, q2]
    cases b6
    ·simp [q, q2]
    simp [q, q2]
   ·simp [q, q2]
  ·cases b <;> simp [q]
 have hfu : inb em 0 10000 = true → inb fu (IntKind.i64.wrap (em + 1)) 10000 = (decide (fu > em) && decide (fu ≤ 10000)) := by
  intro h
  unfold inb at h
  rw [Bool.and_eq_true] at h
  have h1 := of_decide_eq_true h.1
  have h2 := of_decide_eq_true h.2
  have e : IntKind.i64.wrap (em + 1) = em + 1 := by rw [i64_w]; unfold wrap64; omega
  rw [e]
  unfold inb
  by_cases q : fu > em
  ·rw [decide_eq_true q, decide_eq_true (show em + 1 ≤ fu by omega)]
  ·rw [decide_eq_false q, decide_eq_false (show ¬ em + 1 ≤ fu by omega)]
 have hf : fok ⟨f, .slice none 0 0, cars, sp, br, tol, w, dw, re, em, fu, tr, sl, .slice none 0 0, .int .u64 m0, h0, k0, .int .u64 m1, h1, k1, .int .u64 m2, h2, k2, .slice none 0 0, li⟩ = (inb f 2 64 && (inb cars 1 8 && (inb sp 1 20 && (inb br 0 5 && (inb tol 0 20 && (inb w 1 20 && (inb dw 1 50 && (inb re 0 5 && (inb em 0 10000 && (inb fu (IntKind.i64.wrap (em + 1)) 10000 && (inb tr 1 16 && (inb sl 1 24 && inb li 1 100000)))))))))))) := by
  simp [fok, frows]
 rw [hf, r27_numbers.f]
 simp only [rin_f, Option.bind_some, hj]
 cases e1 : inb f 2 64
 ·simp
 cases e2 : inb cars 1 8
 ·simp
 cases e3 : inb sp 1 20
 ·simp
 cases e4 : inb br 0 5
 ·simp
 cases e5 : inb tol 0 20
 ·simp
 cases e6 : inb em 0 10000
 ·simp
 rw [hfu e6]
 simp [Bool.and_assoc]
theorem rt_l2 (s : Nat) (i : Nat) (R : Int) (B : Nat) (hs : s ≤ 1000) (hsl : sl = (s : Int)) (hi : i < t.length) (hr : (rd_L1 t (i : Int)).length = s)
  (IH : ∀ k, B ≤ k → r27_rota.l1 k (wrap64 ((i : Int) + 1)) f g cars sp br tol w dw re em fu tr sl t m0 h0 k0 m1 h1 k1 m2 h2 k2 ks li = some R) :
  ∀ (d j k : Nat), j + d = s → d + 1 + B ≤ k → r27_rota.l2 k (i : Int) (j : Int) f g cars sp br tol w dw re em fu tr sl t m0 h0 k0 m1 h1 k1 m2 h2 k2 ks li = some (if okD (rd_L1 t (i : Int)) d j = true then R else 2) := by
 intro d
 induction d with
 | zero =>
  intro j k h hk
  obtain ⟨k, rfl⟩ : ∃ m, k = m + 1 := ⟨k - 1, by omega⟩
  rw [r27_rota.l2, if_neg (by omega), IH k (by omega), okD, if_pos rfl]
 | succ d ih =>
  intro j k h hk
  obtain ⟨k, rfl⟩ : ∃ m, k = m + 1 := ⟨k - 1, by omega⟩
  rw [r27_rota.l2, if_pos (by omega), if_pos (by omega), if_pos (by omega), if_pos (by omega), if_pos (by omega), rin_f, Option.bind_some, okD]
  by_cases b : inb (rd (rd_L1 t (i : Int)) j) 0 3 = true
  ·rw [if_pos b, if_pos b, w_succ j (by omega), ih (j + 1) k (by omega) (by omega)]
  ·rw [if_neg b, if_neg b, if_neg (by simp)]
theorem rt_l1 (s : Nat) (hl : t.length ≤ 1000) (hs : s ≤ 1000) (hsl : sl = (s : Int)) (hrow : ∀ j, j < t.length → (rd_L1 t (j : Int)).length = s) :
  ∀ (d i k : Nat), i + d = t.length → d * (s + 2) + 1 ≤ k → r27_rota.l1 k (i : Int) f g cars sp br tol w dw re em fu tr sl t m0 h0 k0 m1 h1 k1 m2 h2 k2 ks li = some (if okRows t s d i = true then 0 else 2) := by
 intro d
 induction d with
 | zero =>
  intro i k h hk
  obtain ⟨k, rfl⟩ : ∃ m, k = m + 1 := ⟨k - 1, by omega⟩
  rw [r27_rota.l1, if_neg (by omega), okRows, if_pos rfl]
 | succ d ih =>
  intro i k h hk
  have e1 : (d + 1) * (s + 2) = d * (s + 2) + (s + 2) := Nat.succ_mul d (s + 2)
  obtain ⟨k, rfl⟩ : ∃ m, k = m + 1 := ⟨k - 1, by omega⟩
  rw [r27_rota.l1, if_pos (by omega)]
  have z := rt_l2 f g cars sp br tol w dw re em fu tr sl t m0 h0 k0 m1 h1 k1 m2 h2 k2 ks li s i (if okRows t s d (i + 1) = true then 0 else 2) (d * (s + 2) + 1) hs hsl (by omega) (hrow i (by omega))
   (fun k' hk' => by rw [w_succ i (by omega)]; exact ih (i + 1) k' (by omega) hk') s 0 k (by omega) (by omega)
  rw [show ((0 : Nat) : Int) = 0 from rfl] at z
  rw [z, okRows]
  by_cases b : okD (rd_L1 t (i : Int)) s 0 = true
  ·rw [if_pos b, if_pos b]
  ·rw [if_neg b, if_neg b, if_neg (by simp)]
theorem rt_l0 (R : Int) (B : Nat) (hl : t.length ≤ 1000) (H2 : okLen t sl t.length 0 = true → ∀ k, B ≤ k → r27_rota.l1 k 0 f g cars sp br tol w dw re em fu tr sl t m0 h0 k0 m1 h1 k1 m2 h2 k2 ks li = some R) :
  ∀ (d i k : Nat), i + d = t.length → d + 1 + B ≤ k → (okLen t sl d i = true → okLen t sl t.length 0 = true) → r27_rota.l0 k (i : Int) f g cars sp br tol w dw re em fu tr sl t m0 h0 k0 m1 h1 k1 m2 h2 k2 ks li = some (if okLen t sl d i = true then R else 3) := by
 intro d
 induction d with
 | zero =>
  intro i k h hk ho
  obtain ⟨k, rfl⟩ : ∃ m, k = m + 1 := ⟨k - 1, by omega⟩
  rw [r27_rota.l0, if_neg (by omega), H2 (ho rfl) k (by omega), okLen, if_pos rfl]
 | succ d ih =>
  intro i k h hk ho
  obtain ⟨k, rfl⟩ : ∃ m, k = m + 1 := ⟨k - 1, by omega⟩
  rw [r27_rota.l0, if_pos (by omega), if_pos (by omega), okLen]
  rw [okLen] at ho
  by_cases b : ((rd_L1 t (i : Int)).length : Int) = sl
  ·rw [if_pos b] at ho
   rw [if_pos b, if_pos b, w_succ i (by omega), ih (i + 1) k (by omega) (by omega) ho]
  ·rw [if_neg b, if_neg b, if_neg (by simp)]
theorem rt_f (k : Nat) (ht : t.length ≤ 1000) (s0 : 0 ≤ sl) (s1 : sl ≤ 1000) (hk : t.length + t.length * (sl.toNat + 2) + 4 ≤ k) :
  r27_rota.f k f g cars sp br tol w dw re em fu tr sl t m0 h0 k0 m1 h1 k1 m2 h2 k2 ks li = some (if (t.length : Int) = cars then (if okLen t sl t.length 0 = true then (if okRows t sl.toNat t.length 0 = true then 0 else 2) else 3) else 3) := by
 rw [r27_rota.f]
 by_cases q : (t.length : Int) = cars
 ·rw [if_pos q, if_pos q]
  refine rt_l0 f g cars sp br tol w dw re em fu tr sl t m0 h0 k0 m1 h1 k1 m2 h2 k2 ks li (if okRows t sl.toNat t.length 0 = true then 0 else 2) (t.length * (sl.toNat + 2) + 1) ht (fun ho kf hkf => ?_) t.length 0 k (by omega) (by omega) (fun z => z)
  have hrow : ∀ j, j < t.length → (rd_L1 t (j : Int)).length = sl.toNat := fun j hj => by
   have := okLen_at _ _ ho j (by omega) (by omega)
   omega
  exact rt_l1 f g cars sp br tol w dw re em fu tr sl t m0 h0 k0 m1 h1 k1 m2 h2 k2 ks li sl.toNat ht (by omega) (by omega) hrow t.length 0 kf (by omega) hkf
 ·rw [if_neg q, if_neg q]
theorem rc_l0 (R : Int) (B : Nat) (hl : g.length ≤ 1000) (HR : ∀ k, B ≤ k → (r27_rota.f k f g cars sp br tol w dw re em fu tr sl t m0 h0 k0 m1 h1 k1 m2 h2 k2 ks li).bind (fun t224 => if t224 = 0 then ((r27_rules.f k f g cars sp br tol w dw re em fu tr sl t m0 h0 k0 m1 h1 k1 m2 h2 k2 ks li).bind fun t225 => some t225) else some t224) = some R) :
  ∀ (d i k : Nat), i + d = g.length → d + 1 + B ≤ k → r27_Check.l0 k (i : Int) f g cars sp br tol w dw re em fu tr sl t m0 h0 k0 m1 h1 k1 m2 h2 k2 ks li = some (if okG g d i = true then R else 2) := by
 intro d
 induction d with
 | zero =>
  intro i k h hk
  obtain ⟨k, rfl⟩ : ∃ m, k = m + 1 := ⟨k - 1, by omega⟩
  rw [r27_Check.l0, if_neg (by omega), okG, if_pos rfl]
  exact HR k (by omega)
 | succ d ih =>
  intro i k h hk
  obtain ⟨k, rfl⟩ : ∃ m, k = m + 1 := ⟨k - 1, by omega⟩
  rw [r27_Check.l0, if_pos (by omega), if_pos (by omega), rin_f, Option.bind_some, okG]
  by_cases b : inb (rd g i) 1 1000 = true
  ·rw [if_pos b, if_pos b, w_succ i (by omega), ih (i + 1) k (by omega) (by omega)]
  ·rw [if_neg b, if_neg b, if_neg (by simp)]
/-- The error of a configuration. -/
def checkE : Int := if fok ⟨f, .slice none 0 0, cars, sp, br, tol, w, dw, re, em, fu, tr, sl, .slice none 0 0, .int .u64 m0, h0, k0, .int .u64 m1, h1, k1, .int .u64 m2, h2, k2, .slice none 0 0, li⟩ = true then listsE f g cars sl t (rulesE f m0 h0 k0 m1 h1 k1 m2 h2 k2 ks) else 2
theorem fok_bounds (h : fok ⟨f, .slice none 0 0, cars, sp, br, tol, w, dw, re, em, fu, tr, sl, .slice none 0 0, .int .u64 m0, h0, k0, .int .u64 m1, h1, k1, .int .u64 m2, h2, k2, .slice none 0 0, li⟩ = true) : 2 ≤ f ∧ f ≤ 64 ∧ 1 ≤ cars ∧ cars ≤ 8 ∧ 1 ≤ sl ∧ sl ≤ 24 ∧ 1 ≤ tr ∧ tr ≤ 16 ∧ 1 ≤ sp ∧ sp ≤ 20 ∧ 0 ≤ br ∧ br ≤ 5 := by
 simp [fok, frows, inb] at h
 omega
theorem chk_f (hg : g.length ≤ 1000) (ht : t.length ≤ 1000) (hl : ks.length ≤ 1000) (w0 : 0 ≤ m0) (v0 : m0 < 18446744073709551616) (w1 : 0 ≤ m1) (v1 : m1 < 18446744073709551616) (w2 : 0 ≤ m2) (v2 : m2 < 18446744073709551616)
  (hk : g.length + t.length + t.length * 26 + ks.length + 20 ≤ cfuel g t ks) : config_Check.f f g cars sp br tol w dw re em fu tr sl t m0 h0 k0 m1 h1 k1 m2 h2 k2 ks li = some (checkE f g cars sp br tol w dw re em fu tr sl t m0 h0 k0 m1 h1 k1 m2 h2 k2 ks li) := by
 rw [config_Check.f, checkE]
 by_cases q : fok ⟨f, .slice none 0 0, cars, sp, br, tol, w, dw, re, em, fu, tr, sl, .slice none 0 0, .int .u64 m0, h0, k0, .int .u64 m1, h1, k1, .int .u64 m2, h2, k2, .slice none 0 0, li⟩ = true
 ·rw [if_pos q, if_pos q]
  obtain ⟨f0, f1, c0, c1, s0, s1, _⟩ := fok_bounds f cars sp br tol w dw re em fu tr sl m0 h0 k0 m1 h1 k1 m2 h2 k2 li q
  have hm : t.length * (sl.toNat + 2) ≤ t.length * 26 := Nat.mul_le_mul_left _ (by omega)
  exact cl_f f g cars sp br tol w dw re em fu tr sl t m0 h0 k0 m1 h1 k1 m2 h2 k2 ks li _ hg ht hl (by omega) (by omega) f0 f1 w0 v0 w1 v1 w2 v2 (by omega)
 ·rw [if_neg q, if_neg q]
theorem rchk_f (k : Nat) (hg : g.length ≤ 1000) (ht : t.length ≤ 1000) (hl : ks.length ≤ 1000) (w0 : 0 ≤ m0) (v0 : m0 < 18446744073709551616) (w1 : 0 ≤ m1) (v1 : m1 < 18446744073709551616) (w2 : 0 ≤ m2) (v2 : m2 < 18446744073709551616)
  (hk : g.length + t.length + t.length * 26 + ks.length + 20 ≤ k) : r27_Check.f k f g cars sp br tol w dw re em fu tr sl t m0 h0 k0 m1 h1 k1 m2 h2 k2 ks li = some (checkE f g cars sp br tol w dw re em fu tr sl t m0 h0 k0 m1 h1 k1 m2 h2 k2 ks li) := by
 rw [r27_Check.f, rn_f f g cars sp br tol w dw re em fu tr sl t m0 h0 k0 m1 h1 k1 m2 h2 k2 ks li k (by omega), Option.bind_some, checkE]
 by_cases q : fok ⟨f, .slice none 0 0, cars, sp, br, tol, w, dw, re, em, fu, tr, sl, .slice none 0 0, .int .u64 m0, h0, k0, .int .u64 m1, h1, k1, .int .u64 m2, h2, k2, .slice none 0 0, li⟩ = true
 ·rw [if_pos q, if_pos q]
  obtain ⟨f0, f1, c0, c1, s0, s1, _⟩ := fok_bounds f cars sp br tol w dw re em fu tr sl m0 h0 k0 m1 h1 k1 m2 h2 k2 li q
  have hm : t.length * (sl.toNat + 2) ≤ t.length * 26 := Nat.mul_le_mul_left _ (by omega)
  have ef : wrap64 (f - 1) = f - 1 := by unfold wrap64; omega
  rw [ef, listsE]
  by_cases q1 : (g.length : Int) = f - 1
  ·rw [if_pos q1, if_pos q1]
   refine rc_l0 f g cars sp br tol w dw re em fu tr sl t m0 h0 k0 m1 h1 k1 m2 h2 k2 ks li _ (t.length + t.length * 26 + ks.length + 12) hg (fun kf hkf => ?_) g.length 0 k (by omega) (by omega)
   rw [rt_f f g cars sp br tol w dw re em fu tr sl t m0 h0 k0 m1 h1 k1 m2 h2 k2 ks li kf ht (by omega) (by omega) (by omega), Option.bind_some, rr_f f g cars sp br tol w dw re em fu tr sl t m0 h0 k0 m1 h1 k1 m2 h2 k2 ks li kf hl (by omega) f0 f1 w0 v0 w1 v1 w2 v2]
   by_cases q2 : (t.length : Int) = cars
   ·by_cases q3 : okLen t sl t.length 0 = true
    ·by_cases q4 : okRows t sl.toNat t.length 0 = true
     ·simp [q2, q3, q4]
     ·simp [q2, q3, q4]
    ·simp [q2, q3]
   ·simp [q2]
  ·rw [if_neg q1, if_neg q1]
 ·rw [if_neg q, if_neg q]
end
end Go.Proofs.Ytmdcjmackhjchaa.P
end
