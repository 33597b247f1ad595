import Derived.Test.YtmdcjmackhjchaaZad
import Derived.Test.YtmdcjmackhjchaaZae
section
-- Printed by wip/myprint.py of this repo (over the kit's printer). Not trusted: Lean checks it.
namespace Go.Proofs.Ytmdcjmackhjchaa.P
open Go.RowKit Go.Proofs.YtmdcjmackhjchaaW.PrintWords Go.Proofs.YtmdcjmackhjchaaW.PrintLast Go.Proofs.YtmdcjmackhjchaaW.PrintMore
attribute [local go_sem] cell_same1 cell_some1 ix27_0 ix27_1 ix27_2
attribute [local go_sem] max2_int min2_int max_two min_two max_three min_three max_four min_four   -- for this text's walks alone
set_option linter.unusedVariables false
set_option linter.unusedSimpArgs false

-- NOT PRINTED: function 30 (config_fields)

/-! ### config_in: function 31 -/
def config_in.f (a0 : Int) (a1 : Int) (a2 : Int) : Option (Bool) := if a0 ≥ a1 then (some (decide (a0 ≤ a2))) else (some false)
set_option maxHeartbeats 8000000 in
set_option maxRecDepth 100000 in
theorem config_in.calls (a0 : Int) (a1 : Int) (a2 : Int) (r : Bool) (w : World) (h : config_in.f a0 a1 a2 = some r) :
  Calls Try.prog 31 #[.int .i64 a0, .int .i64 a1, .int .i64 a2] w fun e w' => e = .returned (.bool r) ∧ Drawn0 w w' := by
 have H : (if a0 ≥ a1 then (some (decide (a0 ≤ a2))) else (some false)) = some r := h
 clear h
 by_cases c4 : a0 ≥ a1
 ·as_aux_lemma =>
  rw [if_pos c4] at H
  have c4b0 : decide (a1 ≤ a0) = true := decide_eq_true c4
  clear c4
  obtain rfl := Option.some.inj H
  go_enter Try.func31, Try.ntmps31
  go_wp2
  go_ret
  exact ⟨by first | rfl | (simp; done) | (simp [*]; done), by repeat (first | exact Drawn0.refl _ | apply Drawn0.step)⟩
 ·as_aux_lemma =>
  rw [if_neg c4] at H
  have c4b0 : decide (a1 ≤ a0) = false := decide_eq_false c4
  clear c4
  obtain rfl := Option.some.inj H
  go_enter Try.func31, Try.ntmps31
  go_wp2
  go_ret
  exact ⟨by first | rfl | (simp; done) | (simp [*]; done), by repeat (first | exact Drawn0.refl _ | apply Drawn0.step)⟩

end Go.Proofs.Ytmdcjmackhjchaa.P
end

section
/- config.Check: the whole numbers lie within their bounds, then the lists are asked: walked by hand. -/
namespace Go.Proofs.Ytmdcjmackhjchaa.P
open Go.RowKit Go.Proofs.YtmdcjmackhjchaaW.PrintWords Go.Proofs.YtmdcjmackhjchaaW.PrintLast Go.Proofs.YtmdcjmackhjchaaW.PrintMore
attribute [local go_sem] cell_same1 cell_some1
set_option linter.unusedVariables false
set_option linter.unusedSimpArgs false

/-- A row: its name, its place, what lies there, the least and the most. -/
structure FR where
 s : Array UInt8
 o : Nat
 v : Int
 lo : Int
 hi : Int
abbrev frows (c : Cfg) : List FR := [⟨#[102, 108, 111, 111, 114, 115], 0, c.floors, 2, 64⟩,
 ⟨#[99, 97, 114, 115], 2, c.cars, 1, 8⟩,
 ⟨#[115, 112, 101, 101, 100], 3, c.speed, 1, 20⟩,
 ⟨#[98, 114, 97, 107, 101], 4, c.brake, 0, 5⟩,
 ⟨#[116, 111, 108], 5, c.tol, 0, 20⟩,
 ⟨#[119, 105, 100, 116, 104], 6, c.width, 1, 20⟩,
 ⟨#[100, 119, 101, 108, 108], 7, c.dwell, 1, 50⟩,
 ⟨#[114, 101, 116, 114, 105, 101, 115], 8, c.retries, 0, 5⟩,
 ⟨#[101, 109, 112, 116, 121], 9, c.empty, 0, 10000⟩,
 ⟨#[102, 117, 108, 108], 10, c.full, IntKind.i64.wrap (c.empty + 1), 10000⟩,
 ⟨#[116, 114, 105, 112, 115], 11, c.trips, 1, 16⟩,
 ⟨#[115, 108, 111, 116, 115], 12, c.slots, 1, 24⟩,
 ⟨#[108, 105, 102, 101], 24, c.life, 1, 100000⟩]
set_option maxHeartbeats 4000000 in
theorem frow_at (c : Cfg) (g i : Nat) (x : FR) (h : (frows c)[i]? = some x) :
  (fcells g c.empty)[i * 4]? = some (.string ⟨x.s⟩) ∧ (fcells g c.empty)[i * 4 + 1]? = some (.pointer (some ⟨g, x.o, none⟩)) ∧ (fcells g c.empty)[i * 4 + 2]? = some (.int .i64 x.lo) ∧ (fcells g c.empty)[i * 4 + 3]? = some (.int .i64 x.hi) ∧ c.cells[x.o]? = some (.int .i64 x.v) := by
 rcases i with _ | _ | _ | _ | _ | _ | _ | _ | _ | _ | _ | _ | _ | i
 all_goals first
  | (obtain rfl := Option.some.inj h; exact ⟨rfl, rfl, rfl, rfl, rfl⟩)
  | (exact absurd h (by simp [frows]))
def inb (v lo hi : Int) : Bool := decide (lo ≤ v) && decide (v ≤ hi)
theorem in_f (v lo hi : Int) : config_in.f v lo hi = some (inb v lo hi) := by
 unfold config_in.f inb
 by_cases h : lo ≤ v
 ·rw [if_pos (by omega)]; simp [h]
 ·rw [if_neg (by omega)]; simp [h]
def fok (c : Cfg) : Bool := (frows c).all fun x => inb x.v x.lo x.hi

set_option maxHeartbeats 8000000 in
set_option maxRecDepth 100000 in
theorem check_calls (c : Cfg) (r : Int) (w : World)
  (HL : fok c = true → ∀ W, Below w.heap.size w W → Calls Try.prog 32 #[.agg c.cells] W fun e w' => e = .returned (.int .i64 r) ∧ Below W.heap.size W w')
  (hr : fok c = false → r = 2) :
  Calls Try.prog 18 #[.agg c.cells] w fun e w' => e = .returned (.int .i64 r) ∧ Below w.heap.size w w' := by
 have hu29 := Try.underlying29
 have HB := Aside0.mk (Below.refl w.heap.size w)
 have HL := Aside0.mk HL
 have HR := Aside0.mk hr
 clear hr
 go_enter Try.func18, Try.ntmps18
 go_wp2_with (first | ((with_reducible refine gate_dst (N := 1) rfl ?_); refine bxe (cs := c.cells) (t := 29) ?_; intro g hg w3 hbox hb; have BK := Aside0.mk (hbox); replace HB := Aside0.mk (bst HB.out hb); clear hb hbox hg) | (go_at_call 30; (with_reducible refine (fields_calls c g _ BK.out).mono ?_); rintro e w4 ⟨ro, rfl, hro, hfc, hb⟩; replace BK := Aside0.mk (bkb BK.out hb); have FC := Aside0.mk hfc; have GRO := Aside0.mk hro; replace HB := Aside0.mk (bst HB.out hb); clear hb hfc hro))
 go_loopw [7] (fun v7 wr => ∃ k : Nat, k ≤ 13 ∧ v7 = .int .i64 k ∧ Aside0 (∀ (i : Nat) (x : FR), i < k → (frows c)[i]? = some x → inb x.v x.lo x.hi = true) ∧ Aside0 (wr.heap[g]? = some (.cells c.cells 29)) ∧ Aside0 (wr.heap[ro]? = some (.cells (fcells g c.empty).toArray 74)) ∧ Aside0 (Below w.heap.size w wr)) (fun v _ => 13 - (intOf v).toNat)
 case atStart => exact ⟨0, by omega, rfl, ⟨fun i x h => absurd h (by omega)⟩, ⟨BK.out⟩, ⟨FC.out⟩, ⟨HB.out⟩⟩
 case round =>
  clear BK FC HB
  obtain ⟨k, hk, rfl, HI, BK, FC, HB⟩ := hrel
  by_cases hlt : k < 13
  ·obtain ⟨x, hx⟩ : ∃ x, (frows c)[k]? = some x := ⟨_, List.getElem?_eq_getElem (l := frows c) (i := k) hlt⟩
   obtain ⟨q0, q1, q2, q3, qc⟩ := frow_at c g k x hx
   have h0 : wr.cell? ⟨ro, k * 4, none⟩ = some (.string ⟨x.s⟩) := (blk_cell FC.out _).trans (by simpa using q0)
   have h1 : wr.cell? ⟨ro, k * 4 + 1, none⟩ = some (.pointer (some ⟨g, x.o, none⟩)) := (blk_cell FC.out _).trans (by simpa using q1)
   have h2 : wr.cell? ⟨ro, k * 4 + 2, none⟩ = some (.int .i64 x.lo) := (blk_cell FC.out _).trans (by simpa using q2)
   have h3 : wr.cell? ⟨ro, k * 4 + 3, none⟩ = some (.int .i64 x.hi) := (blk_cell FC.out _).trans (by simpa using q3)
   have hk1 : (k : Int) < 13 := by omega
   clear q0 q1 q2 q3
   go_upto_region 4 with fail
   have BN := Aside0.mk (blk_new wr (.cells #[.string ⟨x.s⟩, .pointer (some ⟨g, x.o, none⟩), .int .i64 x.lo, .int .i64 x.hi] 66))
   have BK2 := Aside0.mk (blk_alloc BK.out (.cells #[.string ⟨x.s⟩, .pointer (some ⟨g, x.o, none⟩), .int .i64 x.lo, .int .i64 x.hi] 66))
   have FC2 := Aside0.mk (blk_alloc FC.out (.cells #[.string ⟨x.s⟩, .pointer (some ⟨g, x.o, none⟩), .int .i64 x.lo, .int .i64 x.hi] 66))
   have HB2 := Aside0.mk (below_alloc HB.out (.cells #[.string ⟨x.s⟩, .pointer (some ⟨g, x.o, none⟩), .int .i64 x.lo, .int .i64 x.hi] 66))
   clear BK FC HB h0 h1 h2 h3
   generalize World.alloc wr _ = W at BN BK2 FC2 HB2 ⊢
   have hn := cz4 BN.out
   have hv : W.cell? ⟨g, x.o, none⟩ = some (.int .i64 x.v) := (blk_cell BK2.out _).trans qc
   clear qc
   obtain ⟨b, hb⟩ : ∃ b, inb x.v x.lo x.hi = b := ⟨_, rfl⟩
   have hf := Aside0.mk ((in_f x.v x.lo x.hi).trans (congrArg some hb))
   have HX := Aside0.mk hx
   have HBB := Aside0.mk hb
   clear hx hb
   cases b with
   | true =>
    go_quiet (first | (go_at_call 31; (with_reducible refine (config_in.calls _ _ _ _ _ hf.out).mono ?_); rintro e w' ⟨rfl, ⟨nd, rfl⟩⟩; (try first | exact ⟨rfl, _, World.drewN_drewN _ _ _⟩ | exact ⟨rfl, _, Eq.trans (World.drewN_drewN _ _ _) (congrArg (World.drewN _) (Nat.add_assoc _ _ _))⟩)))
    go_wp2
    go_roundw
    case rel => exact ⟨k + 1, by omega, by go_num, ⟨fun i y hi hy => by
     rcases Nat.lt_or_ge i k with h | h
     ·exact HI.out i y h hy
     ·obtain rfl : i = k := by omega
      obtain rfl := Option.some.inj (HX.out.symm.trans hy)
      exact HBB.out⟩, ⟨bkt BK2.out⟩, ⟨bkt FC2.out⟩, ⟨bel HB2.out⟩⟩
    case measure => simp [intOf]; omega
   | false =>
    have hr2 := HR.out (by
     rw [fok, List.all_eq_false]
     exact ⟨x, List.mem_of_getElem? HX.out, by rw [HBB.out]; simp⟩)
    subst hr2
    go_quiet (first | (go_at_call 31; (with_reducible refine (config_in.calls _ _ _ _ _ hf.out).mono ?_); rintro e w' ⟨rfl, ⟨nd, rfl⟩⟩; (try first | exact ⟨rfl, _, World.drewN_drewN _ _ _⟩ | exact ⟨rfl, _, Eq.trans (World.drewN_drewN _ _ _) (congrArg (World.drewN _) (Nat.add_assoc _ _ _))⟩)))
    go_wp2
    go_ret
    exact ⟨rfl, bel HB2.out⟩
  ·have hk13 : k = 13 := by omega
   subst hk13
   have hok : fok c = true := by
    rw [fok, List.all_eq_true]
    intro x hx
    obtain ⟨i, hi⟩ := List.mem_iff_getElem?.mp hx
    have hlt : i < 13 := (List.getElem?_eq_some_iff.mp hi).1
    exact HI.out i x hlt hi
   have HL2 := Aside0.mk (HL.out hok)
   clear HL HI hok hlt hk
   go_wp2_with (first | ((with_reducible refine gate_dst (N := 22) rfl ?_); refine lwx (g := g) (bkt BK.out) ?_) | (go_at_call 32; (with_reducible refine (HL2.out _ (bel HB.out)).mono ?_); rintro e w4 ⟨rfl, hb⟩; replace HB := Aside0.mk (bst HB.out hb); clear hb))
   go_ret
   exact ⟨rfl, bel HB.out⟩
end Go.Proofs.Ytmdcjmackhjchaa.P
end

section
/- The sets of floors of the rules, in the program's words and in the reference's: plain facts on bits. -/
namespace Go.Proofs.Ytmdcjmackhjchaa.P
open Go.RowKit Go.Proofs.YtmdcjmackhjchaaW.PrintWords Go.Proofs.YtmdcjmackhjchaaW.PrintLast Go.Proofs.YtmdcjmackhjchaaW.PrintMore
set_option linter.unusedVariables false
set_option linter.unusedSimpArgs false

theorem u64_id (n : Int) (h0 : 0 ≤ n) (h1 : n < 18446744073709551616) : IntKind.u64.wrap n = n := by
 simp [IntKind.wrap, IntKind.bits, IntKind.signed]
 omega
theorem hk64 : ∀ n : Int, 0 ≤ n → n < 2 ^ 64 → IntKind.u64.wrap n = n := fun n h0 h1 => u64_id n h0 (by simpa using h1)
theorem pow_lt (h : Nat) (hh : h < 64) : 2 ^ h < 2 ^ 64 := Nat.pow_lt_pow_right (by decide) hh
theorem shl_one (h : Nat) (hh : h < 64) : shl .u64 1 (h : Int) = ((2 ^ h : Nat) : Int) := by
 unfold shl
 have e : min (h : Int).toNat (IntKind.u64.bits) = h := by simp [IntKind.bits]; omega
 rw [e, Int.one_mul]
 have := pow_lt h hh
 rw [hk64]
 ·simp
 ·exact Int.le_of_lt (Int.pow_pos (by decide))
 ·exact_mod_cast this
theorem shr_nat (m h : Nat) (hh : h < 64) : shr .u64 (m : Int) (h : Int) = ((m / 2 ^ h : Nat) : Int) := by
 unfold shr
 have e : min (h : Int).toNat (IntKind.u64.bits) = h := by simp [IntKind.bits]; omega
 rw [e]
 simp
theorem and_pow (a b : Nat) : (a &&& 2 ^ b = 0) ↔ a.testBit b = false := by
 constructor
 ·intro h
  have z : (a &&& 2 ^ b).testBit b = false := by rw [h]; simp
  rw [Nat.testBit_and, Nat.testBit_two_pow_self, Bool.and_true] at z
  exact z
 ·intro h
  apply Nat.eq_of_testBit_eq
  intro i
  rw [Nat.testBit_and, Nat.testBit_two_pow, Nat.zero_testBit]
  by_cases e : b = i
  ·subst e; rw [h]; rfl
  ·rw [decide_eq_false e, Bool.and_false]
/-- A floor is in a set. -/
def bitB (m h : Int) : Bool := decide (0 ≤ h) && decide (h < 64) && m.toNat.testBit h.toNat
theorem has_f (m h : Int) (h0 : 0 ≤ m) (h1 : m < 18446744073709551616) : mask_Has.f m h = some (bitB m h) := by
 obtain ⟨a, rfl⟩ := Int.eq_ofNat_of_zero_le h0
 unfold mask_Has.f mask_floor.f bitB
 by_cases q0 : 0 ≤ h
 ·by_cases q1 : h < 64
  ·obtain ⟨b, rfl⟩ := Int.eq_ofNat_of_zero_le q0
   have hb : b < 64 := by omega
   rw [if_pos (show (b : Int) ≥ 0 by omega), Option.bind_some, decide_eq_true q1, if_pos rfl, u64_id b (by omega) (by omega), if_pos (by omega), shl_one b hb, (bits_nat .u64 64 (by decide) hk64 a (2 ^ b) (by omega) (pow_lt b hb)).1, decide_eq_true q0]
   have ha := and_pow a b
   cases ht : a.testBit b with
   | true =>
    have hne : ¬ (a &&& 2 ^ b = 0) := fun h => by rw [ha.mp h] at ht; cases ht
    have hne2 : ¬ (((a &&& 2 ^ b : Nat) : Int) = 0) := fun h => hne (by exact_mod_cast h)
    simp [ht, hne]
   | false =>
    rw [ha.mpr ht]
    simp [ht]
  ·rw [if_pos (show h ≥ 0 from q0), Option.bind_some, decide_eq_false q1, if_neg (by simp)]
   simp [q1]
 ·rw [if_neg (show ¬ h ≥ 0 from q0), Option.bind_some, if_neg (by simp)]
  simp [q0]
theorem r02has_f (m h : Int) (h0 : 0 ≤ m) (h1 : m < 18446744073709551616) : r02_Has.f m h = some (bitB m h) := by
 obtain ⟨a, rfl⟩ := Int.eq_ofNat_of_zero_le h0
 unfold r02_Has.f bitB
 by_cases q0 : 0 ≤ h
 ·by_cases q1 : h < 64
  ·obtain ⟨b, rfl⟩ := Int.eq_ofNat_of_zero_le q0
   have hb : b < 64 := by omega
   have hd : a / 2 ^ b ≤ a := Nat.div_le_self _ _
   rw [if_pos (show (b : Int) ≥ 0 by omega), if_pos q1, u64_id b (by omega) (by omega), if_pos (by omega), shr_nat a b hb]
   have e := (bits_nat .u64 64 (by decide) hk64 (a / 2 ^ b) 1 (by omega) (by decide)).1
   rw [show ((1 : Nat) : Int) = 1 from rfl] at e
   rw [e]
   have ht : a.testBit b = decide (a / 2 ^ b % 2 = 1) := Nat.testBit_eq_decide_div_mod_eq
   have z2 : (((a / 2 ^ b % 2 : Nat) : Int) == 1) = decide (a / 2 ^ b % 2 = 1) := by
    by_cases z : a / 2 ^ b % 2 = 1
    ·rw [z]; rfl
    ·rw [show a / 2 ^ b % 2 = 0 by omega]; rfl
   rw [Nat.and_one_is_mod, z2, decide_eq_true q0, decide_eq_true q1, Int.toNat_natCast, Int.toNat_natCast, ht]
   rfl
  ·rw [if_pos (show h ≥ 0 from q0), if_neg q1]
   simp [q1]
 ·rw [if_neg (show ¬ h ≥ 0 from q0)]
  simp [q0]
/-- A set has floors above the first. -/
def highB (f m : Int) : Bool := decide (f < 64) && decide (2 ^ f.toNat ≤ m.toNat)
theorem all_f (f : Int) (h0 : 0 ≤ f) (h1 : f ≤ 64) : ∃ a : Int, mask_All.f f = some (a, 0) ∧ ∀ m : Int, 0 ≤ m → m < 18446744073709551616 → (Go.bits .andNot .u64 m a != 0) = highB f m := by
 obtain ⟨n, rfl⟩ := Int.eq_ofNat_of_zero_le h0
 unfold mask_All.f mask_below.f
 rw [if_neg (by omega), if_neg (by omega)]
 by_cases q : (n : Int) ≥ 64
 ·rw [if_pos q, Option.bind_some]
  refine ⟨18446744073709551615, rfl, fun m m0 m1 => ?_⟩
  have hf : highB (n : Int) m = false := by unfold highB; rw [decide_eq_false (show ¬ (n : Int) < 64 by omega)]; rfl
  rw [hf]
  have : (~~~ BitVec.ofInt 64 18446744073709551615) = 0#64 := by decide
  simp only [bits]
  have z : (BitVec.ofInt IntKind.u64.bits m &&& ~~~BitVec.ofInt IntKind.u64.bits 18446744073709551615) = 0#64 := by
   show BitVec.ofInt 64 m &&& ~~~BitVec.ofInt 64 18446744073709551615 = 0#64
   rw [this, BitVec.and_zero]
  rw [z]
  decide
 ·have hn : n < 64 := by omega
  rw [if_neg q, u64_id n (by omega) (by omega), if_pos (by omega), shl_one n hn, Option.bind_some]
  have hpos : 0 < 2 ^ n := Nat.two_pow_pos n
  have hlt := pow_lt n hn
  have e : IntKind.u64.wrap (((2 ^ n : Nat) : Int) - 1) = ((2 ^ n - 1 : Nat) : Int) := by
   rw [u64_id _ (by omega) (by omega)]; omega
  rw [e]
  refine ⟨_, rfl, fun m m0 m1 => ?_⟩
  obtain ⟨b, rfl⟩ := Int.eq_ofNat_of_zero_le m0
  have hb : b < 2 ^ 64 := by omega
  have hz : (Go.bits .andNot .u64 (b : Int) ((2 ^ n - 1 : Nat) : Int) = 0) ↔ b < 2 ^ n := by
   simp only [bits, BitVec.ofInt_natCast]
   rw [hk64 _ (Int.natCast_nonneg _) (by exact_mod_cast BitVec.isLt _)]
   have key : ∀ i, (BitVec.ofNat 64 b &&& ~~~BitVec.ofNat 64 (2 ^ n - 1)).getLsbD i = (decide (i < 64) && b.testBit i && !decide (i < n)) := by
    intro i
    rw [BitVec.getLsbD_and, BitVec.getLsbD_not, BitVec.getLsbD_ofNat, BitVec.getLsbD_ofNat, Nat.testBit_two_pow_sub_one]
    cases decide (i < 64) <;> simp
   constructor
   ·intro h
    have h2 : (BitVec.ofNat 64 b &&& ~~~BitVec.ofNat 64 (2 ^ n - 1)) = 0#64 := by
     apply BitVec.eq_of_toNat_eq
     have : (((BitVec.ofNat 64 b &&& ~~~BitVec.ofNat 64 (2 ^ n - 1)).toNat : Nat) : Int) = 0 := h
     have h3 : (BitVec.ofNat 64 b &&& ~~~BitVec.ofNat 64 (2 ^ n - 1)).toNat = 0 := by exact_mod_cast this
     rw [h3]; rfl
    apply Nat.lt_pow_two_of_testBit
    intro i hi
    have k := key i
    rw [h2, BitVec.getLsbD_zero] at k
    by_cases h64 : i < 64
    ·rw [decide_eq_true h64, decide_eq_false (show ¬ i < n by omega)] at k
     simpa using k.symm
    ·exact Nat.testBit_lt_two_pow (Nat.lt_of_lt_of_le hb (Nat.pow_le_pow_right (by decide) (by omega)))
   ·intro h
    have h2 : (BitVec.ofNat 64 b &&& ~~~BitVec.ofNat 64 (2 ^ n - 1)) = 0#64 := by
     apply BitVec.eq_of_getLsbD_eq
     intro i hi
     rw [key i, BitVec.getLsbD_zero]
     by_cases hin : i < n
     ·rw [decide_eq_true hin]; simp
     ·rw [Nat.testBit_lt_two_pow (Nat.lt_of_lt_of_le h (Nat.pow_le_pow_right (by decide) (by omega)))]; simp
    show (((BitVec.ofNat 64 b &&& ~~~BitVec.ofNat 64 (2 ^ n - 1)).toNat : Nat) : Int) = 0
    rw [h2]; rfl
  have hh : highB (n : Int) (b : Int) = !decide (b < 2 ^ n) := by
   unfold highB
   rw [decide_eq_true (show (n : Int) < 64 by omega), Int.toNat_natCast, Int.toNat_natCast]
   by_cases z : b < 2 ^ n
   ·rw [decide_eq_true z, decide_eq_false (show ¬ 2 ^ n ≤ b by omega)]; rfl
   ·rw [decide_eq_false z, decide_eq_true (show 2 ^ n ≤ b by omega)]; rfl
  rw [hh]
  by_cases z : b < 2 ^ n
  ·rw [hz.mpr z]; simp [z]
  ·rw [decide_eq_false z]
   simp
   exact fun h => z (hz.mp h)
end Go.Proofs.Ytmdcjmackhjchaa.P
end
