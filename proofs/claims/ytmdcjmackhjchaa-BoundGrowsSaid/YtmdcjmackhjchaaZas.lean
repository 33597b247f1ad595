import Derived.Test.YtmdcjmackhjchaaZar
import Derived.Test.YtmdcjmackhjchaaZad
import Derived.Test.YtmdcjmackhjchaaZam
import Derived.Test.YtmdcjmackhjchaaZaq
import Derived.Test.YtmdcjmackhjchaaZao
section
/- The reference's Ticks, walked by hand: its four ways, over what its calls answer. -/
namespace Go.Proofs.Ytmdcjmackhjchaa.P
open Go.RowKit Go.Proofs.YtmdcjmackhjchaaW.PrintWords Go.Proofs.YtmdcjmackhjchaaW.PrintLast Go.Proofs.YtmdcjmackhjchaaW.PrintMore
attribute [local go_sem] cell_same1 cell_some1
set_option linter.unusedVariables false
set_option linter.unusedSimpArgs false

section
variable {P : Program} {ops : Array Oper} {Q : Exit → Act → World → Prop} {rest : List Oper} {o : Oper} {a : Act}
theorem lwxw {W : World} {g : Nat} {cs : List Value} {t : TypeId} {N : Tmp} {x : Operand} {d : TypeDesc} (hb : W.heap[g]? = some (.cells cs.toArray t (0, 0)))
  (hw : Region.wanted o (yielded ops a.tmps) = true) (h : wpList P ops Q rest (a.put (some N) (.agg cs.toArray)) W)
  (ho : o.op = .load t x := by rfl) (hd : o.dst = some N := by rfl)
  (hx : a.eval x = .pointer (some ⟨g, 0, none⟩) := by rfl) (hu : P.underlying t = some d := by assumption) (hdr : d.isRow = true := by rfl) (hi : (P.info? t).map (·.size) = some cs.length := by kernel_rfl) :
  wpList P ops Q (o :: rest) a W := by
 unfold wpList
 rw [if_pos hw]
 left
 refine wp_load_mid t x ho g 0 hx cs d ?_ hu hdr hi ?_
 ·intro j v hj
  rw [Nat.zero_add, blk_cell hb j]
  simpa using hj
 ·rw [hd]
  exact h
end
/-- The loop over the cars. -/
def carsF (F : Int → Option Bool) : Nat → Nat → Bool → Option Bool
 | 0, _, b => some b
 | n + 1, i, b => if b = true then carsF F n (i + 1) true else (F ((i : Int) + 1)).bind fun r => carsF F n (i + 1) r

structure TR (w : World) (c : Cfg) (g2 : Nat) (W : World) : Prop where
 b2 : W.heap[g2]? = some (.cells c.cells 29)
 be : Below w.heap.size w W
theorem TR.step {w : World} {c : Cfg} {g2 : Nat} {W W' : World} (h : TR w c g2 W) (hb : Below W.heap.size W W') : TR w c g2 W' :=
 ⟨blk_below h.b2 hb, below_step h.be hb⟩
set_option maxHeartbeats 4000000 in
set_option maxRecDepth 100000 in
theorem ticksR_e1 (c : Cfg) (d sh x : Int) (w : World) (hx : ¬ x = 0)
  (HS : ∀ W, Below w.heap.size w W → Calls Try.prog 9 #[.agg c.cells] W fun e w' => e = .returned (.tuple #[.int .i64 sh, .int .i64 x]) ∧ Below W.heap.size W w') :
  Calls Try.prog 11 #[.agg c.cells, .int .i64 d] w fun e w' => e = .returned (.tuple #[.int .i64 0, .int .i64 x]) ∧ Below w.heap.size w w' := by
 have hx0 : (x == 0) = false := beq_eq_false_iff_ne.mpr hx
 have hx1 : (x != 0) = true := bne_iff_ne.mpr hx
 have hu29 := Try.underlying29
 have hu42 := Try.underlying42
 have HS := Aside0.mk HS
 have HB := Aside0.mk (Below.refl w.heap.size w)
 go_enter Try.func11, Try.ntmps11
 go_upto_region 2 with (first | ((with_reducible refine gate_dst (N := 2) rfl ?_); refine bxe (cs := c.cells) (t := 29) ?_; intro g2 hg w1 hbox hb; have B2 := Aside0.mk hbox; replace HB := Aside0.mk (bst HB.out hb); clear hb hbox hg) | ((with_reducible refine gate_dst (N := 13) rfl ?_); refine lwx (g := g2) (bkt B2.out) ?_) | (go_at_call 9; (with_reducible refine (HS.out _ (bel HB.out)).mono ?_); rintro e w3 ⟨rfl, hb⟩; replace B2 := Aside0.mk (bkb B2.out hb); replace HB := Aside0.mk (bst HB.out hb); clear hb))
 refine wp_abs (TR w c g2) ⟨bkt B2.out, bel HB.out⟩ (fun W4 h4 => ?_)
 clear B2 HB
 have H4 := Aside0.mk h4
 clear h4
 go_wp2
 go_ret2
 exact ⟨rfl, H4.out.be⟩
set_option maxHeartbeats 4000000 in
set_option maxRecDepth 100000 in
theorem ticksR_e2 (c : Cfg) (d sh : Int) (w : World) (hd : d < 1 ∨ d > 3)
  (HS : ∀ W, Below w.heap.size w W → Calls Try.prog 9 #[.agg c.cells] W fun e w' => e = .returned (.tuple #[.int .i64 sh, .int .i64 0]) ∧ Below W.heap.size W w') :
  Calls Try.prog 11 #[.agg c.cells, .int .i64 d] w fun e w' => e = .returned (.tuple #[.int .i64 0, .int .i64 2]) ∧ Below w.heap.size w w' := by
 by_cases h1 : d < 1
 ·clear hd
  have hu29 := Try.underlying29
  have hu42 := Try.underlying42
  have HS := Aside0.mk HS
  have HB := Aside0.mk (Below.refl w.heap.size w)
  go_enter Try.func11, Try.ntmps11
  go_upto_region 2 with (first | ((with_reducible refine gate_dst (N := 2) rfl ?_); refine bxe (cs := c.cells) (t := 29) ?_; intro g2 hg w1 hbox hb; have B2 := Aside0.mk hbox; replace HB := Aside0.mk (bst HB.out hb); clear hb hbox hg) | ((with_reducible refine gate_dst (N := 13) rfl ?_); refine lwx (g := g2) (bkt B2.out) ?_) | (go_at_call 9; (with_reducible refine (HS.out _ (bel HB.out)).mono ?_); rintro e w3 ⟨rfl, hb⟩; replace B2 := Aside0.mk (bkb B2.out hb); replace HB := Aside0.mk (bst HB.out hb); clear hb))
  refine wp_abs (TR w c g2) ⟨bkt B2.out, bel HB.out⟩ (fun W4 h4 => ?_)
  clear B2 HB
  have H4 := Aside0.mk h4
  clear h4
  go_wp2
  go_ret2
  exact ⟨rfl, H4.out.be⟩
 ·have h3 : d > 3 := by omega
  clear hd
  have hu29 := Try.underlying29
  have hu42 := Try.underlying42
  have HS := Aside0.mk HS
  have HB := Aside0.mk (Below.refl w.heap.size w)
  go_enter Try.func11, Try.ntmps11
  go_upto_region 2 with (first | ((with_reducible refine gate_dst (N := 2) rfl ?_); refine bxe (cs := c.cells) (t := 29) ?_; intro g2 hg w1 hbox hb; have B2 := Aside0.mk hbox; replace HB := Aside0.mk (bst HB.out hb); clear hb hbox hg) | ((with_reducible refine gate_dst (N := 13) rfl ?_); refine lwx (g := g2) (bkt B2.out) ?_) | (go_at_call 9; (with_reducible refine (HS.out _ (bel HB.out)).mono ?_); rintro e w3 ⟨rfl, hb⟩; replace B2 := Aside0.mk (bkb B2.out hb); replace HB := Aside0.mk (bst HB.out hb); clear hb))
  refine wp_abs (TR w c g2) ⟨bkt B2.out, bel HB.out⟩ (fun W4 h4 => ?_)
  clear B2 HB
  have H4 := Aside0.mk h4
  clear h4
  go_wp2
  go_ret2
  exact ⟨rfl, H4.out.be⟩
set_option maxHeartbeats 4000000 in
set_option maxRecDepth 100000 in
theorem ticksR_e3 (c : Cfg) (d sh : Int) (F : Int → Option Bool) (w : World) (hd1 : ¬ d < 1) (hd3 : ¬ d > 3) (hc0 : 0 ≤ c.cars) (hc8 : c.cars ≤ 100)
  (HS : ∀ W, Below w.heap.size w W → Calls Try.prog 9 #[.agg c.cells] W fun e w' => e = .returned (.tuple #[.int .i64 sh, .int .i64 0]) ∧ Below W.heap.size W w')
  (HF : carsF F c.cars.toNat 0 false = some false)
  (HO : ∀ (car : Int) (r : Bool), F car = some r → ∀ W, Below w.heap.size w W → Calls Try.prog 24 #[.agg c.cells, .int .i64 car, .int .i64 d] W fun e w' => e = .returned (.bool r) ∧ Below W.heap.size W w') :
  Calls Try.prog 11 #[.agg c.cells, .int .i64 d] w fun e w' => e = .returned (.tuple #[.int .i64 0, .int .i64 6]) ∧ Below w.heap.size w w' := by
 have HO := Aside0.mk HO
 have hu29 := Try.underlying29
 have hu42 := Try.underlying42
 have HS := Aside0.mk HS
 have HB := Aside0.mk (Below.refl w.heap.size w)
 go_enter Try.func11, Try.ntmps11
 go_upto_region 2 with (first | ((with_reducible refine gate_dst (N := 2) rfl ?_); refine bxe (cs := c.cells) (t := 29) ?_; intro g2 hg w1 hbox hb; have B2 := Aside0.mk hbox; replace HB := Aside0.mk (bst HB.out hb); clear hb hbox hg) | ((with_reducible refine gate_dst (N := 13) rfl ?_); refine lwx (g := g2) (bkt B2.out) ?_) | (go_at_call 9; (with_reducible refine (HS.out _ (bel HB.out)).mono ?_); rintro e w3 ⟨rfl, hb⟩; replace B2 := Aside0.mk (bkb B2.out hb); replace HB := Aside0.mk (bst HB.out hb); clear hb))
 refine wp_abs (TR w c g2) ⟨bkt B2.out, bel HB.out⟩ (fun W4 h4 => ?_)
 clear B2 HB
 have H4 := Aside0.mk h4
 clear h4
 go_upto_region 8 with fail
 obtain ⟨n, hn⟩ : ∃ n : Nat, c.cars.toNat = n := ⟨_, rfl⟩
 have hcn : c.cars = (n : Int) := by omega
 have hn100 : n ≤ 100 := by omega
 have HN := Aside0.mk hcn
 rw [hn] at HF
 have HF := Aside0.mk HF
 clear hn hcn
 go_loopw [8, 9] (fun v8 v9 wr => ∃ (k : Nat) (b : Bool), k ≤ n ∧ v9 = .int .i64 ((k : Int) + 1) ∧ v8 = .bool b ∧ Aside0 (carsF F (n - k) k b = some false) ∧ Aside0 (TR w c g2 wr)) (fun _ v _ => n + 1 - (intOf v).toNat)
 case atStart => exact ⟨0, false, Nat.zero_le _, rfl, rfl, ⟨by rw [Nat.sub_zero]; exact HF.out⟩, H4⟩
 case round =>
  obtain ⟨k, b, hk, rfl, rfl, HA, H5⟩ := hrel
  have c2 : wr.cell? ⟨g2, 2, none⟩ = some (.int .i64 n) := (blk_cell H5.out.b2 2).trans (by rw [← HN.out]; rfl)
  by_cases hkn : k < n
  ·have hk1 : (k : Int) + 1 ≤ (n : Int) := by omega
   have hw : IntKind.i64.wrap ((k : Int) + 1 + 1) = (k : Int) + 1 + 1 := by rw [i64_w]; unfold wrap64; omega
   cases b with
   | true =>
    have HA2 := Aside0.mk (show carsF F (n - (k + 1)) (k + 1) true = some false by have z := HA.out; rw [show n - k = (n - (k + 1)) + 1 from by omega, carsF, if_pos rfl] at z; exact z)
    clear HA
    go_wp2
    go_roundw
    case rel => exact ⟨k + 1, true, by omega, by go_num, rfl, HA2, H5⟩
    case measure => simp [intOf]; omega
   | false =>
    have z := HA.out
    rw [show n - k = (n - (k + 1)) + 1 from by omega, carsF, if_neg (by simp)] at z
    obtain ⟨r, hr, hA2⟩ := Option.bind_eq_some_iff.mp z
    have HA2 := Aside0.mk hA2
    have HRR := Aside0.mk hr
    clear HA z hr hA2
    go_wp2_with (first | ((with_reducible refine gate_dst (N := 38) rfl ?_); refine lwxw (g := g2) H5.out.b2 (by rfl) ?_) | (go_at_call 24; (with_reducible refine (HO.out _ r HRR.out _ (bel H5.out.be)).mono ?_); rintro e w6 ⟨rfl, hb⟩; replace H5 := Aside0.mk (H5.out.step hb); clear hb))
    go_roundw
    case rel => exact ⟨k + 1, r, by omega, by go_num, rfl, HA2, H5⟩
    case measure => simp [intOf]; omega
  ·have hk2 : k = n := by omega
   subst hk2
   have z := HA.out
   rw [Nat.sub_self, carsF] at z
   obtain rfl := Option.some.inj z
   clear z HA hk
   go_wp2
   go_ret2
   exact ⟨rfl, bel H5.out.be⟩
set_option maxHeartbeats 4000000 in
set_option maxRecDepth 100000 in
theorem ticksR_ok (c : Cfg) (m : Nat) (hm : m < 3) (sh mv dv tr sl cy x k0 p0 q0 r0 s0 : Int) (F : Int → Option Bool) (w : World) (hc0 : 0 ≤ c.cars) (hc8 : c.cars ≤ 100)
  (hk : c.cells[14 + m * 3 + 2]? = some (.int .i64 k0)) (hsh : ¬ sh = 0) (q1 : wrap64 (k0 + sh) = p0) (q2 : wrap64 (p0 - 1) = q0) (q3 : wrap64 (Int.tdiv q0 sh) = r0) (q4 : wrap64 (wrap64 (r0 + 4) * cy) = s0)
  (HS : ∀ W, Below w.heap.size w W → Calls Try.prog 9 #[.agg c.cells] W fun e w' => e = .returned (.tuple #[.int .i64 sh, .int .i64 0]) ∧ Below W.heap.size W w')
  (HF : carsF F c.cars.toNat 0 false = some true)
  (HO : ∀ (car : Int) (r : Bool), F car = some r → ∀ W, Below w.heap.size w W → Calls Try.prog 24 #[.agg c.cells, .int .i64 car, .int .i64 ((m : Int) + 1)] W fun e w' => e = .returned (.bool r) ∧ Below W.heap.size W w')
  (HT : ∀ W, Below w.heap.size w W → Calls Try.prog 25 #[.agg c.cells] W fun e w' => e = .returned (.tuple #[.agg #[.int .i64 mv, .int .i64 dv, .int .i64 tr, .int .i64 sl, .int .i64 cy], .int .i64 x]) ∧ Below W.heap.size W w') :
  Calls Try.prog 11 #[.agg c.cells, .int .i64 ((m : Int) + 1)] w fun e w' => e = .returned (.tuple #[.int .i64 s0, .int .i64 0]) ∧ Below w.heap.size w w' := by
 have HO := Aside0.mk HO
 have HT := Aside0.mk HT
 have HK := Aside0.mk hk
 have Q1 := Aside0.mk q1
 have Q2 := Aside0.mk q2
 have Q3 := Aside0.mk q3
 have Q4 := Aside0.mk q4
 have HSH := Aside0.mk hsh
 clear q1 q2 q3 q4 hk hsh
 obtain ⟨d, hd⟩ : ∃ d : Int, d = (m : Int) + 1 := ⟨_, rfl⟩
 rw [← hd] at HO ⊢
 have hd1 : ¬ d < 1 := by omega
 have hd3 : ¬ d > 3 := by omega
 have HDD := Aside0.mk hd
 clear hd
 have hu29 := Try.underlying29
 have hu42 := Try.underlying42
 have HS := Aside0.mk HS
 have HB := Aside0.mk (Below.refl w.heap.size w)
 go_enter Try.func11, Try.ntmps11
 go_upto_region 2 with (first | ((with_reducible refine gate_dst (N := 2) rfl ?_); refine bxe (cs := c.cells) (t := 29) ?_; intro g2 hg w1 hbox hb; have B2 := Aside0.mk hbox; replace HB := Aside0.mk (bst HB.out hb); clear hb hbox hg) | ((with_reducible refine gate_dst (N := 13) rfl ?_); refine lwx (g := g2) (bkt B2.out) ?_) | (go_at_call 9; (with_reducible refine (HS.out _ (bel HB.out)).mono ?_); rintro e w3 ⟨rfl, hb⟩; replace B2 := Aside0.mk (bkb B2.out hb); replace HB := Aside0.mk (bst HB.out hb); clear hb))
 refine wp_abs (TR w c g2) ⟨bkt B2.out, bel HB.out⟩ (fun W4 h4 => ?_)
 clear B2 HB
 have H4 := Aside0.mk h4
 clear h4
 go_upto_region 8 with fail
 obtain ⟨n, hn⟩ : ∃ n : Nat, c.cars.toNat = n := ⟨_, rfl⟩
 have hcn : c.cars = (n : Int) := by omega
 have hn100 : n ≤ 100 := by omega
 have HN := Aside0.mk hcn
 rw [hn] at HF
 have HF := Aside0.mk HF
 clear hn hcn
 go_loopw [8, 9] (fun v8 v9 wr => ∃ (k : Nat) (b : Bool), k ≤ n ∧ v9 = .int .i64 ((k : Int) + 1) ∧ v8 = .bool b ∧ Aside0 (carsF F (n - k) k b = some true) ∧ Aside0 (TR w c g2 wr)) (fun _ v _ => n + 1 - (intOf v).toNat)
 case atStart => exact ⟨0, false, Nat.zero_le _, rfl, rfl, ⟨by rw [Nat.sub_zero]; exact HF.out⟩, H4⟩
 case round =>
  obtain ⟨k, b, hk, rfl, rfl, HA, H5⟩ := hrel
  have c2 : wr.cell? ⟨g2, 2, none⟩ = some (.int .i64 n) := (blk_cell H5.out.b2 2).trans (by rw [← HN.out]; rfl)
  by_cases hkn : k < n
  ·have hk1 : (k : Int) + 1 ≤ (n : Int) := by omega
   have hw : IntKind.i64.wrap ((k : Int) + 1 + 1) = (k : Int) + 1 + 1 := by rw [i64_w]; unfold wrap64; omega
   cases b with
   | true =>
    have HA2 := Aside0.mk (show carsF F (n - (k + 1)) (k + 1) true = some true by have z := HA.out; rw [show n - k = (n - (k + 1)) + 1 from by omega, carsF, if_pos rfl] at z; exact z)
    clear HA
    go_wp2
    go_roundw
    case rel => exact ⟨k + 1, true, by omega, by go_num, rfl, HA2, H5⟩
    case measure => simp [intOf]; omega
   | false =>
    have z := HA.out
    rw [show n - k = (n - (k + 1)) + 1 from by omega, carsF, if_neg (by simp)] at z
    obtain ⟨r, hr, hA2⟩ := Option.bind_eq_some_iff.mp z
    have HA2 := Aside0.mk hA2
    have HRR := Aside0.mk hr
    clear HA z hr hA2
    go_wp2_with (first | ((with_reducible refine gate_dst (N := 38) rfl ?_); refine lwxw (g := g2) H5.out.b2 (by rfl) ?_) | (go_at_call 24; (with_reducible refine (HO.out _ r HRR.out _ (bel H5.out.be)).mono ?_); rintro e w6 ⟨rfl, hb⟩; replace H5 := Aside0.mk (H5.out.step hb); clear hb))
    go_roundw
    case rel => exact ⟨k + 1, r, by omega, by go_num, rfl, HA2, H5⟩
    case measure => simp [intOf]; omega
  ·have hk2 : k = n := by omega
   subst hk2
   have z := HA.out
   rw [Nat.sub_self, carsF] at z
   obtain rfl := Option.some.inj z
   clear z HA hk
   go_upto_region 14 with (first | ((with_reducible refine gate_dst (N := 46) rfl ?_); refine lwx (g := g2) H5.out.b2 ?_) | (go_at_call 25; (with_reducible refine (HT.out _ (bel H5.out.be)).mono ?_); rintro e w6 ⟨rfl, hb⟩; replace H5 := Aside0.mk (H5.out.step hb); clear hb c2))
   refine wp_abs (fun W => TR w c g2 W ∧ W.heap[w6.heap.size]? = some (.cells #[.int .i64 mv, .int .i64 dv, .int .i64 tr, .int .i64 sl, .int .i64 cy] 42)) ⟨⟨blk_alloc H5.out.b2 _, below_alloc H5.out.be _⟩, blk_new _ _⟩ (fun W6 h6 => ?_)
   clear H5
   generalize w6.heap.size = g8 at h6 ⊢
   have H6 := Aside0.mk h6
   have h8 : W6.cell? ⟨g8, 4, none⟩ = some (.int .i64 cy) := (blk_cell h6.2 4).trans rfl
   have hk2 : W6.cell? ⟨g2, 14 + m * 3 + 2, none⟩ = some (.int .i64 k0) := (blk_cell h6.1.b2 _).trans HK.out
   clear h6
   have hdw : IntKind.i64.wrap (d - 1) = (m : Int) := by rw [HDD.out, i64_w]; unfold wrap64; omega
   have hix := fun W => ixa W g2 14 m hm
   have hp : IntKind.i64.wrap (k0 + sh) = p0 := (i64_w _).trans Q1.out
   have hq : IntKind.i64.wrap (p0 - 1) = q0 := (i64_w _).trans Q2.out
   have hr : IntKind.i64.wrap (Int.tdiv q0 sh) = r0 := (i64_w _).trans Q3.out
   have hsh := HSH.out
   obtain ⟨r4, hr4⟩ : ∃ x, wrap64 (r0 + 4) = x := ⟨_, rfl⟩
   have hr4' : IntKind.i64.wrap (r0 + 4) = r4 := (i64_w _).trans hr4
   have hs : IntKind.i64.wrap (r4 * cy) = s0 := by rw [← hr4]; exact (i64_w _).trans Q4.out
   clear hr4
   go_quiet (fail)
   go_wp2
   go_ret2
   exact ⟨rfl, bel H6.out.1.be⟩
end Go.Proofs.Ytmdcjmackhjchaa.P
end

section
-- Printed by wip/myprint.py of this repo (over the kit's printer). Not trusted: Lean checks it.
namespace Go.Proofs.Ytmdcjmackhjchaa.P
open Go.RowKit Go.Proofs.YtmdcjmackhjchaaW.PrintWords Go.Proofs.YtmdcjmackhjchaaW.PrintLast Go.Proofs.YtmdcjmackhjchaaW.PrintMore
attribute [local go_sem] cell_same1 cell_some1 ix27_0 ix27_1 ix27_2
attribute [local go_sem] max2_int min2_int max_two min_two max_three min_three max_four min_four   -- for this text's walks alone
set_option linter.unusedVariables false
set_option linter.unusedSimpArgs false

/-! ### ref_Share: function 9 -/
def ref_Share.f (k : Nat) (a0_0 : Int) (l0_1 : List Int) (a0_2 : Int) (a0_3 : Int) (a0_4 : Int) (a0_5 : Int) (a0_6 : Int) (a0_7 : Int) (a0_8 : Int) (a0_9 : Int) (a0_10 : Int) (a0_11 : Int) (a0_12 : Int) (l0_13 : List (List Int)) (a0_14 : Int) (a0_15 : Int) (a0_16 : Int) (a0_17 : Int) (a0_18 : Int) (a0_19 : Int) (a0_20 : Int) (a0_21 : Int) (a0_22 : Int) (l0_23 : List Int) (a0_24 : Int) : Option (Int × Int) := (r27_Check.f k a0_0 l0_1 a0_2 a0_3 a0_4 a0_5 a0_6 a0_7 a0_8 a0_9 a0_10 a0_11 a0_12 l0_13 a0_14 a0_15 a0_16 a0_17 a0_18 a0_19 a0_20 a0_21 a0_22 l0_23 a0_24).bind fun t227 => (if t227 = 0 then (some (wrap64 (Int.tdiv (wrap64 (a0_11 + 1)) 2), 0)) else (some (0, t227)))
theorem ref_Share.mono : ∀ a0 a1 a2 a3 a4 a5 a6 a7 a8 a9 a10 a11 a12 a13 a14 a15 a16 a17 a18 a19 a20 a21 a22 a23 a24 k, LeO (ref_Share.f k a0 a1 a2 a3 a4 a5 a6 a7 a8 a9 a10 a11 a12 a13 a14 a15 a16 a17 a18 a19 a20 a21 a22 a23 a24) (ref_Share.f (k + 1) a0 a1 a2 a3 a4 a5 a6 a7 a8 a9 a10 a11 a12 a13 a14 a15 a16 a17 a18 a19 a20 a21 a22 a23 a24) := by
 intro a0 a1 a2 a3 a4 a5 a6 a7 a8 a9 a10 a11 a12 a13 a14 a15 a16 a17 a18 a19 a20 a21 a22 a23 a24 k
 unfold ref_Share.f
 repeat' first
   | (with_reducible exact r27_Check.mono _ _ _ _ _ _ _ _ _ _ _ _ _ _ _ _ _ _ _ _ _ _ _ _ _ _)
   | (with_reducible exact LeO.refl _)
   | (with_reducible exact LeO.none _)
   | (with_reducible refine LeO.ite ?_ ?_)
   | (with_reducible refine LeO.bind ?_ (fun _ => ?_))
   | exact r27_Check.mono _ _ _ _ _ _ _ _ _ _ _ _ _ _ _ _ _ _ _ _ _ _ _ _ _ _
   | exact LeO.none _
   | refine LeO.ite ?_ ?_
   | refine LeO.bind ?_ (fun _ => ?_)
set_option maxHeartbeats 8000000 in
set_option maxRecDepth 100000 in
theorem ref_Share.calls (k : Nat) (a0_0 : Int) (A0_1 : Option Addr) (c0_1 : Nat) (l0_1 : List Int) (a0_2 : Int) (a0_3 : Int) (a0_4 : Int) (a0_5 : Int) (a0_6 : Int) (a0_7 : Int) (a0_8 : Int) (a0_9 : Int) (a0_10 : Int) (a0_11 : Int) (a0_12 : Int) (A0_13 : Option Addr) (c0_13 : Nat) (l0_13 : List (List Int)) (a0_14 : Int) (a0_15 : Int) (a0_16 : Int) (a0_17 : Int) (a0_18 : Int) (a0_19 : Int) (a0_20 : Int) (a0_21 : Int) (a0_22 : Int) (A0_23 : Option Addr) (c0_23 : Nat) (l0_23 : List Int) (a0_24 : Int) (r1 : Int) (r2 : Int) (w : World) (hr0_1 : Kd.C (Kd.int .i64) w A0_1 l0_1.length l0_1) (hc0_1 : l0_1.length ≤ c0_1) (hr0_13 : Kd.C (Kd.slice 3 (Kd.int .i64)) w A0_13 l0_13.length l0_13) (hc0_13 : l0_13.length ≤ c0_13) (hr0_23 : Kd.C (Kd.int .i64) w A0_23 l0_23.length l0_23) (hc0_23 : l0_23.length ≤ c0_23) (h : ref_Share.f k a0_0 l0_1 a0_2 a0_3 a0_4 a0_5 a0_6 a0_7 a0_8 a0_9 a0_10 a0_11 a0_12 l0_13 a0_14 a0_15 a0_16 a0_17 a0_18 a0_19 a0_20 a0_21 a0_22 l0_23 a0_24 = some (r1, r2)) :
  Calls Try.prog 9 #[.agg #[.int .i64 a0_0, .slice A0_1 l0_1.length c0_1, .int .i64 a0_2, .int .i64 a0_3, .int .i64 a0_4, .int .i64 a0_5, .int .i64 a0_6, .int .i64 a0_7, .int .i64 a0_8, .int .i64 a0_9, .int .i64 a0_10, .int .i64 a0_11, .int .i64 a0_12, .slice A0_13 l0_13.length c0_13, .int .u64 a0_14, .int .i64 a0_15, .int .i64 a0_16, .int .u64 a0_17, .int .i64 a0_18, .int .i64 a0_19, .int .u64 a0_20, .int .i64 a0_21, .int .i64 a0_22, .slice A0_23 l0_23.length c0_23, .int .i64 a0_24]] w fun e w' => e = .returned (.tuple #[.int .i64 r1, .int .i64 r2]) ∧ Below w.heap.size w w' := by
 have hu29 := Try.underlying29
 have HR0_1 := Aside0.mk hr0_1
 have HC0_1 := Aside0.mk hc0_1
 clear hr0_1 hc0_1
 have HR0_13 := Aside0.mk hr0_13
 have HC0_13 := Aside0.mk hc0_13
 clear hr0_13 hc0_13
 have HR0_23 := Aside0.mk hr0_23
 have HC0_23 := Aside0.mk hc0_23
 clear hr0_23 hc0_23
 have HB := Aside0.mk (Below.refl w.heap.size w)
 have H : ((r27_Check.f k a0_0 l0_1 a0_2 a0_3 a0_4 a0_5 a0_6 a0_7 a0_8 a0_9 a0_10 a0_11 a0_12 l0_13 a0_14 a0_15 a0_16 a0_17 a0_18 a0_19 a0_20 a0_21 a0_22 l0_23 a0_24).bind fun t227 => (if t227 = 0 then (some (wrap64 (Int.tdiv (wrap64 (a0_11 + 1)) 2), 0)) else (some (0, t227)))) = some (r1, r2) := h
 clear h
 replace H := Option.bind_eq_some_iff.mp H
 obtain ⟨t227, A20, H⟩ := H
 replace H : (if t227 = 0 then (some (wrap64 (Int.tdiv (wrap64 (a0_11 + 1)) 2), 0)) else (some (0, t227))) = some (r1, r2) := H
 have A2 := Aside0.mk A20
 clear A20
 by_cases c3 : t227 = 0
 ·as_aux_lemma =>
  rw [if_pos c3] at H
  have c3b0 : (t227 == 0) = true := beq_iff_eq.mpr c3
  have c3b1 : (t227 != 0) = false := bne_eq_false_iff_eq.mpr c3
  clear c3
  simp only [Option.some.injEq, Prod.mk.injEq] at H
  obtain ⟨rfl, rfl⟩ := H
  go_enter Try.func9, Try.ntmps9
  go_wp2_with (first | ((with_reducible refine gate_dst (N := 5) rfl ?_); (first | refine lwx (g := gb226) (cs := [.int .i64 a0_0, .slice A0_1 l0_1.length c0_1, .int .i64 a0_2, .int .i64 a0_3, .int .i64 a0_4, .int .i64 a0_5, .int .i64 a0_6, .int .i64 a0_7, .int .i64 a0_8, .int .i64 a0_9, .int .i64 a0_10, .int .i64 a0_11, .int .i64 a0_12, .slice A0_13 l0_13.length c0_13, .int .u64 a0_14, .int .i64 a0_15, .int .i64 a0_16, .int .u64 a0_17, .int .i64 a0_18, .int .i64 a0_19, .int .u64 a0_20, .int .i64 a0_21, .int .i64 a0_22, .slice A0_23 l0_23.length c0_23, .int .i64 a0_24]) (bkt BK226.out) ?_ | refine lwx (g := gb226) BK226.out ?_ | refine lwx2 (g := gb226) (blk_set (bkt BK226.out) _ _) ?_)) | ((with_reducible refine gate_dst (N := 1) rfl ?_); refine bxe (cs := #[.int .i64 a0_0, .slice A0_1 l0_1.length c0_1, .int .i64 a0_2, .int .i64 a0_3, .int .i64 a0_4, .int .i64 a0_5, .int .i64 a0_6, .int .i64 a0_7, .int .i64 a0_8, .int .i64 a0_9, .int .i64 a0_10, .int .i64 a0_11, .int .i64 a0_12, .slice A0_13 l0_13.length c0_13, .int .u64 a0_14, .int .i64 a0_15, .int .i64 a0_16, .int .u64 a0_17, .int .i64 a0_18, .int .i64 a0_19, .int .u64 a0_20, .int .i64 a0_21, .int .i64 a0_22, .slice A0_23 l0_23.length c0_23, .int .i64 a0_24]) (t := 29) ?_; intro gb226 hg w4 hbox hb; have BK226 := Aside0.mk (hbox); have GW226 := Aside0.mk (bge hg HB.out); have GE226 := Aside0.mk (bge hg HB.out); replace HB := Aside0.mk (bst HB.out hb); clear hb hbox hg; have hcz5_0 := cz25 BK226.out; have hfz5_0 := blk_frozen BK226.out) | ((with_reducible refine gate_callee (f := 19) rfl ?_); refine gsl (some 6) Try.func19 #[.agg #[.int .i64 a0_0, .slice A0_1 l0_1.length c0_1, .int .i64 a0_2, .int .i64 a0_3, .int .i64 a0_4, .int .i64 a0_5, .int .i64 a0_6, .int .i64 a0_7, .int .i64 a0_8, .int .i64 a0_9, .int .i64 a0_10, .int .i64 a0_11, .int .i64 a0_12, .slice A0_13 l0_13.length c0_13, .int .u64 a0_14, .int .i64 a0_15, .int .i64 a0_16, .int .u64 a0_17, .int .i64 a0_18, .int .i64 a0_19, .int .u64 a0_20, .int .i64 a0_21, .int .i64 a0_22, .slice A0_23 l0_23.length c0_23, .int .i64 a0_24]] ?_; (with_reducible refine (r27_Check.calls k a0_0 _ _ l0_1 a0_2 a0_3 a0_4 a0_5 a0_6 a0_7 a0_8 a0_9 a0_10 a0_11 a0_12 _ _ l0_13 a0_14 a0_15 a0_16 a0_17 a0_18 a0_19 a0_20 a0_21 a0_22 _ _ l0_23 a0_24 t227 _ ?side1 ?side2 ?side3 ?side4 ?side5 ?side6 A2.out).mono ?_); (case side1 => repeat (first | exact (Kd.C_below HR0_1.out HB.out) | (with_reducible refine Kd.C_alloc ?_ _) | (with_reducible refine Kd.C_drewN ?_ _) | (with_reducible refine Kd.C_drew ?_))); (case side2 => exact HC0_1.out); (case side3 => repeat (first | exact (Kd.C_below HR0_13.out HB.out) | (with_reducible refine Kd.C_alloc ?_ _) | (with_reducible refine Kd.C_drewN ?_ _) | (with_reducible refine Kd.C_drew ?_))); (case side4 => exact HC0_13.out); (case side5 => repeat (first | exact (Kd.C_below HR0_23.out HB.out) | (with_reducible refine Kd.C_alloc ?_ _) | (with_reducible refine Kd.C_drewN ?_ _) | (with_reducible refine Kd.C_drew ?_))); (case side6 => exact HC0_23.out); rintro e w6 ⟨rfl, hb⟩; refine ⟨_, rfl, ?_⟩; replace BK226 := Aside0.mk (bkb BK226.out hb); replace HB := Aside0.mk (bst HB.out hb); (try clear hb); (try clear hb2); (try clear hk); (try clear hi); have hcz7_0 := cz25 BK226.out; have hfz7_0 := blk_frozen BK226.out))
  go_ret2
  exact bfin (bel HB.out)
 ·as_aux_lemma =>
  rw [if_neg c3] at H
  have c3b0 : (t227 == 0) = false := beq_eq_false_iff_ne.mpr c3
  have c3b1 : (t227 != 0) = true := bne_iff_ne.mpr c3
  simp only [Option.some.injEq, Prod.mk.injEq] at H
  obtain ⟨rfl, rfl⟩ := H
  go_enter Try.func9, Try.ntmps9
  go_wp2_with (first | ((with_reducible refine gate_dst (N := 5) rfl ?_); (first | refine lwx (g := gb226) (cs := [.int .i64 a0_0, .slice A0_1 l0_1.length c0_1, .int .i64 a0_2, .int .i64 a0_3, .int .i64 a0_4, .int .i64 a0_5, .int .i64 a0_6, .int .i64 a0_7, .int .i64 a0_8, .int .i64 a0_9, .int .i64 a0_10, .int .i64 a0_11, .int .i64 a0_12, .slice A0_13 l0_13.length c0_13, .int .u64 a0_14, .int .i64 a0_15, .int .i64 a0_16, .int .u64 a0_17, .int .i64 a0_18, .int .i64 a0_19, .int .u64 a0_20, .int .i64 a0_21, .int .i64 a0_22, .slice A0_23 l0_23.length c0_23, .int .i64 a0_24]) (bkt BK226.out) ?_ | refine lwx (g := gb226) BK226.out ?_ | refine lwx2 (g := gb226) (blk_set (bkt BK226.out) _ _) ?_)) | ((with_reducible refine gate_dst (N := 1) rfl ?_); refine bxe (cs := #[.int .i64 a0_0, .slice A0_1 l0_1.length c0_1, .int .i64 a0_2, .int .i64 a0_3, .int .i64 a0_4, .int .i64 a0_5, .int .i64 a0_6, .int .i64 a0_7, .int .i64 a0_8, .int .i64 a0_9, .int .i64 a0_10, .int .i64 a0_11, .int .i64 a0_12, .slice A0_13 l0_13.length c0_13, .int .u64 a0_14, .int .i64 a0_15, .int .i64 a0_16, .int .u64 a0_17, .int .i64 a0_18, .int .i64 a0_19, .int .u64 a0_20, .int .i64 a0_21, .int .i64 a0_22, .slice A0_23 l0_23.length c0_23, .int .i64 a0_24]) (t := 29) ?_; intro gb226 hg w8 hbox hb; have BK226 := Aside0.mk (hbox); have GW226 := Aside0.mk (bge hg HB.out); have GE226 := Aside0.mk (bge hg HB.out); replace HB := Aside0.mk (bst HB.out hb); clear hb hbox hg; have hcz9_0 := cz25 BK226.out; have hfz9_0 := blk_frozen BK226.out) | ((with_reducible refine gate_callee (f := 19) rfl ?_); refine gsl (some 6) Try.func19 #[.agg #[.int .i64 a0_0, .slice A0_1 l0_1.length c0_1, .int .i64 a0_2, .int .i64 a0_3, .int .i64 a0_4, .int .i64 a0_5, .int .i64 a0_6, .int .i64 a0_7, .int .i64 a0_8, .int .i64 a0_9, .int .i64 a0_10, .int .i64 a0_11, .int .i64 a0_12, .slice A0_13 l0_13.length c0_13, .int .u64 a0_14, .int .i64 a0_15, .int .i64 a0_16, .int .u64 a0_17, .int .i64 a0_18, .int .i64 a0_19, .int .u64 a0_20, .int .i64 a0_21, .int .i64 a0_22, .slice A0_23 l0_23.length c0_23, .int .i64 a0_24]] ?_; (with_reducible refine (r27_Check.calls k a0_0 _ _ l0_1 a0_2 a0_3 a0_4 a0_5 a0_6 a0_7 a0_8 a0_9 a0_10 a0_11 a0_12 _ _ l0_13 a0_14 a0_15 a0_16 a0_17 a0_18 a0_19 a0_20 a0_21 a0_22 _ _ l0_23 a0_24 t227 _ ?side1 ?side2 ?side3 ?side4 ?side5 ?side6 A2.out).mono ?_); (case side1 => repeat (first | exact (Kd.C_below HR0_1.out HB.out) | (with_reducible refine Kd.C_alloc ?_ _) | (with_reducible refine Kd.C_drewN ?_ _) | (with_reducible refine Kd.C_drew ?_))); (case side2 => exact HC0_1.out); (case side3 => repeat (first | exact (Kd.C_below HR0_13.out HB.out) | (with_reducible refine Kd.C_alloc ?_ _) | (with_reducible refine Kd.C_drewN ?_ _) | (with_reducible refine Kd.C_drew ?_))); (case side4 => exact HC0_13.out); (case side5 => repeat (first | exact (Kd.C_below HR0_23.out HB.out) | (with_reducible refine Kd.C_alloc ?_ _) | (with_reducible refine Kd.C_drewN ?_ _) | (with_reducible refine Kd.C_drew ?_))); (case side6 => exact HC0_23.out); rintro e w10 ⟨rfl, hb⟩; refine ⟨_, rfl, ?_⟩; replace BK226 := Aside0.mk (bkb BK226.out hb); replace HB := Aside0.mk (bst HB.out hb); (try clear hb); (try clear hb2); (try clear hk); (try clear hi)))
  go_ret2
  exact bfin (bel HB.out)

/-! ### ref_slotOf: function 24 -/
def ref_slotOf.l0 : Nat → Int → Int → Int → Int → List Int → Int → Int → Int → Int → Int → Int → Int → Int → Int → Int → Int → List (List Int) → Int → Int → Int → Int → Int → Int → Int → Int → Int → List Int → Int → Option (Bool)
 | 0, _, _, _, _, _, _, _, _, _, _, _, _, _, _, _, _, _, _, _, _, _, _, _, _, _, _, _, _ => none
 | k + 1, x1, x2, x7, x229000, x229001, x229002, x229003, x229004, x229005, x229006, x229007, x229008, x229009, x229010, x229011, x229012, x229013, x229014, x229015, x229016, x229017, x229018, x229019, x229020, x229021, x229022, x229023, x229024 => if x7 < x229012 then (if 0 ≤ (wrap64 (x1 - 1)) then (if (wrap64 (x1 - 1)) < (x229013.length : Int) then (if 0 ≤ x7 then (if x7 < ((rd_L1 x229013 (wrap64 (x1 - 1))).length : Int) then (if (rd (rd_L1 x229013 (wrap64 (x1 - 1))) x7) = x2 then (some true) else (ref_slotOf.l0 k x1 x2 (wrap64 (x7 + 1)) x229000 x229001 x229002 x229003 x229004 x229005 x229006 x229007 x229008 x229009 x229010 x229011 x229012 x229013 x229014 x229015 x229016 x229017 x229018 x229019 x229020 x229021 x229022 x229023 x229024)) else (none)) else (none)) else (none)) else (none)) else (some false)
def ref_slotOf.f (k : Nat) (a0_0 : Int) (l0_1 : List Int) (a0_2 : Int) (a0_3 : Int) (a0_4 : Int) (a0_5 : Int) (a0_6 : Int) (a0_7 : Int) (a0_8 : Int) (a0_9 : Int) (a0_10 : Int) (a0_11 : Int) (a0_12 : Int) (l0_13 : List (List Int)) (a0_14 : Int) (a0_15 : Int) (a0_16 : Int) (a0_17 : Int) (a0_18 : Int) (a0_19 : Int) (a0_20 : Int) (a0_21 : Int) (a0_22 : Int) (l0_23 : List Int) (a0_24 : Int) (a1 : Int) (a2 : Int) : Option (Bool) := ref_slotOf.l0 k a1 a2 0 a0_0 l0_1 a0_2 a0_3 a0_4 a0_5 a0_6 a0_7 a0_8 a0_9 a0_10 a0_11 a0_12 l0_13 a0_14 a0_15 a0_16 a0_17 a0_18 a0_19 a0_20 a0_21 a0_22 l0_23 a0_24
theorem ref_slotOf.mono_l : ∀ k, (∀ y0 y1 y2 y3 y4 y5 y6 y7 y8 y9 y10 y11 y12 y13 y14 y15 y16 y17 y18 y19 y20 y21 y22 y23 y24 y25 y26 y27, LeO (ref_slotOf.l0 k y0 y1 y2 y3 y4 y5 y6 y7 y8 y9 y10 y11 y12 y13 y14 y15 y16 y17 y18 y19 y20 y21 y22 y23 y24 y25 y26 y27) (ref_slotOf.l0 (k + 1) y0 y1 y2 y3 y4 y5 y6 y7 y8 y9 y10 y11 y12 y13 y14 y15 y16 y17 y18 y19 y20 y21 y22 y23 y24 y25 y26 y27))
 | 0 => fun _ _ _ _ _ _ _ _ _ _ _ _ _ _ _ _ _ _ _ _ _ _ _ _ _ _ _ _ r h => by simp [ref_slotOf.l0] at h
 | k + 1 => by
  have ih0 := ref_slotOf.mono_l k
  ·as_aux_lemma =>
   intro y0 y1 y2 y3 y4 y5 y6 y7 y8 y9 y10 y11 y12 y13 y14 y15 y16 y17 y18 y19 y20 y21 y22 y23 y24 y25 y26 y27
   unfold ref_slotOf.l0
   repeat' first
   | (with_reducible exact ih0 _ _ _ _ _ _ _ _ _ _ _ _ _ _ _ _ _ _ _ _ _ _ _ _ _ _ _ _)
   | (with_reducible exact LeO.refl _)
   | (with_reducible exact LeO.none _)
   | (with_reducible refine LeO.ite ?_ ?_)
   | (with_reducible refine LeO.bind ?_ (fun _ => ?_))
   | exact ih0 _ _ _ _ _ _ _ _ _ _ _ _ _ _ _ _ _ _ _ _ _ _ _ _ _ _ _ _
   | exact LeO.none _
   | refine LeO.ite ?_ ?_
   | refine LeO.bind ?_ (fun _ => ?_)
theorem ref_slotOf.mono : ∀ a0 a1 a2 a3 a4 a5 a6 a7 a8 a9 a10 a11 a12 a13 a14 a15 a16 a17 a18 a19 a20 a21 a22 a23 a24 a25 a26 k, LeO (ref_slotOf.f k a0 a1 a2 a3 a4 a5 a6 a7 a8 a9 a10 a11 a12 a13 a14 a15 a16 a17 a18 a19 a20 a21 a22 a23 a24 a25 a26) (ref_slotOf.f (k + 1) a0 a1 a2 a3 a4 a5 a6 a7 a8 a9 a10 a11 a12 a13 a14 a15 a16 a17 a18 a19 a20 a21 a22 a23 a24 a25 a26) := by
 intro a0 a1 a2 a3 a4 a5 a6 a7 a8 a9 a10 a11 a12 a13 a14 a15 a16 a17 a18 a19 a20 a21 a22 a23 a24 a25 a26 k
 have ih0 := ref_slotOf.mono_l k
 unfold ref_slotOf.f
 repeat' first
   | (with_reducible exact ih0 _ _ _ _ _ _ _ _ _ _ _ _ _ _ _ _ _ _ _ _ _ _ _ _ _ _ _ _)
   | (with_reducible exact LeO.refl _)
   | (with_reducible exact LeO.none _)
   | (with_reducible refine LeO.ite ?_ ?_)
   | (with_reducible refine LeO.bind ?_ (fun _ => ?_))
   | exact ih0 _ _ _ _ _ _ _ _ _ _ _ _ _ _ _ _ _ _ _ _ _ _ _ _ _ _ _ _
   | exact LeO.none _
   | refine LeO.ite ?_ ?_
   | refine LeO.bind ?_ (fun _ => ?_)
set_option maxHeartbeats 8000000 in
set_option maxRecDepth 100000 in
theorem ref_slotOf.calls (k : Nat) (a0_0 : Int) (A0_1 : Option Addr) (c0_1 : Nat) (l0_1 : List Int) (a0_2 : Int) (a0_3 : Int) (a0_4 : Int) (a0_5 : Int) (a0_6 : Int) (a0_7 : Int) (a0_8 : Int) (a0_9 : Int) (a0_10 : Int) (a0_11 : Int) (a0_12 : Int) (A0_13 : Option Addr) (c0_13 : Nat) (l0_13 : List (List Int)) (a0_14 : Int) (a0_15 : Int) (a0_16 : Int) (a0_17 : Int) (a0_18 : Int) (a0_19 : Int) (a0_20 : Int) (a0_21 : Int) (a0_22 : Int) (A0_23 : Option Addr) (c0_23 : Nat) (l0_23 : List Int) (a0_24 : Int) (a1 : Int) (a2 : Int) (r : Bool) (w : World) (hr0_1 : Kd.C (Kd.int .i64) w A0_1 l0_1.length l0_1) (hc0_1 : l0_1.length ≤ c0_1) (hr0_13 : Kd.C (Kd.slice 3 (Kd.int .i64)) w A0_13 l0_13.length l0_13) (hc0_13 : l0_13.length ≤ c0_13) (hr0_23 : Kd.C (Kd.int .i64) w A0_23 l0_23.length l0_23) (hc0_23 : l0_23.length ≤ c0_23) (h : ref_slotOf.f k a0_0 l0_1 a0_2 a0_3 a0_4 a0_5 a0_6 a0_7 a0_8 a0_9 a0_10 a0_11 a0_12 l0_13 a0_14 a0_15 a0_16 a0_17 a0_18 a0_19 a0_20 a0_21 a0_22 l0_23 a0_24 a1 a2 = some r) :
  Calls Try.prog 24 #[.agg #[.int .i64 a0_0, .slice A0_1 l0_1.length c0_1, .int .i64 a0_2, .int .i64 a0_3, .int .i64 a0_4, .int .i64 a0_5, .int .i64 a0_6, .int .i64 a0_7, .int .i64 a0_8, .int .i64 a0_9, .int .i64 a0_10, .int .i64 a0_11, .int .i64 a0_12, .slice A0_13 l0_13.length c0_13, .int .u64 a0_14, .int .i64 a0_15, .int .i64 a0_16, .int .u64 a0_17, .int .i64 a0_18, .int .i64 a0_19, .int .u64 a0_20, .int .i64 a0_21, .int .i64 a0_22, .slice A0_23 l0_23.length c0_23, .int .i64 a0_24], .int .i64 a1, .int .i64 a2] w fun e w' => e = .returned (.bool r) ∧ Below w.heap.size w w' := by
 have hu29 := Try.underlying29
 have HR0_1 := Aside0.mk hr0_1
 have HC0_1 := Aside0.mk hc0_1
 clear hr0_1 hc0_1
 have HR0_13 := Aside0.mk hr0_13
 have HC0_13 := Aside0.mk hc0_13
 clear hr0_13 hc0_13
 have HR0_23 := Aside0.mk hr0_23
 have HC0_23 := Aside0.mk hc0_23
 clear hr0_23 hc0_23
 have HB := Aside0.mk (Below.refl w.heap.size w)
 have H : (ref_slotOf.l0 k a1 a2 0 a0_0 l0_1 a0_2 a0_3 a0_4 a0_5 a0_6 a0_7 a0_8 a0_9 a0_10 a0_11 a0_12 l0_13 a0_14 a0_15 a0_16 a0_17 a0_18 a0_19 a0_20 a0_21 a0_22 l0_23 a0_24) = some r := h
 clear h
 have H' := Aside0.mk H
 clear H
 go_enter Try.func24, Try.ntmps24
 go_wp2_with (first | ((with_reducible refine gate_dst (N := 3) rfl ?_); refine bxe (cs := #[.int .i64 a0_0, .slice A0_1 l0_1.length c0_1, .int .i64 a0_2, .int .i64 a0_3, .int .i64 a0_4, .int .i64 a0_5, .int .i64 a0_6, .int .i64 a0_7, .int .i64 a0_8, .int .i64 a0_9, .int .i64 a0_10, .int .i64 a0_11, .int .i64 a0_12, .slice A0_13 l0_13.length c0_13, .int .u64 a0_14, .int .i64 a0_15, .int .i64 a0_16, .int .u64 a0_17, .int .i64 a0_18, .int .i64 a0_19, .int .u64 a0_20, .int .i64 a0_21, .int .i64 a0_22, .slice A0_23 l0_23.length c0_23, .int .i64 a0_24]) (t := 29) ?_; intro gb228 hg w4 hbox hb; have BK228 := Aside0.mk (hbox); have GW228 := Aside0.mk (bge hg HB.out); have GE228 := Aside0.mk (bge hg HB.out); replace HB := Aside0.mk (bst HB.out hb); clear hb hbox hg))
 go_loopg [7] k (fun kq v7 w' => ∃ (x7_1 : Int), v7 = .int .i64 x7_1 ∧ Aside0 (ref_slotOf.l0 kq a1 a2 x7_1 a0_0 l0_1 a0_2 a0_3 a0_4 a0_5 a0_6 a0_7 a0_8 a0_9 a0_10 a0_11 a0_12 l0_13 a0_14 a0_15 a0_16 a0_17 a0_18 a0_19 a0_20 a0_21 a0_22 l0_23 a0_24 = some r) ∧ Aside0 (kq ≤ k) ∧ Aside0 (w'.heap[gb228]? = some (.cells #[.int .i64 a0_0, (.slice A0_1 l0_1.length c0_1), .int .i64 a0_2, .int .i64 a0_3, .int .i64 a0_4, .int .i64 a0_5, .int .i64 a0_6, .int .i64 a0_7, .int .i64 a0_8, .int .i64 a0_9, .int .i64 a0_10, .int .i64 a0_11, .int .i64 a0_12, (.slice A0_13 l0_13.length c0_13), .int .u64 a0_14, .int .i64 a0_15, .int .i64 a0_16, .int .u64 a0_17, .int .i64 a0_18, .int .i64 a0_19, .int .u64 a0_20, .int .i64 a0_21, .int .i64 a0_22, (.slice A0_23 l0_23.length c0_23), .int .i64 a0_24] 29 (0, 0))) ∧ Aside0 (Below w.heap.size w w'))
 case atStart => exact ⟨(0), (by first | rfl | (simp; done) | (simp [*]; done)), H', ⟨Nat.le_refl _⟩, ⟨bkt BK228.out⟩, ⟨bel HB.out⟩⟩
 case round =>
  clear H'
  try clear c2
  try clear p2
  obtain ⟨x7_1, rfl, HA, HK1, BK228, HB⟩ := hrel
  cases gk with
  | zero => exact absurd HA.out (by simp [ref_slotOf.l0])
  | succ k1 =>
   have H := HA.out
   clear HA
   simp only [ref_slotOf.l0] at H
   by_cases c5 : x7_1 < a0_12
   ·as_aux_lemma =>
    rw [if_pos c5] at H
    have c5b0 : decide (x7_1 < a0_12) = true := decide_eq_true c5
    clear c5
    obtain ⟨ji6, hji6⟩ : ∃ j_ : Int, (wrap64 (a1 - 1)) = j_ := ⟨_, rfl⟩
    replace H : (if 0 ≤ (ji6) then (if (ji6) < (l0_13.length : Int) then (if 0 ≤ x7_1 then (if x7_1 < ((rd_L1 l0_13 (ji6)).length : Int) then (if (rd (rd_L1 l0_13 (ji6)) x7_1) = a2 then (some true) else (ref_slotOf.l0 k1 a1 a2 (wrap64 (x7_1 + 1)) a0_0 l0_1 a0_2 a0_3 a0_4 a0_5 a0_6 a0_7 a0_8 a0_9 a0_10 a0_11 a0_12 l0_13 a0_14 a0_15 a0_16 a0_17 a0_18 a0_19 a0_20 a0_21 a0_22 l0_23 a0_24)) else (none)) else (none)) else (none)) else (none)) = some r := by first | (rw [hji6] at H; exact H) | (simp only [hji6] at H ⊢; exact H)
    have hji6w : (IntKind.i64.wrap (a1 - 1)) = ji6 := (i64_w _).trans hji6
    by_cases c7 : 0 ≤ (ji6)
    ·as_aux_lemma =>
     rw [if_pos c7] at H
     have c7b0 : decide (0 ≤ (ji6)) = true := decide_eq_true c7
     clear c7
     by_cases c8 : (ji6) < (l0_13.length : Int)
     ·as_aux_lemma =>
      rw [if_pos c8] at H
      have c8b0 : decide ((ji6) < (l0_13.length : Int)) = true := decide_eq_true c8
      clear c8
      by_cases c9 : 0 ≤ x7_1
      ·as_aux_lemma =>
       rw [if_pos c9] at H
       have c9b0 : decide (0 ≤ x7_1) = true := decide_eq_true c9
       clear c9
       by_cases c10 : x7_1 < ((rd_L1 l0_13 (ji6)).length : Int)
       ·as_aux_lemma =>
        rw [if_pos c10] at H
        have c10b0 : decide (x7_1 < ((rd_L1 l0_13 (ji6)).length : Int)) = true := decide_eq_true c10
        clear c10
        by_cases c11 : (rd (rd_L1 l0_13 (ji6)) x7_1) = a2
        ·as_aux_lemma =>
         rw [if_pos c11] at H
         have c11b0 : ((rd (rd_L1 l0_13 (ji6)) x7_1) == a2) = true := beq_iff_eq.mpr c11
         have c11b1 : ((rd (rd_L1 l0_13 (ji6)) x7_1) != a2) = false := bne_eq_false_iff_eq.mpr c11
         clear c11
         obtain rfl := Option.some.inj H
         have hcz12_0 := cz25 BK228.out
         have hfz12_0 := blk_frozen BK228.out
         have p229 : 0 ≤ ((ji6) : Int) := of_decide_eq_true (by first | (with_reducible assumption) | assumption)
         have q229 : (ji6) < (l0_13.length : Int) := of_decide_eq_true (by first | (with_reducible assumption) | assumption)
         obtain ⟨ad229, A229_0, c229_0, e229, hx229_0, hl229_0, hi229_0⟩ := at_L1 HR0_13.out (ji6) p229 q229
         cases e229
         replace hx229_0 := (HB.out.cell (World.block_lt_of_cell? w _ hx229_0)).trans hx229_0
         have HR229_0 := Aside0.mk hi229_0
         have HC229_0 := Aside0.mk hl229_0
         clear hi229_0 hl229_0
         replace p229 := eq_true p229
         replace q229 := eq_true q229
         have p230 : 0 ≤ (x7_1 : Int) := of_decide_eq_true (by first | (with_reducible assumption) | assumption)
         have q230 : x7_1 < ((rd_L1 l0_13 (ji6)).length : Int) := of_decide_eq_true (by first | (with_reducible assumption) | assumption)
         obtain ⟨ad230, e230, hx230_0⟩ := Kd.at_int HR229_0.out x7_1 p230 q230
         cases e230
         replace hx230_0 := (HB.out.cell (World.block_lt_of_cell? w _ hx230_0)).trans hx230_0
         replace p230 := eq_true p230
         replace q230 := eq_true q230
         go_wp2
         go_ret
         exact ⟨by first | rfl | (simp [errW_none, errW_some] <;> rfl) | (simp only [← hji6]; first | rfl | (simp [errW_none, errW_some] <;> rfl)) | (simp [*, errW_none, errW_some] <;> rfl), bel HB.out⟩
        ·as_aux_lemma =>
         rw [if_neg c11] at H
         have c11b0 : ((rd (rd_L1 l0_13 (ji6)) x7_1) == a2) = false := beq_eq_false_iff_ne.mpr c11
         have c11b1 : ((rd (rd_L1 l0_13 (ji6)) x7_1) != a2) = true := bne_iff_ne.mpr c11
         have H' := Aside0.mk H
         clear H
         have hcz13_0 := cz25 BK228.out
         have hfz13_0 := blk_frozen BK228.out
         have p229 : 0 ≤ ((ji6) : Int) := of_decide_eq_true (by first | (with_reducible assumption) | assumption)
         have q229 : (ji6) < (l0_13.length : Int) := of_decide_eq_true (by first | (with_reducible assumption) | assumption)
         obtain ⟨ad229, A229_0, c229_0, e229, hx229_0, hl229_0, hi229_0⟩ := at_L1 HR0_13.out (ji6) p229 q229
         cases e229
         replace hx229_0 := (HB.out.cell (World.block_lt_of_cell? w _ hx229_0)).trans hx229_0
         have HR229_0 := Aside0.mk hi229_0
         have HC229_0 := Aside0.mk hl229_0
         clear hi229_0 hl229_0
         replace p229 := eq_true p229
         replace q229 := eq_true q229
         have p230 : 0 ≤ (x7_1 : Int) := of_decide_eq_true (by first | (with_reducible assumption) | assumption)
         have q230 : x7_1 < ((rd_L1 l0_13 (ji6)).length : Int) := of_decide_eq_true (by first | (with_reducible assumption) | assumption)
         obtain ⟨ad230, e230, hx230_0⟩ := Kd.at_int HR229_0.out x7_1 p230 q230
         cases e230
         replace hx230_0 := (HB.out.cell (World.block_lt_of_cell? w _ hx230_0)).trans hx230_0
         replace p230 := eq_true p230
         replace q230 := eq_true q230
         go_wp2
         go_roundg k1
         case measure => have := HK1.out; omega
         case rel => exact ⟨(wrap64 (x7_1 + 1)), (by first | rfl | (simp; done) | (simp [*]; done)), H', ⟨by have := HK1.out; omega⟩, ⟨bkt BK228.out⟩, ⟨bel HB.out⟩⟩
       ·rw [if_neg c10] at H
        exact absurd H (by simp)
      ·rw [if_neg c9] at H
       exact absurd H (by simp)
     ·rw [if_neg c8] at H
      exact absurd H (by simp)
    ·rw [if_neg c7] at H
     exact absurd H (by simp)
   ·as_aux_lemma =>
    rw [if_neg c5] at H
    have c5b0 : decide (x7_1 < a0_12) = false := decide_eq_false c5
    clear c5
    obtain rfl := Option.some.inj H
    have hcz14_0 := cz25 BK228.out
    have hfz14_0 := blk_frozen BK228.out
    go_wp2
    go_ret
    exact bfin (bel HB.out)

end Go.Proofs.Ytmdcjmackhjchaa.P
end

section
-- Printed by wip/myprint.py of this repo (over the kit's printer). Not trusted: Lean checks it.
namespace Go.Proofs.Ytmdcjmackhjchaa.P
open Go.RowKit Go.Proofs.YtmdcjmackhjchaaW.PrintWords Go.Proofs.YtmdcjmackhjchaaW.PrintLast Go.Proofs.YtmdcjmackhjchaaW.PrintMore
attribute [local go_sem] cell_same1 cell_some1 ix27_0 ix27_1 ix27_2
attribute [local go_sem] max2_int min2_int max_two min_two max_three min_three max_four min_four   -- for this text's walks alone
set_option linter.unusedVariables false
set_option linter.unusedSimpArgs false

/-! ### r27_Times: function 25 -/
def r27_Times.f (k : Nat) (a0_0 : Int) (l0_1 : List Int) (a0_2 : Int) (a0_3 : Int) (a0_4 : Int) (a0_5 : Int) (a0_6 : Int) (a0_7 : Int) (a0_8 : Int) (a0_9 : Int) (a0_10 : Int) (a0_11 : Int) (a0_12 : Int) (l0_13 : List (List Int)) (a0_14 : Int) (a0_15 : Int) (a0_16 : Int) (a0_17 : Int) (a0_18 : Int) (a0_19 : Int) (a0_20 : Int) (a0_21 : Int) (a0_22 : Int) (l0_23 : List Int) (a0_24 : Int) : Option (Int × Int × Int × Int × Int × Int) := (r27_Check.f k a0_0 l0_1 a0_2 a0_3 a0_4 a0_5 a0_6 a0_7 a0_8 a0_9 a0_10 a0_11 a0_12 l0_13 a0_14 a0_15 a0_16 a0_17 a0_18 a0_19 a0_20 a0_21 a0_22 l0_23 a0_24).bind fun t260 => (if t260 = 0 then ((r07_Height.f k l0_1).bind fun bt261 => ((r18_Worst.f a0_6 a0_7 a0_8).bind fun bt263 => ((r27_way.f k a0_0 l0_1 a0_2 a0_3 a0_4 a0_5 a0_6 a0_7 a0_8 a0_9 a0_10 a0_11 a0_12 l0_13 a0_14 a0_15 a0_16 a0_17 a0_18 a0_19 a0_20 a0_21 a0_22 l0_23 a0_24 bt261.1).bind fun t265 => (some (t265, bt263.1, wrap64 (t265 + bt263.1), wrap64 (t265 + (wrap64 ((wrap64 (a0_11 + 1)) * (wrap64 (t265 + bt263.1))))), wrap64 (a0_12 * (wrap64 (t265 + (wrap64 ((wrap64 (a0_11 + 1)) * (wrap64 (t265 + bt263.1))))))), 0))))) else (some (0, 0, 0, 0, 0, t260)))
theorem r27_Times.mono : ∀ a0 a1 a2 a3 a4 a5 a6 a7 a8 a9 a10 a11 a12 a13 a14 a15 a16 a17 a18 a19 a20 a21 a22 a23 a24 k, LeO (r27_Times.f k a0 a1 a2 a3 a4 a5 a6 a7 a8 a9 a10 a11 a12 a13 a14 a15 a16 a17 a18 a19 a20 a21 a22 a23 a24) (r27_Times.f (k + 1) a0 a1 a2 a3 a4 a5 a6 a7 a8 a9 a10 a11 a12 a13 a14 a15 a16 a17 a18 a19 a20 a21 a22 a23 a24) := by
 intro a0 a1 a2 a3 a4 a5 a6 a7 a8 a9 a10 a11 a12 a13 a14 a15 a16 a17 a18 a19 a20 a21 a22 a23 a24 k
 unfold r27_Times.f
 repeat' first
   | (with_reducible exact r07_Height.mono _ _)
   | (with_reducible exact r27_Check.mono _ _ _ _ _ _ _ _ _ _ _ _ _ _ _ _ _ _ _ _ _ _ _ _ _ _)
   | (with_reducible exact r27_way.mono _ _ _ _ _ _ _ _ _ _ _ _ _ _ _ _ _ _ _ _ _ _ _ _ _ _ _)
   | (with_reducible exact LeO.refl _)
   | (with_reducible exact LeO.none _)
   | (with_reducible refine LeO.ite ?_ ?_)
   | (with_reducible refine LeO.bind ?_ (fun _ => ?_))
   | exact r07_Height.mono _ _
   | exact r27_Check.mono _ _ _ _ _ _ _ _ _ _ _ _ _ _ _ _ _ _ _ _ _ _ _ _ _ _
   | exact r27_way.mono _ _ _ _ _ _ _ _ _ _ _ _ _ _ _ _ _ _ _ _ _ _ _ _ _ _ _
   | exact LeO.none _
   | refine LeO.ite ?_ ?_
   | refine LeO.bind ?_ (fun _ => ?_)
set_option maxHeartbeats 8000000 in
set_option maxRecDepth 100000 in
theorem r27_Times.calls (k : Nat) (a0_0 : Int) (A0_1 : Option Addr) (c0_1 : Nat) (l0_1 : List Int) (a0_2 : Int) (a0_3 : Int) (a0_4 : Int) (a0_5 : Int) (a0_6 : Int) (a0_7 : Int) (a0_8 : Int) (a0_9 : Int) (a0_10 : Int) (a0_11 : Int) (a0_12 : Int) (A0_13 : Option Addr) (c0_13 : Nat) (l0_13 : List (List Int)) (a0_14 : Int) (a0_15 : Int) (a0_16 : Int) (a0_17 : Int) (a0_18 : Int) (a0_19 : Int) (a0_20 : Int) (a0_21 : Int) (a0_22 : Int) (A0_23 : Option Addr) (c0_23 : Nat) (l0_23 : List Int) (a0_24 : Int) (r1 : Int) (r2 : Int) (r3 : Int) (r4 : Int) (r5 : Int) (r6 : Int) (w : World) (hr0_1 : Kd.C (Kd.int .i64) w A0_1 l0_1.length l0_1) (hc0_1 : l0_1.length ≤ c0_1) (hr0_13 : Kd.C (Kd.slice 3 (Kd.int .i64)) w A0_13 l0_13.length l0_13) (hc0_13 : l0_13.length ≤ c0_13) (hr0_23 : Kd.C (Kd.int .i64) w A0_23 l0_23.length l0_23) (hc0_23 : l0_23.length ≤ c0_23) (h : r27_Times.f k a0_0 l0_1 a0_2 a0_3 a0_4 a0_5 a0_6 a0_7 a0_8 a0_9 a0_10 a0_11 a0_12 l0_13 a0_14 a0_15 a0_16 a0_17 a0_18 a0_19 a0_20 a0_21 a0_22 l0_23 a0_24 = some (r1, r2, r3, r4, r5, r6)) :
  Calls Try.prog 25 #[.agg #[.int .i64 a0_0, .slice A0_1 l0_1.length c0_1, .int .i64 a0_2, .int .i64 a0_3, .int .i64 a0_4, .int .i64 a0_5, .int .i64 a0_6, .int .i64 a0_7, .int .i64 a0_8, .int .i64 a0_9, .int .i64 a0_10, .int .i64 a0_11, .int .i64 a0_12, .slice A0_13 l0_13.length c0_13, .int .u64 a0_14, .int .i64 a0_15, .int .i64 a0_16, .int .u64 a0_17, .int .i64 a0_18, .int .i64 a0_19, .int .u64 a0_20, .int .i64 a0_21, .int .i64 a0_22, .slice A0_23 l0_23.length c0_23, .int .i64 a0_24]] w fun e w' => e = .returned (.tuple #[.agg #[.int .i64 r1, .int .i64 r2, .int .i64 r3, .int .i64 r4, .int .i64 r5], .int .i64 r6]) ∧ Below w.heap.size w w' := by
 have H := h
 unfold r27_Times.f at H
 obtain ⟨e, hC, H⟩ := Option.bind_eq_some_iff.mp H
 by_cases he : e = 0
 ·subst he
  rw [if_pos rfl] at H
  obtain ⟨⟨x1, x2⟩, hH, H⟩ := Option.bind_eq_some_iff.mp H
  obtain ⟨⟨dv, de⟩, hD, H⟩ := Option.bind_eq_some_iff.mp H
  obtain ⟨mv, hW, H⟩ := Option.bind_eq_some_iff.mp H
  simp only [Option.some.injEq, Prod.mk.injEq] at H
  obtain ⟨rfl, rfl, rfl, rfl, rfl, rfl⟩ := H
  exact timesR_ok ⟨a0_0, .slice A0_1 l0_1.length c0_1, a0_2, a0_3, a0_4, a0_5, a0_6, a0_7, a0_8, a0_9, a0_10, a0_11, a0_12, .slice A0_13 l0_13.length c0_13, .int .u64 a0_14, a0_15, a0_16, .int .u64 a0_17, a0_18, a0_19, .int .u64 a0_20, a0_21, a0_22, .slice A0_23 l0_23.length c0_23, a0_24⟩ x1 x2 mv dv de _ _ _ _ _ w rfl rfl rfl rfl rfl
   (fun W hB => r27_Check.calls k a0_0 _ _ l0_1 a0_2 a0_3 a0_4 a0_5 a0_6 a0_7 a0_8 a0_9 a0_10 a0_11 a0_12 _ _ l0_13 a0_14 a0_15 a0_16 a0_17 a0_18 a0_19 a0_20 a0_21 a0_22 _ _ l0_23 a0_24 0 W (Kd.C_below hr0_1 hB) hc0_1 (Kd.C_below hr0_13 hB) hc0_13 (Kd.C_below hr0_23 hB) hc0_23 hC)
   (fun W hB => r07_Height.calls k _ _ l0_1 x1 x2 W (Kd.C_below hr0_1 hB) hc0_1 hH)
   (fun W hB => r27_way.calls k a0_0 _ _ l0_1 a0_2 a0_3 a0_4 a0_5 a0_6 a0_7 a0_8 a0_9 a0_10 a0_11 a0_12 _ _ l0_13 a0_14 a0_15 a0_16 a0_17 a0_18 a0_19 a0_20 a0_21 a0_22 _ _ l0_23 a0_24 x1 mv W (Kd.C_below hr0_1 hB) hc0_1 (Kd.C_below hr0_13 hB) hc0_13 (Kd.C_below hr0_23 hB) hc0_23 hW)
   (fun W hB => r18_Worst.calls a0_6 a0_7 a0_8 dv de W hD)
 ·rw [if_neg he] at H
  simp only [Option.some.injEq, Prod.mk.injEq] at H
  obtain ⟨rfl, rfl, rfl, rfl, rfl, rfl⟩ := H
  exact timesR_bad ⟨a0_0, .slice A0_1 l0_1.length c0_1, a0_2, a0_3, a0_4, a0_5, a0_6, a0_7, a0_8, a0_9, a0_10, a0_11, a0_12, .slice A0_13 l0_13.length c0_13, .int .u64 a0_14, a0_15, a0_16, .int .u64 a0_17, a0_18, a0_19, .int .u64 a0_20, a0_21, a0_22, .slice A0_23 l0_23.length c0_23, a0_24⟩ _ w he (fun W hB => r27_Check.calls k a0_0 _ _ l0_1 a0_2 a0_3 a0_4 a0_5 a0_6 a0_7 a0_8 a0_9 a0_10 a0_11 a0_12 _ _ l0_13 a0_14 a0_15 a0_16 a0_17 a0_18 a0_19 a0_20 a0_21 a0_22 _ _ l0_23 a0_24 _ W (Kd.C_below hr0_1 hB) hc0_1 (Kd.C_below hr0_13 hB) hc0_13 (Kd.C_below hr0_23 hB) hc0_23 hC)

end Go.Proofs.Ytmdcjmackhjchaa.P
end
