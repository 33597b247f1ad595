import Derived.Test.YtmdcjmackhjchaaZaq
import Derived.Test.YtmdcjmackhjchaaZad
import Derived.Test.YtmdcjmackhjchaaZai
import Derived.Test.YtmdcjmackhjchaaZap
import Derived.Test.YtmdcjmackhjchaaZao
section
/- bound.Ticks, walked by hand: its four ways, over what its calls answer. -/
namespace Go.Proofs.Ytmdcjmackhjchaa.P
open Go.RowKit Go.Proofs.YtmdcjmackhjchaaW.PrintWords Go.Proofs.YtmdcjmackhjchaaW.PrintLast Go.Proofs.YtmdcjmackhjchaaW.PrintMore
attribute [local go_sem] cell_same1 cell_some1
set_option linter.unusedVariables false
set_option linter.unusedSimpArgs false

/-- What the walk knows of the world. -/
structure TK (w : World) (c : Cfg) (d : Int) (g2 g3 : Nat) (W : World) : Prop where
 b2 : W.heap[g2]? = some (.cells c.cells 29)
 b3 : W.heap[g3]? = some (.cells #[.int .i64 d] 3)
 be : Below w.heap.size w W
theorem TK.step {w : World} {c : Cfg} {d : Int} {g2 g3 : Nat} {W W' : World} (h : TK w c d g2 g3 W) (hb : Below W.heap.size W W') : TK w c d g2 g3 W' :=
 ⟨blk_below h.b2 hb, blk_below h.b3 hb, below_step h.be hb⟩

set_option maxHeartbeats 4000000 in
set_option maxRecDepth 100000 in
theorem ticks_e1 (c : Cfg) (d sh x : Int) (w : World) (hx : ¬ x = 0)
  (HS : ∀ W, Below w.heap.size w W → Calls Try.prog 8 #[.agg c.cells] W fun e w' => e = .returned (.tuple #[.int .i64 sh, .int .i64 x]) ∧ Below W.heap.size W w') :
  Calls Try.prog 10 #[.agg c.cells, .int .i64 d] w fun e w' => e = .returned (.tuple #[.int .i64 0, .int .i64 x]) ∧ Below w.heap.size w w' := by
 have hx0 : (x == 0) = false := beq_eq_false_iff_ne.mpr hx
 have hx1 : (x != 0) = true := bne_iff_ne.mpr hx
 have hu29 := Try.underlying29
 have hu42 := Try.underlying42
 have HS := Aside0.mk HS
 have HB := Aside0.mk (Below.refl w.heap.size w)
 go_enter Try.func10, Try.ntmps10
 go_upto_region 2 with (first | ((with_reducible refine gate_dst (N := 2) rfl ?_); refine bxe (cs := c.cells) (t := 29) ?_; intro g2 hg w1 hbox hb; have B2 := Aside0.mk hbox; replace HB := Aside0.mk (bst HB.out hb); clear hb hbox hg) | ((with_reducible refine gate_dst (N := 3) rfl ?_); refine bxe (cs := #[.int .i64 d]) (t := 3) ?_; intro g3 hg w2 hbox hb; have B3 := Aside0.mk hbox; replace B2 := Aside0.mk (bkb B2.out hb); replace HB := Aside0.mk (bst HB.out hb); clear hb hbox hg) | ((with_reducible refine gate_dst (N := 10) rfl ?_); refine lwx (g := g2) (bkt B2.out) ?_) | (go_at_call 8; (with_reducible refine (HS.out _ (bel HB.out)).mono ?_); rintro e w3 ⟨rfl, hb⟩; replace B2 := Aside0.mk (bkb B2.out hb); replace B3 := Aside0.mk (bkb B3.out hb); replace HB := Aside0.mk (bst HB.out hb); clear hb))
 refine wp_abs (TK w c d g2 g3) ⟨bkt B2.out, bkt B3.out, bel HB.out⟩ (fun W4 h4 => ?_)
 clear B2 B3 HB
 have H4 := Aside0.mk h4
 have h3 : W4.cell? ⟨g3, 0, none⟩ = some (.int .i64 d) := (blk_cell h4.b3 0).trans rfl
 have h13 : W4.cell? ⟨g2, 13, none⟩ = some c.rota := (blk_cell h4.b2 13).trans rfl
 clear h4
 go_wp2
 go_ret2
 exact ⟨rfl, H4.out.be⟩
set_option maxHeartbeats 4000000 in
set_option maxRecDepth 100000 in
theorem ticks_e2 (c : Cfg) (d sh x : Int) (w : World) (hx : ¬ x = 0)
  (HS : ∀ W, Below w.heap.size w W → Calls Try.prog 8 #[.agg c.cells] W fun e w' => e = .returned (.tuple #[.int .i64 sh, .int .i64 0]) ∧ Below W.heap.size W w')
  (HD : bound_domains.f d = some x) :
  Calls Try.prog 10 #[.agg c.cells, .int .i64 d] w fun e w' => e = .returned (.tuple #[.int .i64 0, .int .i64 x]) ∧ Below w.heap.size w w' := by
 have hx0 : (x == 0) = false := beq_eq_false_iff_ne.mpr hx
 have hx1 : (x != 0) = true := bne_iff_ne.mpr hx
 have HD := Aside0.mk HD
 have hu29 := Try.underlying29
 have hu42 := Try.underlying42
 have HS := Aside0.mk HS
 have HB := Aside0.mk (Below.refl w.heap.size w)
 go_enter Try.func10, Try.ntmps10
 go_upto_region 2 with (first | ((with_reducible refine gate_dst (N := 2) rfl ?_); refine bxe (cs := c.cells) (t := 29) ?_; intro g2 hg w1 hbox hb; have B2 := Aside0.mk hbox; replace HB := Aside0.mk (bst HB.out hb); clear hb hbox hg) | ((with_reducible refine gate_dst (N := 3) rfl ?_); refine bxe (cs := #[.int .i64 d]) (t := 3) ?_; intro g3 hg w2 hbox hb; have B3 := Aside0.mk hbox; replace B2 := Aside0.mk (bkb B2.out hb); replace HB := Aside0.mk (bst HB.out hb); clear hb hbox hg) | ((with_reducible refine gate_dst (N := 10) rfl ?_); refine lwx (g := g2) (bkt B2.out) ?_) | (go_at_call 8; (with_reducible refine (HS.out _ (bel HB.out)).mono ?_); rintro e w3 ⟨rfl, hb⟩; replace B2 := Aside0.mk (bkb B2.out hb); replace B3 := Aside0.mk (bkb B3.out hb); replace HB := Aside0.mk (bst HB.out hb); clear hb))
 refine wp_abs (TK w c d g2 g3) ⟨bkt B2.out, bkt B3.out, bel HB.out⟩ (fun W4 h4 => ?_)
 clear B2 B3 HB
 have H4 := Aside0.mk h4
 have h3 : W4.cell? ⟨g3, 0, none⟩ = some (.int .i64 d) := (blk_cell h4.b3 0).trans rfl
 have h13 : W4.cell? ⟨g2, 13, none⟩ = some c.rota := (blk_cell h4.b2 13).trans rfl
 clear h4
 go_wp2_with (go_at_call 20; (with_reducible refine (bound_domains.calls d x _ HD.out).mono ?_); rintro e w5 ⟨rfl, ⟨nd, rfl⟩⟩)
 go_ret2
 exact ⟨rfl, bel H4.out.be⟩
set_option maxHeartbeats 4000000 in
set_option maxRecDepth 100000 in
theorem ticks_e3 (c : Cfg) (d sh : Int) (w : World)
  (HS : ∀ W, Below w.heap.size w W → Calls Try.prog 8 #[.agg c.cells] W fun e w' => e = .returned (.tuple #[.int .i64 sh, .int .i64 0]) ∧ Below W.heap.size W w')
  (HD : bound_domains.f d = some 0)
  (HX : ∀ W, Below w.heap.size w W → ∀ b, W.heap[b]? = some (.cells #[.int .i64 d] 3) → Calls Try.prog 21 #[c.rota, .func (.func 22) #[] #[.pointer (some ⟨b, 0, none⟩)]] W fun e w' => e = .returned (.bool false) ∧ w' = W) :
  Calls Try.prog 10 #[.agg c.cells, .int .i64 d] w fun e w' => e = .returned (.tuple #[.int .i64 0, .int .i64 6]) ∧ Below w.heap.size w w' := by
 have HD := Aside0.mk HD
 have HX := Aside0.mk HX
 have hu29 := Try.underlying29
 have hu42 := Try.underlying42
 have HS := Aside0.mk HS
 have HB := Aside0.mk (Below.refl w.heap.size w)
 go_enter Try.func10, Try.ntmps10
 go_upto_region 2 with (first | ((with_reducible refine gate_dst (N := 2) rfl ?_); refine bxe (cs := c.cells) (t := 29) ?_; intro g2 hg w1 hbox hb; have B2 := Aside0.mk hbox; replace HB := Aside0.mk (bst HB.out hb); clear hb hbox hg) | ((with_reducible refine gate_dst (N := 3) rfl ?_); refine bxe (cs := #[.int .i64 d]) (t := 3) ?_; intro g3 hg w2 hbox hb; have B3 := Aside0.mk hbox; replace B2 := Aside0.mk (bkb B2.out hb); replace HB := Aside0.mk (bst HB.out hb); clear hb hbox hg) | ((with_reducible refine gate_dst (N := 10) rfl ?_); refine lwx (g := g2) (bkt B2.out) ?_) | (go_at_call 8; (with_reducible refine (HS.out _ (bel HB.out)).mono ?_); rintro e w3 ⟨rfl, hb⟩; replace B2 := Aside0.mk (bkb B2.out hb); replace B3 := Aside0.mk (bkb B3.out hb); replace HB := Aside0.mk (bst HB.out hb); clear hb))
 refine wp_abs (TK w c d g2 g3) ⟨bkt B2.out, bkt B3.out, bel HB.out⟩ (fun W4 h4 => ?_)
 clear B2 B3 HB
 have H4 := Aside0.mk h4
 have h3 : W4.cell? ⟨g3, 0, none⟩ = some (.int .i64 d) := (blk_cell h4.b3 0).trans rfl
 have h13 : W4.cell? ⟨g2, 13, none⟩ = some c.rota := (blk_cell h4.b2 13).trans rfl
 clear h4
 go_upto_region 6 with (go_at_call 20; (with_reducible refine (bound_domains.calls d 0 _ HD.out).mono ?_); rintro e w5 ⟨rfl, ⟨nd, rfl⟩⟩)
 go_wp2_with (go_at_call 21; (with_reducible refine (HX.out _ (bel H4.out.be) g3 (bkt H4.out.b3)).mono ?_); rintro e w5 ⟨rfl, rfl⟩)
 go_ret2
 exact ⟨rfl, bel H4.out.be⟩
theorem ixa (w : World) (g o i : Nat) (h : i < 3) : Sem.run Try.prog (Instr.indexAt 27 (.pointer (some ⟨g, o, none⟩)) (.int .i64 i)) w = .ok (.pointer (some ⟨g, o + i * 3, none⟩)) w := by
 have h1 := Try.underlying27
 have h2 := Try.underlying26
 rcases i with _ | _ | _ | i
 ·simp [Instr.indexAt, go_sem, h1]
 ·simp [Instr.indexAt, go_sem, h1]
 ·simp [Instr.indexAt, go_sem, h1]
 ·omega
set_option maxHeartbeats 4000000 in
set_option maxRecDepth 100000 in
theorem ticks_ok (c : Cfg) (n : Nat) (hn : n < 3) (sh mv dv tr sl cy x k p q r s : Int) (w : World)
  (hk : c.cells[14 + n * 3 + 2]? = some (.int .i64 k)) (hsh : ¬ sh = 0) (q1 : wrap64 (k + sh) = p) (q2 : wrap64 (p - 1) = q) (q3 : wrap64 (Int.tdiv q sh) = r) (q4 : wrap64 (wrap64 (r + 4) * cy) = s)
  (HS : ∀ W, Below w.heap.size w W → Calls Try.prog 8 #[.agg c.cells] W fun e w' => e = .returned (.tuple #[.int .i64 sh, .int .i64 0]) ∧ Below W.heap.size W w')
  (HD : bound_domains.f ((n : Int) + 1) = some 0)
  (HX : ∀ W, Below w.heap.size w W → ∀ b, W.heap[b]? = some (.cells #[.int .i64 ((n : Int) + 1)] 3) → Calls Try.prog 21 #[c.rota, .func (.func 22) #[] #[.pointer (some ⟨b, 0, none⟩)]] W fun e w' => e = .returned (.bool true) ∧ w' = W)
  (HT : ∀ W, Below w.heap.size w W → Calls Try.prog 15 #[.agg c.cells] W fun e w' => e = .returned (.tuple #[.agg #[.int .i64 mv, .int .i64 dv, .int .i64 tr, .int .i64 sl, .int .i64 cy], .int .i64 x]) ∧ Below W.heap.size W w') :
  Calls Try.prog 10 #[.agg c.cells, .int .i64 ((n : Int) + 1)] w fun e w' => e = .returned (.tuple #[.int .i64 s, .int .i64 x]) ∧ Below w.heap.size w w' := by
 have HD := Aside0.mk HD
 have HX := Aside0.mk HX
 have HT := Aside0.mk HT
 have HK := Aside0.mk hk
 have Q1 := Aside0.mk q1
 have Q2 := Aside0.mk q2
 have Q3 := Aside0.mk q3
 have Q4 := Aside0.mk q4
 have HSH := Aside0.mk hsh
 clear q1 q2 q3 q4 hk hsh
 obtain ⟨d, hd⟩ : ∃ d : Int, d = (n : Int) + 1 := ⟨_, rfl⟩
 rw [← hd] at HD HX ⊢
 have HDD := Aside0.mk hd
 clear hd
 have hu29 := Try.underlying29
 have hu42 := Try.underlying42
 have HS := Aside0.mk HS
 have HB := Aside0.mk (Below.refl w.heap.size w)
 go_enter Try.func10, Try.ntmps10
 go_upto_region 2 with (first | ((with_reducible refine gate_dst (N := 2) rfl ?_); refine bxe (cs := c.cells) (t := 29) ?_; intro g2 hg w1 hbox hb; have B2 := Aside0.mk hbox; replace HB := Aside0.mk (bst HB.out hb); clear hb hbox hg) | ((with_reducible refine gate_dst (N := 3) rfl ?_); refine bxe (cs := #[.int .i64 d]) (t := 3) ?_; intro g3 hg w2 hbox hb; have B3 := Aside0.mk hbox; replace B2 := Aside0.mk (bkb B2.out hb); replace HB := Aside0.mk (bst HB.out hb); clear hb hbox hg) | ((with_reducible refine gate_dst (N := 10) rfl ?_); refine lwx (g := g2) (bkt B2.out) ?_) | (go_at_call 8; (with_reducible refine (HS.out _ (bel HB.out)).mono ?_); rintro e w3 ⟨rfl, hb⟩; replace B2 := Aside0.mk (bkb B2.out hb); replace B3 := Aside0.mk (bkb B3.out hb); replace HB := Aside0.mk (bst HB.out hb); clear hb))
 refine wp_abs (TK w c d g2 g3) ⟨bkt B2.out, bkt B3.out, bel HB.out⟩ (fun W4 h4 => ?_)
 clear B2 B3 HB
 have H4 := Aside0.mk h4
 have h3 : W4.cell? ⟨g3, 0, none⟩ = some (.int .i64 d) := (blk_cell h4.b3 0).trans rfl
 have h13 : W4.cell? ⟨g2, 13, none⟩ = some c.rota := (blk_cell h4.b2 13).trans rfl
 clear h4
 go_upto_region 6 with (go_at_call 20; (with_reducible refine (bound_domains.calls d 0 _ HD.out).mono ?_); rintro e w5 ⟨rfl, ⟨nd, rfl⟩⟩)
 go_upto_region 8 with (go_at_call 21; (with_reducible refine (HX.out _ (bel H4.out.be) g3 (bkt H4.out.b3)).mono ?_); rintro e w5 ⟨rfl, rfl⟩)
 refine wp_abs (TK w c d g2 g3) ⟨bkt H4.out.b2, bkt H4.out.b3, bel H4.out.be⟩ (fun W5 h5 => ?_)
 clear H4 h3 h13
 have H5 := Aside0.mk h5
 clear h5
 go_upto_region 9 with (first | ((with_reducible refine gate_dst (N := 27) rfl ?_); refine lwx (g := g2) H5.out.b2 ?_) | (go_at_call 15; (with_reducible refine (HT.out _ (bel H5.out.be)).mono ?_); rintro e w6 ⟨rfl, hb⟩; replace H5 := Aside0.mk (H5.out.step hb); clear hb))
 refine wp_abs (fun W => TK w c d g2 g3 W ∧ W.heap[w6.heap.size]? = some (.cells #[.int .i64 mv, .int .i64 dv, .int .i64 tr, .int .i64 sl, .int .i64 cy] 42)) ⟨⟨blk_alloc H5.out.b2 _, blk_alloc H5.out.b3 _, below_alloc H5.out.be _⟩, blk_new _ _⟩ (fun W6 h6 => ?_)
 clear H5
 generalize w6.heap.size = g8 at h6 ⊢
 have H6 := Aside0.mk h6
 have h3 : W6.cell? ⟨g3, 0, none⟩ = some (.int .i64 d) := (blk_cell h6.1.b3 0).trans rfl
 have h8 : W6.cell? ⟨g8, 4, none⟩ = some (.int .i64 cy) := (blk_cell h6.2 4).trans rfl
 have hk2 : W6.cell? ⟨g2, 14 + n * 3 + 2, none⟩ = some (.int .i64 k) := (blk_cell h6.1.b2 _).trans HK.out
 clear h6
 have hd1 : IntKind.i64.wrap (d - 1) = (n : Int) := by rw [HDD.out, i64_w]; unfold wrap64; omega
 have hix := fun W => ixa W g2 14 n hn
 have hp : IntKind.i64.wrap (k + sh) = p := (i64_w _).trans Q1.out
 have hq : IntKind.i64.wrap (p - 1) = q := (i64_w _).trans Q2.out
 have hr : IntKind.i64.wrap (Int.tdiv q sh) = r := (i64_w _).trans Q3.out
 have hsh := HSH.out
 obtain ⟨r4, hr4⟩ : ∃ x, wrap64 (r + 4) = x := ⟨_, rfl⟩
 have hr4' : IntKind.i64.wrap (r + 4) = r4 := (i64_w _).trans hr4
 have hs : IntKind.i64.wrap (r4 * cy) = s := by rw [← hr4]; exact (i64_w _).trans Q4.out
 clear hr4
 go_quiet (fail)
 go_wp2
 go_ret2
 exact ⟨rfl, bel H6.out.1.be⟩
end Go.Proofs.Ytmdcjmackhjchaa.P
end

section
-- Printed by wip/myprint.py of this repo (over the kit's printer). Not trusted: Lean checks it.
namespace Go.Proofs.Ytmdcjmackhjchaa.P
open Go.RowKit Go.Proofs.YtmdcjmackhjchaaW.PrintWords Go.Proofs.YtmdcjmackhjchaaW.PrintLast Go.Proofs.YtmdcjmackhjchaaW.PrintMore
attribute [local go_sem] cell_same1 cell_some1 ix27_0 ix27_1 ix27_2
attribute [local go_sem] max2_int min2_int max_two min_two max_three min_three max_four min_four   -- for this text's walks alone
set_option linter.unusedVariables false
set_option linter.unusedSimpArgs false

/-! ### bound_Share: function 8 -/
def bound_Share.f (a0_0 : Int) (l0_1 : List Int) (a0_2 : Int) (a0_3 : Int) (a0_4 : Int) (a0_5 : Int) (a0_6 : Int) (a0_7 : Int) (a0_8 : Int) (a0_9 : Int) (a0_10 : Int) (a0_11 : Int) (a0_12 : Int) (l0_13 : List (List Int)) (a0_14 : Int) (a0_15 : Int) (a0_16 : Int) (a0_17 : Int) (a0_18 : Int) (a0_19 : Int) (a0_20 : Int) (a0_21 : Int) (a0_22 : Int) (l0_23 : List Int) (a0_24 : Int) : Option (Int × Int) := (config_Check.f a0_0 l0_1 a0_2 a0_3 a0_4 a0_5 a0_6 a0_7 a0_8 a0_9 a0_10 a0_11 a0_12 l0_13 a0_14 a0_15 a0_16 a0_17 a0_18 a0_19 a0_20 a0_21 a0_22 l0_23 a0_24).bind fun t129 => (if t129 = 0 then (some (wrap64 (Int.tdiv (wrap64 (a0_11 + 1)) 2), 0)) else (some (0, t129)))
set_option maxHeartbeats 8000000 in
set_option maxRecDepth 100000 in
theorem bound_Share.calls (a0_0 : Int) (A0_1 : Option Addr) (c0_1 : Nat) (l0_1 : List Int) (a0_2 : Int) (a0_3 : Int) (a0_4 : Int) (a0_5 : Int) (a0_6 : Int) (a0_7 : Int) (a0_8 : Int) (a0_9 : Int) (a0_10 : Int) (a0_11 : Int) (a0_12 : Int) (A0_13 : Option Addr) (c0_13 : Nat) (l0_13 : List (List Int)) (a0_14 : Int) (a0_15 : Int) (a0_16 : Int) (a0_17 : Int) (a0_18 : Int) (a0_19 : Int) (a0_20 : Int) (a0_21 : Int) (a0_22 : Int) (A0_23 : Option Addr) (c0_23 : Nat) (l0_23 : List Int) (a0_24 : Int) (r1 : Int) (r2 : Int) (w : World) (hr0_1 : Kd.C (Kd.int .i64) w A0_1 l0_1.length l0_1) (hc0_1 : l0_1.length ≤ c0_1) (hr0_13 : Kd.C (Kd.slice 3 (Kd.int .i64)) w A0_13 l0_13.length l0_13) (hc0_13 : l0_13.length ≤ c0_13) (hr0_23 : Kd.C (Kd.int .i64) w A0_23 l0_23.length l0_23) (hc0_23 : l0_23.length ≤ c0_23) (h : bound_Share.f a0_0 l0_1 a0_2 a0_3 a0_4 a0_5 a0_6 a0_7 a0_8 a0_9 a0_10 a0_11 a0_12 l0_13 a0_14 a0_15 a0_16 a0_17 a0_18 a0_19 a0_20 a0_21 a0_22 l0_23 a0_24 = some (r1, r2)) :
  Calls Try.prog 8 #[.agg #[.int .i64 a0_0, .slice A0_1 l0_1.length c0_1, .int .i64 a0_2, .int .i64 a0_3, .int .i64 a0_4, .int .i64 a0_5, .int .i64 a0_6, .int .i64 a0_7, .int .i64 a0_8, .int .i64 a0_9, .int .i64 a0_10, .int .i64 a0_11, .int .i64 a0_12, .slice A0_13 l0_13.length c0_13, .int .u64 a0_14, .int .i64 a0_15, .int .i64 a0_16, .int .u64 a0_17, .int .i64 a0_18, .int .i64 a0_19, .int .u64 a0_20, .int .i64 a0_21, .int .i64 a0_22, .slice A0_23 l0_23.length c0_23, .int .i64 a0_24]] w fun e w' => e = .returned (.tuple #[.int .i64 r1, .int .i64 r2]) ∧ Below w.heap.size w w' := by
 have hu29 := Try.underlying29
 have HR0_1 := Aside0.mk hr0_1
 have HC0_1 := Aside0.mk hc0_1
 clear hr0_1 hc0_1
 have HR0_13 := Aside0.mk hr0_13
 have HC0_13 := Aside0.mk hc0_13
 clear hr0_13 hc0_13
 have HR0_23 := Aside0.mk hr0_23
 have HC0_23 := Aside0.mk hc0_23
 clear hr0_23 hc0_23
 have HB := Aside0.mk (Below.refl w.heap.size w)
 have H : ((config_Check.f a0_0 l0_1 a0_2 a0_3 a0_4 a0_5 a0_6 a0_7 a0_8 a0_9 a0_10 a0_11 a0_12 l0_13 a0_14 a0_15 a0_16 a0_17 a0_18 a0_19 a0_20 a0_21 a0_22 l0_23 a0_24).bind fun t129 => (if t129 = 0 then (some (wrap64 (Int.tdiv (wrap64 (a0_11 + 1)) 2), 0)) else (some (0, t129)))) = some (r1, r2) := h
 clear h
 replace H := Option.bind_eq_some_iff.mp H
 obtain ⟨t129, A20, H⟩ := H
 replace H : (if t129 = 0 then (some (wrap64 (Int.tdiv (wrap64 (a0_11 + 1)) 2), 0)) else (some (0, t129))) = some (r1, r2) := H
 have A2 := Aside0.mk A20
 clear A20
 by_cases c3 : t129 = 0
 ·as_aux_lemma =>
  rw [if_pos c3] at H
  have c3b0 : (t129 == 0) = true := beq_iff_eq.mpr c3
  have c3b1 : (t129 != 0) = false := bne_eq_false_iff_eq.mpr c3
  clear c3
  simp only [Option.some.injEq, Prod.mk.injEq] at H
  obtain ⟨rfl, rfl⟩ := H
  go_enter Try.func8, Try.ntmps8
  go_wp2_with (first | ((with_reducible refine gate_dst (N := 5) rfl ?_); (first | refine lwx (g := gb128) (cs := [.int .i64 a0_0, .slice A0_1 l0_1.length c0_1, .int .i64 a0_2, .int .i64 a0_3, .int .i64 a0_4, .int .i64 a0_5, .int .i64 a0_6, .int .i64 a0_7, .int .i64 a0_8, .int .i64 a0_9, .int .i64 a0_10, .int .i64 a0_11, .int .i64 a0_12, .slice A0_13 l0_13.length c0_13, .int .u64 a0_14, .int .i64 a0_15, .int .i64 a0_16, .int .u64 a0_17, .int .i64 a0_18, .int .i64 a0_19, .int .u64 a0_20, .int .i64 a0_21, .int .i64 a0_22, .slice A0_23 l0_23.length c0_23, .int .i64 a0_24]) (bkt BK128.out) ?_ | refine lwx (g := gb128) BK128.out ?_ | refine lwx2 (g := gb128) (blk_set (bkt BK128.out) _ _) ?_)) | ((with_reducible refine gate_dst (N := 1) rfl ?_); refine bxe (cs := #[.int .i64 a0_0, .slice A0_1 l0_1.length c0_1, .int .i64 a0_2, .int .i64 a0_3, .int .i64 a0_4, .int .i64 a0_5, .int .i64 a0_6, .int .i64 a0_7, .int .i64 a0_8, .int .i64 a0_9, .int .i64 a0_10, .int .i64 a0_11, .int .i64 a0_12, .slice A0_13 l0_13.length c0_13, .int .u64 a0_14, .int .i64 a0_15, .int .i64 a0_16, .int .u64 a0_17, .int .i64 a0_18, .int .i64 a0_19, .int .u64 a0_20, .int .i64 a0_21, .int .i64 a0_22, .slice A0_23 l0_23.length c0_23, .int .i64 a0_24]) (t := 29) ?_; intro gb128 hg w4 hbox hb; have BK128 := Aside0.mk (hbox); have GW128 := Aside0.mk (bge hg HB.out); have GE128 := Aside0.mk (bge hg HB.out); replace HB := Aside0.mk (bst HB.out hb); clear hb hbox hg; have hcz5_0 := cz25 BK128.out; have hfz5_0 := blk_frozen BK128.out) | ((with_reducible refine gate_callee (f := 18) rfl ?_); refine gsl (some 6) Try.func18 #[.agg #[.int .i64 a0_0, .slice A0_1 l0_1.length c0_1, .int .i64 a0_2, .int .i64 a0_3, .int .i64 a0_4, .int .i64 a0_5, .int .i64 a0_6, .int .i64 a0_7, .int .i64 a0_8, .int .i64 a0_9, .int .i64 a0_10, .int .i64 a0_11, .int .i64 a0_12, .slice A0_13 l0_13.length c0_13, .int .u64 a0_14, .int .i64 a0_15, .int .i64 a0_16, .int .u64 a0_17, .int .i64 a0_18, .int .i64 a0_19, .int .u64 a0_20, .int .i64 a0_21, .int .i64 a0_22, .slice A0_23 l0_23.length c0_23, .int .i64 a0_24]] ?_; (with_reducible refine (config_Check.calls a0_0 _ _ l0_1 a0_2 a0_3 a0_4 a0_5 a0_6 a0_7 a0_8 a0_9 a0_10 a0_11 a0_12 _ _ l0_13 a0_14 a0_15 a0_16 a0_17 a0_18 a0_19 a0_20 a0_21 a0_22 _ _ l0_23 a0_24 t129 _ ?side1 ?side2 ?side3 ?side4 ?side5 ?side6 A2.out).mono ?_); (case side1 => repeat (first | exact (Kd.C_below HR0_1.out HB.out) | (with_reducible refine Kd.C_alloc ?_ _) | (with_reducible refine Kd.C_drewN ?_ _) | (with_reducible refine Kd.C_drew ?_))); (case side2 => exact HC0_1.out); (case side3 => repeat (first | exact (Kd.C_below HR0_13.out HB.out) | (with_reducible refine Kd.C_alloc ?_ _) | (with_reducible refine Kd.C_drewN ?_ _) | (with_reducible refine Kd.C_drew ?_))); (case side4 => exact HC0_13.out); (case side5 => repeat (first | exact (Kd.C_below HR0_23.out HB.out) | (with_reducible refine Kd.C_alloc ?_ _) | (with_reducible refine Kd.C_drewN ?_ _) | (with_reducible refine Kd.C_drew ?_))); (case side6 => exact HC0_23.out); rintro e w6 ⟨rfl, hb⟩; refine ⟨_, rfl, ?_⟩; replace BK128 := Aside0.mk (bkb BK128.out hb); replace HB := Aside0.mk (bst HB.out hb); (try clear hb); (try clear hb2); (try clear hk); (try clear hi); have hcz7_0 := cz25 BK128.out; have hfz7_0 := blk_frozen BK128.out))
  go_ret2
  exact bfin (bel HB.out)
 ·as_aux_lemma =>
  rw [if_neg c3] at H
  have c3b0 : (t129 == 0) = false := beq_eq_false_iff_ne.mpr c3
  have c3b1 : (t129 != 0) = true := bne_iff_ne.mpr c3
  simp only [Option.some.injEq, Prod.mk.injEq] at H
  obtain ⟨rfl, rfl⟩ := H
  go_enter Try.func8, Try.ntmps8
  go_wp2_with (first | ((with_reducible refine gate_dst (N := 5) rfl ?_); (first | refine lwx (g := gb128) (cs := [.int .i64 a0_0, .slice A0_1 l0_1.length c0_1, .int .i64 a0_2, .int .i64 a0_3, .int .i64 a0_4, .int .i64 a0_5, .int .i64 a0_6, .int .i64 a0_7, .int .i64 a0_8, .int .i64 a0_9, .int .i64 a0_10, .int .i64 a0_11, .int .i64 a0_12, .slice A0_13 l0_13.length c0_13, .int .u64 a0_14, .int .i64 a0_15, .int .i64 a0_16, .int .u64 a0_17, .int .i64 a0_18, .int .i64 a0_19, .int .u64 a0_20, .int .i64 a0_21, .int .i64 a0_22, .slice A0_23 l0_23.length c0_23, .int .i64 a0_24]) (bkt BK128.out) ?_ | refine lwx (g := gb128) BK128.out ?_ | refine lwx2 (g := gb128) (blk_set (bkt BK128.out) _ _) ?_)) | ((with_reducible refine gate_dst (N := 1) rfl ?_); refine bxe (cs := #[.int .i64 a0_0, .slice A0_1 l0_1.length c0_1, .int .i64 a0_2, .int .i64 a0_3, .int .i64 a0_4, .int .i64 a0_5, .int .i64 a0_6, .int .i64 a0_7, .int .i64 a0_8, .int .i64 a0_9, .int .i64 a0_10, .int .i64 a0_11, .int .i64 a0_12, .slice A0_13 l0_13.length c0_13, .int .u64 a0_14, .int .i64 a0_15, .int .i64 a0_16, .int .u64 a0_17, .int .i64 a0_18, .int .i64 a0_19, .int .u64 a0_20, .int .i64 a0_21, .int .i64 a0_22, .slice A0_23 l0_23.length c0_23, .int .i64 a0_24]) (t := 29) ?_; intro gb128 hg w8 hbox hb; have BK128 := Aside0.mk (hbox); have GW128 := Aside0.mk (bge hg HB.out); have GE128 := Aside0.mk (bge hg HB.out); replace HB := Aside0.mk (bst HB.out hb); clear hb hbox hg; have hcz9_0 := cz25 BK128.out; have hfz9_0 := blk_frozen BK128.out) | ((with_reducible refine gate_callee (f := 18) rfl ?_); refine gsl (some 6) Try.func18 #[.agg #[.int .i64 a0_0, .slice A0_1 l0_1.length c0_1, .int .i64 a0_2, .int .i64 a0_3, .int .i64 a0_4, .int .i64 a0_5, .int .i64 a0_6, .int .i64 a0_7, .int .i64 a0_8, .int .i64 a0_9, .int .i64 a0_10, .int .i64 a0_11, .int .i64 a0_12, .slice A0_13 l0_13.length c0_13, .int .u64 a0_14, .int .i64 a0_15, .int .i64 a0_16, .int .u64 a0_17, .int .i64 a0_18, .int .i64 a0_19, .int .u64 a0_20, .int .i64 a0_21, .int .i64 a0_22, .slice A0_23 l0_23.length c0_23, .int .i64 a0_24]] ?_; (with_reducible refine (config_Check.calls a0_0 _ _ l0_1 a0_2 a0_3 a0_4 a0_5 a0_6 a0_7 a0_8 a0_9 a0_10 a0_11 a0_12 _ _ l0_13 a0_14 a0_15 a0_16 a0_17 a0_18 a0_19 a0_20 a0_21 a0_22 _ _ l0_23 a0_24 t129 _ ?side1 ?side2 ?side3 ?side4 ?side5 ?side6 A2.out).mono ?_); (case side1 => repeat (first | exact (Kd.C_below HR0_1.out HB.out) | (with_reducible refine Kd.C_alloc ?_ _) | (with_reducible refine Kd.C_drewN ?_ _) | (with_reducible refine Kd.C_drew ?_))); (case side2 => exact HC0_1.out); (case side3 => repeat (first | exact (Kd.C_below HR0_13.out HB.out) | (with_reducible refine Kd.C_alloc ?_ _) | (with_reducible refine Kd.C_drewN ?_ _) | (with_reducible refine Kd.C_drew ?_))); (case side4 => exact HC0_13.out); (case side5 => repeat (first | exact (Kd.C_below HR0_23.out HB.out) | (with_reducible refine Kd.C_alloc ?_ _) | (with_reducible refine Kd.C_drewN ?_ _) | (with_reducible refine Kd.C_drew ?_))); (case side6 => exact HC0_23.out); rintro e w10 ⟨rfl, hb⟩; refine ⟨_, rfl, ?_⟩; replace BK128 := Aside0.mk (bkb BK128.out hb); replace HB := Aside0.mk (bst HB.out hb); (try clear hb); (try clear hb2); (try clear hk); (try clear hi)))
  go_ret2
  exact bfin (bel HB.out)

end Go.Proofs.Ytmdcjmackhjchaa.P
end

section
-- Printed by wip/myprint.py of this repo (over the kit's printer). Not trusted: Lean checks it.
namespace Go.Proofs.Ytmdcjmackhjchaa.P
open Go.RowKit Go.Proofs.YtmdcjmackhjchaaW.PrintWords Go.Proofs.YtmdcjmackhjchaaW.PrintLast Go.Proofs.YtmdcjmackhjchaaW.PrintMore
attribute [local go_sem] cell_same1 cell_some1 ix27_0 ix27_1 ix27_2
attribute [local go_sem] max2_int min2_int max_two min_two max_three min_three max_four min_four   -- for this text's walks alone
set_option linter.unusedVariables false
set_option linter.unusedSimpArgs false

/-! ### config_way: function 28 -/
def config_way.f (a0_0 : Int) (l0_1 : List Int) (a0_2 : Int) (a0_3 : Int) (a0_4 : Int) (a0_5 : Int) (a0_6 : Int) (a0_7 : Int) (a0_8 : Int) (a0_9 : Int) (a0_10 : Int) (a0_11 : Int) (a0_12 : Int) (l0_13 : List (List Int)) (a0_14 : Int) (a0_15 : Int) (a0_16 : Int) (a0_17 : Int) (a0_18 : Int) (a0_19 : Int) (a0_20 : Int) (a0_21 : Int) (a0_22 : Int) (l0_23 : List Int) (a0_24 : Int) (a1 : Int) : Option (Int) := if a1 = 0 then (some 0) else ((profile_Travel.f a1 a0_3).bind fun bt139 => (some (wrap64 (bt139.1 + (wrap64 (2 * a0_4))))))
set_option maxHeartbeats 8000000 in
set_option maxRecDepth 100000 in
theorem config_way.calls (a0_0 : Int) (A0_1 : Option Addr) (c0_1 : Nat) (l0_1 : List Int) (a0_2 : Int) (a0_3 : Int) (a0_4 : Int) (a0_5 : Int) (a0_6 : Int) (a0_7 : Int) (a0_8 : Int) (a0_9 : Int) (a0_10 : Int) (a0_11 : Int) (a0_12 : Int) (A0_13 : Option Addr) (c0_13 : Nat) (l0_13 : List (List Int)) (a0_14 : Int) (a0_15 : Int) (a0_16 : Int) (a0_17 : Int) (a0_18 : Int) (a0_19 : Int) (a0_20 : Int) (a0_21 : Int) (a0_22 : Int) (A0_23 : Option Addr) (c0_23 : Nat) (l0_23 : List Int) (a0_24 : Int) (a1 : Int) (r : Int) (w : World) (hr0_1 : Kd.C (Kd.int .i64) w A0_1 l0_1.length l0_1) (hc0_1 : l0_1.length ≤ c0_1) (hr0_13 : Kd.C (Kd.slice 3 (Kd.int .i64)) w A0_13 l0_13.length l0_13) (hc0_13 : l0_13.length ≤ c0_13) (hr0_23 : Kd.C (Kd.int .i64) w A0_23 l0_23.length l0_23) (hc0_23 : l0_23.length ≤ c0_23) (h : config_way.f a0_0 l0_1 a0_2 a0_3 a0_4 a0_5 a0_6 a0_7 a0_8 a0_9 a0_10 a0_11 a0_12 l0_13 a0_14 a0_15 a0_16 a0_17 a0_18 a0_19 a0_20 a0_21 a0_22 l0_23 a0_24 a1 = some r) :
  Calls Try.prog 28 #[.agg #[.int .i64 a0_0, .slice A0_1 l0_1.length c0_1, .int .i64 a0_2, .int .i64 a0_3, .int .i64 a0_4, .int .i64 a0_5, .int .i64 a0_6, .int .i64 a0_7, .int .i64 a0_8, .int .i64 a0_9, .int .i64 a0_10, .int .i64 a0_11, .int .i64 a0_12, .slice A0_13 l0_13.length c0_13, .int .u64 a0_14, .int .i64 a0_15, .int .i64 a0_16, .int .u64 a0_17, .int .i64 a0_18, .int .i64 a0_19, .int .u64 a0_20, .int .i64 a0_21, .int .i64 a0_22, .slice A0_23 l0_23.length c0_23, .int .i64 a0_24], .int .i64 a1] w fun e w' => e = .returned (.int .i64 r) ∧ Below w.heap.size w w' := by
 have hu29 := Try.underlying29
 have HR0_1 := Aside0.mk hr0_1
 have HC0_1 := Aside0.mk hc0_1
 clear hr0_1 hc0_1
 have HR0_13 := Aside0.mk hr0_13
 have HC0_13 := Aside0.mk hc0_13
 clear hr0_13 hc0_13
 have HR0_23 := Aside0.mk hr0_23
 have HC0_23 := Aside0.mk hc0_23
 clear hr0_23 hc0_23
 have HB := Aside0.mk (Below.refl w.heap.size w)
 have H : (if a1 = 0 then (some 0) else ((profile_Travel.f a1 a0_3).bind fun bt139 => (some (wrap64 (bt139.1 + (wrap64 (2 * a0_4))))))) = some r := h
 clear h
 by_cases c3 : a1 = 0
 ·as_aux_lemma =>
  rw [if_pos c3] at H
  have c3b0 : (a1 == 0) = true := beq_iff_eq.mpr c3
  have c3b1 : (a1 != 0) = false := bne_eq_false_iff_eq.mpr c3
  clear c3
  obtain rfl := Option.some.inj H
  go_enter Try.func28, Try.ntmps28
  go_wp2_with (first | ((with_reducible refine gate_dst (N := 2) rfl ?_); refine bxe (cs := #[.int .i64 a0_0, .slice A0_1 l0_1.length c0_1, .int .i64 a0_2, .int .i64 a0_3, .int .i64 a0_4, .int .i64 a0_5, .int .i64 a0_6, .int .i64 a0_7, .int .i64 a0_8, .int .i64 a0_9, .int .i64 a0_10, .int .i64 a0_11, .int .i64 a0_12, .slice A0_13 l0_13.length c0_13, .int .u64 a0_14, .int .i64 a0_15, .int .i64 a0_16, .int .u64 a0_17, .int .i64 a0_18, .int .i64 a0_19, .int .u64 a0_20, .int .i64 a0_21, .int .i64 a0_22, .slice A0_23 l0_23.length c0_23, .int .i64 a0_24]) (t := 29) ?_; intro gb138 hg w4 hbox hb; have BK138 := Aside0.mk (hbox); have GW138 := Aside0.mk (bge hg HB.out); have GE138 := Aside0.mk (bge hg HB.out); replace HB := Aside0.mk (bst HB.out hb); clear hb hbox hg))
  go_ret
  exact bfin (bel HB.out)
 ·as_aux_lemma =>
  rw [if_neg c3] at H
  have c3b0 : (a1 == 0) = false := beq_eq_false_iff_ne.mpr c3
  have c3b1 : (a1 != 0) = true := bne_iff_ne.mpr c3
  replace H := Option.bind_eq_some_iff.mp H
  obtain ⟨⟨t139, t140⟩, A50, H⟩ := H
  replace H : (some (wrap64 (t139 + (wrap64 (2 * a0_4))))) = some r := H
  have A5 := Aside0.mk A50
  clear A50
  obtain rfl := Option.some.inj H
  go_enter Try.func28, Try.ntmps28
  go_wp2_with (first | ((with_reducible refine gate_dst (N := 2) rfl ?_); refine bxe (cs := #[.int .i64 a0_0, .slice A0_1 l0_1.length c0_1, .int .i64 a0_2, .int .i64 a0_3, .int .i64 a0_4, .int .i64 a0_5, .int .i64 a0_6, .int .i64 a0_7, .int .i64 a0_8, .int .i64 a0_9, .int .i64 a0_10, .int .i64 a0_11, .int .i64 a0_12, .slice A0_13 l0_13.length c0_13, .int .u64 a0_14, .int .i64 a0_15, .int .i64 a0_16, .int .u64 a0_17, .int .i64 a0_18, .int .i64 a0_19, .int .u64 a0_20, .int .i64 a0_21, .int .i64 a0_22, .slice A0_23 l0_23.length c0_23, .int .i64 a0_24]) (t := 29) ?_; intro gb138 hg w6 hbox hb; have BK138 := Aside0.mk (hbox); have GW138 := Aside0.mk (bge hg HB.out); have GE138 := Aside0.mk (bge hg HB.out); replace HB := Aside0.mk (bst HB.out hb); clear hb hbox hg; have hcz7_0 := cz25 BK138.out; have hfz7_0 := blk_frozen BK138.out) | ((with_reducible refine gate_callee (f := 43) rfl ?_); refine gsl (some 13) Try.func43 #[.int .i64 a1, .int .i64 a0_3] ?_; (with_reducible refine (profile_Travel.calls a1 a0_3 t139 t140 _ A5.out).mono ?_); rintro e w8 ⟨rfl, hb⟩; refine ⟨_, rfl, ?_⟩; replace BK138 := Aside0.mk (bkb BK138.out hb); replace HB := Aside0.mk (bst HB.out hb); (try clear hb); (try clear hb2); (try clear hk); (try clear hi); have hcz9_0 := cz25 BK138.out; have hfz9_0 := blk_frozen BK138.out))
  go_ret
  exact bfin (bel HB.out)

end Go.Proofs.Ytmdcjmackhjchaa.P
end

section
-- Printed by wip/myprint.py of this repo (over the kit's printer). Not trusted: Lean checks it.
namespace Go.Proofs.Ytmdcjmackhjchaa.P
open Go.RowKit Go.Proofs.YtmdcjmackhjchaaW.PrintWords Go.Proofs.YtmdcjmackhjchaaW.PrintLast Go.Proofs.YtmdcjmackhjchaaW.PrintMore
attribute [local go_sem] cell_same1 cell_some1 ix27_0 ix27_1 ix27_2
attribute [local go_sem] max2_int min2_int max_two min_two max_three min_three max_four min_four   -- for this text's walks alone
set_option linter.unusedVariables false
set_option linter.unusedSimpArgs false

/-! ### config_Times: function 15 -/
def config_Times.f (a0_0 : Int) (l0_1 : List Int) (a0_2 : Int) (a0_3 : Int) (a0_4 : Int) (a0_5 : Int) (a0_6 : Int) (a0_7 : Int) (a0_8 : Int) (a0_9 : Int) (a0_10 : Int) (a0_11 : Int) (a0_12 : Int) (l0_13 : List (List Int)) (a0_14 : Int) (a0_15 : Int) (a0_16 : Int) (a0_17 : Int) (a0_18 : Int) (a0_19 : Int) (a0_20 : Int) (a0_21 : Int) (a0_22 : Int) (l0_23 : List Int) (a0_24 : Int) : Option (Int × Int × Int × Int × Int × Int) := (config_Check.f a0_0 l0_1 a0_2 a0_3 a0_4 a0_5 a0_6 a0_7 a0_8 a0_9 a0_10 a0_11 a0_12 l0_13 a0_14 a0_15 a0_16 a0_17 a0_18 a0_19 a0_20 a0_21 a0_22 l0_23 a0_24).bind fun t146 => (if t146 = 0 then ((shaft_Height.f l0_1).bind fun bt147 => ((config_way.f a0_0 l0_1 a0_2 a0_3 a0_4 a0_5 a0_6 a0_7 a0_8 a0_9 a0_10 a0_11 a0_12 l0_13 a0_14 a0_15 a0_16 a0_17 a0_18 a0_19 a0_20 a0_21 a0_22 l0_23 a0_24 bt147.1).bind fun t149 => ((door_Worst.f a0_6 a0_7 a0_8).bind fun bt151 => (some (t149, bt151.1, wrap64 (t149 + bt151.1), wrap64 (t149 + (wrap64 ((wrap64 (a0_11 + 1)) * (wrap64 (t149 + bt151.1))))), wrap64 (a0_12 * (wrap64 (t149 + (wrap64 ((wrap64 (a0_11 + 1)) * (wrap64 (t149 + bt151.1))))))), 0))))) else (some (0, 0, 0, 0, 0, t146)))
set_option maxHeartbeats 8000000 in
set_option maxRecDepth 100000 in
theorem config_Times.calls (a0_0 : Int) (A0_1 : Option Addr) (c0_1 : Nat) (l0_1 : List Int) (a0_2 : Int) (a0_3 : Int) (a0_4 : Int) (a0_5 : Int) (a0_6 : Int) (a0_7 : Int) (a0_8 : Int) (a0_9 : Int) (a0_10 : Int) (a0_11 : Int) (a0_12 : Int) (A0_13 : Option Addr) (c0_13 : Nat) (l0_13 : List (List Int)) (a0_14 : Int) (a0_15 : Int) (a0_16 : Int) (a0_17 : Int) (a0_18 : Int) (a0_19 : Int) (a0_20 : Int) (a0_21 : Int) (a0_22 : Int) (A0_23 : Option Addr) (c0_23 : Nat) (l0_23 : List Int) (a0_24 : Int) (r1 : Int) (r2 : Int) (r3 : Int) (r4 : Int) (r5 : Int) (r6 : Int) (w : World) (hr0_1 : Kd.C (Kd.int .i64) w A0_1 l0_1.length l0_1) (hc0_1 : l0_1.length ≤ c0_1) (hr0_13 : Kd.C (Kd.slice 3 (Kd.int .i64)) w A0_13 l0_13.length l0_13) (hc0_13 : l0_13.length ≤ c0_13) (hr0_23 : Kd.C (Kd.int .i64) w A0_23 l0_23.length l0_23) (hc0_23 : l0_23.length ≤ c0_23) (h : config_Times.f a0_0 l0_1 a0_2 a0_3 a0_4 a0_5 a0_6 a0_7 a0_8 a0_9 a0_10 a0_11 a0_12 l0_13 a0_14 a0_15 a0_16 a0_17 a0_18 a0_19 a0_20 a0_21 a0_22 l0_23 a0_24 = some (r1, r2, r3, r4, r5, r6)) :
  Calls Try.prog 15 #[.agg #[.int .i64 a0_0, .slice A0_1 l0_1.length c0_1, .int .i64 a0_2, .int .i64 a0_3, .int .i64 a0_4, .int .i64 a0_5, .int .i64 a0_6, .int .i64 a0_7, .int .i64 a0_8, .int .i64 a0_9, .int .i64 a0_10, .int .i64 a0_11, .int .i64 a0_12, .slice A0_13 l0_13.length c0_13, .int .u64 a0_14, .int .i64 a0_15, .int .i64 a0_16, .int .u64 a0_17, .int .i64 a0_18, .int .i64 a0_19, .int .u64 a0_20, .int .i64 a0_21, .int .i64 a0_22, .slice A0_23 l0_23.length c0_23, .int .i64 a0_24]] w fun e w' => e = .returned (.tuple #[.agg #[.int .i64 r1, .int .i64 r2, .int .i64 r3, .int .i64 r4, .int .i64 r5], .int .i64 r6]) ∧ Below w.heap.size w w' := by
 have H := h
 unfold config_Times.f at H
 obtain ⟨e, hC, H⟩ := Option.bind_eq_some_iff.mp H
 by_cases he : e = 0
 ·subst he
  rw [if_pos rfl] at H
  obtain ⟨⟨x1, x2⟩, hH, H⟩ := Option.bind_eq_some_iff.mp H
  obtain ⟨mv, hW, H⟩ := Option.bind_eq_some_iff.mp H
  obtain ⟨⟨dv, de⟩, hD, H⟩ := Option.bind_eq_some_iff.mp H
  simp only [Option.some.injEq, Prod.mk.injEq] at H
  obtain ⟨rfl, rfl, rfl, rfl, rfl, rfl⟩ := H
  exact times_ok ⟨a0_0, .slice A0_1 l0_1.length c0_1, a0_2, a0_3, a0_4, a0_5, a0_6, a0_7, a0_8, a0_9, a0_10, a0_11, a0_12, .slice A0_13 l0_13.length c0_13, .int .u64 a0_14, a0_15, a0_16, .int .u64 a0_17, a0_18, a0_19, .int .u64 a0_20, a0_21, a0_22, .slice A0_23 l0_23.length c0_23, a0_24⟩ x1 x2 mv dv de _ _ _ _ _ w rfl rfl rfl rfl rfl
   (fun W hB => config_Check.calls a0_0 _ _ l0_1 a0_2 a0_3 a0_4 a0_5 a0_6 a0_7 a0_8 a0_9 a0_10 a0_11 a0_12 _ _ l0_13 a0_14 a0_15 a0_16 a0_17 a0_18 a0_19 a0_20 a0_21 a0_22 _ _ l0_23 a0_24 0 W (Kd.C_below hr0_1 hB) hc0_1 (Kd.C_below hr0_13 hB) hc0_13 (Kd.C_below hr0_23 hB) hc0_23 hC)
   (fun W hB => shaft_Height.calls _ _ l0_1 x1 x2 W (Kd.C_below hr0_1 hB) hc0_1 hH)
   (fun W hB => config_way.calls a0_0 _ _ l0_1 a0_2 a0_3 a0_4 a0_5 a0_6 a0_7 a0_8 a0_9 a0_10 a0_11 a0_12 _ _ l0_13 a0_14 a0_15 a0_16 a0_17 a0_18 a0_19 a0_20 a0_21 a0_22 _ _ l0_23 a0_24 x1 mv W (Kd.C_below hr0_1 hB) hc0_1 (Kd.C_below hr0_13 hB) hc0_13 (Kd.C_below hr0_23 hB) hc0_23 hW)
   (fun W hB => door_Worst.calls a0_6 a0_7 a0_8 dv de W hD)
 ·rw [if_neg he] at H
  simp only [Option.some.injEq, Prod.mk.injEq] at H
  obtain ⟨rfl, rfl, rfl, rfl, rfl, rfl⟩ := H
  exact times_bad ⟨a0_0, .slice A0_1 l0_1.length c0_1, a0_2, a0_3, a0_4, a0_5, a0_6, a0_7, a0_8, a0_9, a0_10, a0_11, a0_12, .slice A0_13 l0_13.length c0_13, .int .u64 a0_14, a0_15, a0_16, .int .u64 a0_17, a0_18, a0_19, .int .u64 a0_20, a0_21, a0_22, .slice A0_23 l0_23.length c0_23, a0_24⟩ _ w he (fun W hB => config_Check.calls a0_0 _ _ l0_1 a0_2 a0_3 a0_4 a0_5 a0_6 a0_7 a0_8 a0_9 a0_10 a0_11 a0_12 _ _ l0_13 a0_14 a0_15 a0_16 a0_17 a0_18 a0_19 a0_20 a0_21 a0_22 _ _ l0_23 a0_24 _ W (Kd.C_below hr0_1 hB) hc0_1 (Kd.C_below hr0_13 hB) hc0_13 (Kd.C_below hr0_23 hB) hc0_23 hC)

end Go.Proofs.Ytmdcjmackhjchaa.P
end

section
/- bound.Ticks: what it answers. -/
namespace Go.Proofs.Ytmdcjmackhjchaa.P
open Go.RowKit Go.Proofs.YtmdcjmackhjchaaW.PrintWords Go.Proofs.YtmdcjmackhjchaaW.PrintLast Go.Proofs.YtmdcjmackhjchaaW.PrintMore
set_option linter.unusedVariables false

def bound_Ticks.f (a0_0 : Int) (l0_1 : List Int) (a0_2 : Int) (a0_3 : Int) (a0_4 : Int) (a0_5 : Int) (a0_6 : Int) (a0_7 : Int) (a0_8 : Int) (a0_9 : Int) (a0_10 : Int) (a0_11 : Int) (a0_12 : Int) (l0_13 : List (List Int)) (a0_14 : Int) (a0_15 : Int) (a0_16 : Int) (a0_17 : Int) (a0_18 : Int) (a0_19 : Int) (a0_20 : Int) (a0_21 : Int) (a0_22 : Int) (l0_23 : List Int) (a0_24 : Int) (a1 : Int) : Option (Int × Int) :=
 (bound_Share.f a0_0 l0_1 a0_2 a0_3 a0_4 a0_5 a0_6 a0_7 a0_8 a0_9 a0_10 a0_11 a0_12 l0_13 a0_14 a0_15 a0_16 a0_17 a0_18 a0_19 a0_20 a0_21 a0_22 l0_23 a0_24).bind fun s => if s.2 = 0 then
  (bound_domains.f a1).bind fun e => if e = 0 then
   (if (l0_13.any fun x => hasv x a1) = true then
    (config_Times.f a0_0 l0_1 a0_2 a0_3 a0_4 a0_5 a0_6 a0_7 a0_8 a0_9 a0_10 a0_11 a0_12 l0_13 a0_14 a0_15 a0_16 a0_17 a0_18 a0_19 a0_20 a0_21 a0_22 l0_23 a0_24).bind fun t =>
     if s.1 = 0 then none else some (wrap64 (wrap64 (wrap64 (Int.tdiv (wrap64 (wrap64 ((if a1 = 1 then a0_16 else if a1 = 2 then a0_19 else a0_22) + s.1) - 1)) s.1) + 4) * t.2.2.2.2.1), t.2.2.2.2.2)
   else some (0, 6))
  else some (0, e)
 else some (0, s.2)
theorem dom_ok {d : Int} (h : bound_domains.f d = some 0) : d = 1 ∨ d = 2 ∨ d = 3 := by
 unfold bound_domains.f at h
 by_cases h1 : d < 1
 ·rw [if_pos h1] at h; simp at h
 ·by_cases h2 : d > 3
  ·rw [if_neg h1, if_pos h2] at h; simp at h
  ·omega
theorem bound_Ticks.calls (a0_0 : Int) (A0_1 : Option Addr) (c0_1 : Nat) (l0_1 : List Int) (a0_2 : Int) (a0_3 : Int) (a0_4 : Int) (a0_5 : Int) (a0_6 : Int) (a0_7 : Int) (a0_8 : Int) (a0_9 : Int) (a0_10 : Int) (a0_11 : Int) (a0_12 : Int) (A0_13 : Option Addr) (c0_13 : Nat) (l0_13 : List (List Int)) (a0_14 : Int) (a0_15 : Int) (a0_16 : Int) (a0_17 : Int) (a0_18 : Int) (a0_19 : Int) (a0_20 : Int) (a0_21 : Int) (a0_22 : Int) (A0_23 : Option Addr) (c0_23 : Nat) (l0_23 : List Int) (a0_24 : Int) (a1 : Int) (r1 : Int) (r2 : Int) (w : World) (hr0_1 : Kd.C (Kd.int .i64) w A0_1 l0_1.length l0_1) (hc0_1 : l0_1.length ≤ c0_1) (hr0_13 : Kd.C (Kd.slice 3 (Kd.int .i64)) w A0_13 l0_13.length l0_13) (hc0_13 : l0_13.length ≤ c0_13) (hr0_23 : Kd.C (Kd.int .i64) w A0_23 l0_23.length l0_23) (hc0_23 : l0_23.length ≤ c0_23) (h : bound_Ticks.f a0_0 l0_1 a0_2 a0_3 a0_4 a0_5 a0_6 a0_7 a0_8 a0_9 a0_10 a0_11 a0_12 l0_13 a0_14 a0_15 a0_16 a0_17 a0_18 a0_19 a0_20 a0_21 a0_22 l0_23 a0_24 a1 = some (r1, r2)) :
  Calls Try.prog 10 #[.agg #[.int .i64 a0_0, .slice A0_1 l0_1.length c0_1, .int .i64 a0_2, .int .i64 a0_3, .int .i64 a0_4, .int .i64 a0_5, .int .i64 a0_6, .int .i64 a0_7, .int .i64 a0_8, .int .i64 a0_9, .int .i64 a0_10, .int .i64 a0_11, .int .i64 a0_12, .slice A0_13 l0_13.length c0_13, .int .u64 a0_14, .int .i64 a0_15, .int .i64 a0_16, .int .u64 a0_17, .int .i64 a0_18, .int .i64 a0_19, .int .u64 a0_20, .int .i64 a0_21, .int .i64 a0_22, .slice A0_23 l0_23.length c0_23, .int .i64 a0_24], .int .i64 a1] w fun e w' => e = .returned (.tuple #[.int .i64 r1, .int .i64 r2]) ∧ Below w.heap.size w w' := by
 have H := h
 unfold bound_Ticks.f at H
 obtain ⟨⟨sh, e⟩, hS, H⟩ := Option.bind_eq_some_iff.mp H
 by_cases he : e = 0
 ·subst he
  rw [if_pos rfl] at H
  obtain ⟨x, hD, H⟩ := Option.bind_eq_some_iff.mp H
  by_cases hx : x = 0
  ·subst hx
   rw [if_pos rfl] at H
   cases hq : (l0_13.any fun x => hasv x a1) with
   | true =>
    rw [if_pos hq] at H
    obtain ⟨⟨mv, dv, tr, sl, cy, x⟩, hT, H⟩ := Option.bind_eq_some_iff.mp H
    by_cases hsh : sh = 0
    ·rw [if_pos hsh] at H; simp at H
    rw [if_neg hsh] at H
    simp only [Option.some.injEq, Prod.mk.injEq] at H
    obtain ⟨rfl, rfl⟩ := H
    rcases dom_ok hD with rfl | rfl | rfl
    ·exact ticks_ok ⟨a0_0, .slice A0_1 l0_1.length c0_1, a0_2, a0_3, a0_4, a0_5, a0_6, a0_7, a0_8, a0_9, a0_10, a0_11, a0_12, .slice A0_13 l0_13.length c0_13, .int .u64 a0_14, a0_15, a0_16, .int .u64 a0_17, a0_18, a0_19, .int .u64 a0_20, a0_21, a0_22, .slice A0_23 l0_23.length c0_23, a0_24⟩ 0 (by omega) sh mv dv tr sl cy x a0_16 _ _ _ _ w rfl hsh rfl rfl rfl rfl (fun W hB => bound_Share.calls a0_0 _ _ l0_1 a0_2 a0_3 a0_4 a0_5 a0_6 a0_7 a0_8 a0_9 a0_10 a0_11 a0_12 _ _ l0_13 a0_14 a0_15 a0_16 a0_17 a0_18 a0_19 a0_20 a0_21 a0_22 _ _ l0_23 a0_24 sh 0 W (Kd.C_below hr0_1 hB) hc0_1 (Kd.C_below hr0_13 hB) hc0_13 (Kd.C_below hr0_23 hB) hc0_23 hS) hD
      (fun W hB b hb => by have z := slots_any2 A0_13 c0_13 l0_13 1 b W (Kd.C_below hr0_13 hB) hb; rw [hq] at z; exact z) (fun W hB => config_Times.calls a0_0 _ _ l0_1 a0_2 a0_3 a0_4 a0_5 a0_6 a0_7 a0_8 a0_9 a0_10 a0_11 a0_12 _ _ l0_13 a0_14 a0_15 a0_16 a0_17 a0_18 a0_19 a0_20 a0_21 a0_22 _ _ l0_23 a0_24 mv dv tr sl cy x W (Kd.C_below hr0_1 hB) hc0_1 (Kd.C_below hr0_13 hB) hc0_13 (Kd.C_below hr0_23 hB) hc0_23 hT)
    ·exact ticks_ok ⟨a0_0, .slice A0_1 l0_1.length c0_1, a0_2, a0_3, a0_4, a0_5, a0_6, a0_7, a0_8, a0_9, a0_10, a0_11, a0_12, .slice A0_13 l0_13.length c0_13, .int .u64 a0_14, a0_15, a0_16, .int .u64 a0_17, a0_18, a0_19, .int .u64 a0_20, a0_21, a0_22, .slice A0_23 l0_23.length c0_23, a0_24⟩ 1 (by omega) sh mv dv tr sl cy x a0_19 _ _ _ _ w rfl hsh rfl rfl rfl rfl (fun W hB => bound_Share.calls a0_0 _ _ l0_1 a0_2 a0_3 a0_4 a0_5 a0_6 a0_7 a0_8 a0_9 a0_10 a0_11 a0_12 _ _ l0_13 a0_14 a0_15 a0_16 a0_17 a0_18 a0_19 a0_20 a0_21 a0_22 _ _ l0_23 a0_24 sh 0 W (Kd.C_below hr0_1 hB) hc0_1 (Kd.C_below hr0_13 hB) hc0_13 (Kd.C_below hr0_23 hB) hc0_23 hS) hD
      (fun W hB b hb => by have z := slots_any2 A0_13 c0_13 l0_13 2 b W (Kd.C_below hr0_13 hB) hb; rw [hq] at z; exact z) (fun W hB => config_Times.calls a0_0 _ _ l0_1 a0_2 a0_3 a0_4 a0_5 a0_6 a0_7 a0_8 a0_9 a0_10 a0_11 a0_12 _ _ l0_13 a0_14 a0_15 a0_16 a0_17 a0_18 a0_19 a0_20 a0_21 a0_22 _ _ l0_23 a0_24 mv dv tr sl cy x W (Kd.C_below hr0_1 hB) hc0_1 (Kd.C_below hr0_13 hB) hc0_13 (Kd.C_below hr0_23 hB) hc0_23 hT)
    ·exact ticks_ok ⟨a0_0, .slice A0_1 l0_1.length c0_1, a0_2, a0_3, a0_4, a0_5, a0_6, a0_7, a0_8, a0_9, a0_10, a0_11, a0_12, .slice A0_13 l0_13.length c0_13, .int .u64 a0_14, a0_15, a0_16, .int .u64 a0_17, a0_18, a0_19, .int .u64 a0_20, a0_21, a0_22, .slice A0_23 l0_23.length c0_23, a0_24⟩ 2 (by omega) sh mv dv tr sl cy x a0_22 _ _ _ _ w rfl hsh rfl rfl rfl rfl (fun W hB => bound_Share.calls a0_0 _ _ l0_1 a0_2 a0_3 a0_4 a0_5 a0_6 a0_7 a0_8 a0_9 a0_10 a0_11 a0_12 _ _ l0_13 a0_14 a0_15 a0_16 a0_17 a0_18 a0_19 a0_20 a0_21 a0_22 _ _ l0_23 a0_24 sh 0 W (Kd.C_below hr0_1 hB) hc0_1 (Kd.C_below hr0_13 hB) hc0_13 (Kd.C_below hr0_23 hB) hc0_23 hS) hD
      (fun W hB b hb => by have z := slots_any2 A0_13 c0_13 l0_13 3 b W (Kd.C_below hr0_13 hB) hb; rw [hq] at z; exact z) (fun W hB => config_Times.calls a0_0 _ _ l0_1 a0_2 a0_3 a0_4 a0_5 a0_6 a0_7 a0_8 a0_9 a0_10 a0_11 a0_12 _ _ l0_13 a0_14 a0_15 a0_16 a0_17 a0_18 a0_19 a0_20 a0_21 a0_22 _ _ l0_23 a0_24 mv dv tr sl cy x W (Kd.C_below hr0_1 hB) hc0_1 (Kd.C_below hr0_13 hB) hc0_13 (Kd.C_below hr0_23 hB) hc0_23 hT)
   | false =>
    rw [if_neg (by rw [hq]; simp)] at H
    simp only [Option.some.injEq, Prod.mk.injEq] at H
    obtain ⟨rfl, rfl⟩ := H
    exact ticks_e3 ⟨a0_0, .slice A0_1 l0_1.length c0_1, a0_2, a0_3, a0_4, a0_5, a0_6, a0_7, a0_8, a0_9, a0_10, a0_11, a0_12, .slice A0_13 l0_13.length c0_13, .int .u64 a0_14, a0_15, a0_16, .int .u64 a0_17, a0_18, a0_19, .int .u64 a0_20, a0_21, a0_22, .slice A0_23 l0_23.length c0_23, a0_24⟩ a1 sh w (fun W hB => bound_Share.calls a0_0 _ _ l0_1 a0_2 a0_3 a0_4 a0_5 a0_6 a0_7 a0_8 a0_9 a0_10 a0_11 a0_12 _ _ l0_13 a0_14 a0_15 a0_16 a0_17 a0_18 a0_19 a0_20 a0_21 a0_22 _ _ l0_23 a0_24 sh 0 W (Kd.C_below hr0_1 hB) hc0_1 (Kd.C_below hr0_13 hB) hc0_13 (Kd.C_below hr0_23 hB) hc0_23 hS) hD
     (fun W hB b hb => by have z := slots_any2 A0_13 c0_13 l0_13 a1 b W (Kd.C_below hr0_13 hB) hb; rw [hq] at z; exact z)
  ·rw [if_neg hx] at H
   simp only [Option.some.injEq, Prod.mk.injEq] at H
   obtain ⟨rfl, rfl⟩ := H
   exact ticks_e2 ⟨a0_0, .slice A0_1 l0_1.length c0_1, a0_2, a0_3, a0_4, a0_5, a0_6, a0_7, a0_8, a0_9, a0_10, a0_11, a0_12, .slice A0_13 l0_13.length c0_13, .int .u64 a0_14, a0_15, a0_16, .int .u64 a0_17, a0_18, a0_19, .int .u64 a0_20, a0_21, a0_22, .slice A0_23 l0_23.length c0_23, a0_24⟩ a1 sh _ w hx (fun W hB => bound_Share.calls a0_0 _ _ l0_1 a0_2 a0_3 a0_4 a0_5 a0_6 a0_7 a0_8 a0_9 a0_10 a0_11 a0_12 _ _ l0_13 a0_14 a0_15 a0_16 a0_17 a0_18 a0_19 a0_20 a0_21 a0_22 _ _ l0_23 a0_24 sh 0 W (Kd.C_below hr0_1 hB) hc0_1 (Kd.C_below hr0_13 hB) hc0_13 (Kd.C_below hr0_23 hB) hc0_23 hS) hD
 ·rw [if_neg he] at H
  simp only [Option.some.injEq, Prod.mk.injEq] at H
  obtain ⟨rfl, rfl⟩ := H
  exact ticks_e1 ⟨a0_0, .slice A0_1 l0_1.length c0_1, a0_2, a0_3, a0_4, a0_5, a0_6, a0_7, a0_8, a0_9, a0_10, a0_11, a0_12, .slice A0_13 l0_13.length c0_13, .int .u64 a0_14, a0_15, a0_16, .int .u64 a0_17, a0_18, a0_19, .int .u64 a0_20, a0_21, a0_22, .slice A0_23 l0_23.length c0_23, a0_24⟩ a1 sh _ w he (fun W hB => bound_Share.calls a0_0 _ _ l0_1 a0_2 a0_3 a0_4 a0_5 a0_6 a0_7 a0_8 a0_9 a0_10 a0_11 a0_12 _ _ l0_13 a0_14 a0_15 a0_16 a0_17 a0_18 a0_19 a0_20 a0_21 a0_22 _ _ l0_23 a0_24 sh _ W (Kd.C_below hr0_1 hB) hc0_1 (Kd.C_below hr0_13 hB) hc0_13 (Kd.C_below hr0_23 hB) hc0_23 hS)
end Go.Proofs.Ytmdcjmackhjchaa.P
end
