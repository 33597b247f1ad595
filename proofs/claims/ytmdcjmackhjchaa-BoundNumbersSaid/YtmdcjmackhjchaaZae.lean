import Derived.Test.YtmdcjmackhjchaaZad
section
/- bound.Ticks, walked by hand: its four ways, over what its calls answer. -/
namespace Go.Proofs.Ytmdcjmackhjchaa.P
open Go.RowKit Go.Proofs.YtmdcjmackhjchaaW.PrintWords Go.Proofs.YtmdcjmackhjchaaW.PrintLast Go.Proofs.YtmdcjmackhjchaaW.PrintMore
attribute [local go_sem] cell_same1 cell_some1
set_option linter.unusedVariables false
set_option linter.unusedSimpArgs false

/-- What the walk knows of the world. -/
structure TK (w : World) (c : Cfg) (d : Int) (g2 g3 : Nat) (W : World) : Prop where
  b2 : W.heap[g2]? = some (.cells c.cells 29)
  b3 : W.heap[g3]? = some (.cells #[.int .i64 d] 3)
  be : Below w.heap.size w W
theorem TK.step {w : World} {c : Cfg} {d : Int} {g2 g3 : Nat} {W W' : World} (h : TK w c d g2 g3 W) (hb : Below W.heap.size W W') : TK w c d g2 g3 W' :=
  ⟨blk_below h.b2 hb, blk_below h.b3 hb, below_step h.be hb⟩

set_option maxHeartbeats 4000000 in
set_option maxRecDepth 100000 in
theorem ticks_e1 (c : Cfg) (d sh x : Int) (w : World) (hx : ¬ x = 0)
    (HS : ∀ W, Below w.heap.size w W → Calls Try.prog 8 #[.agg c.cells] W fun e w' => e = .returned (.tuple #[.int .i64 sh, .int .i64 x]) ∧ Below W.heap.size W w') :
    Calls Try.prog 10 #[.agg c.cells, .int .i64 d] w fun e w' => e = .returned (.tuple #[.int .i64 0, .int .i64 x]) ∧ Below w.heap.size w w' := by
  have hx0 : (x == 0) = false := beq_eq_false_iff_ne.mpr hx
  have hx1 : (x != 0) = true := bne_iff_ne.mpr hx
  have hu29 := Try.underlying29
  have hu42 := Try.underlying42
  have HS := Aside0.mk HS
  have HB := Aside0.mk (Below.refl w.heap.size w)
  go_enter Try.func10, Try.ntmps10
  go_upto_region 2 with (first | ((with_reducible refine gate_dst (N := 2) rfl ?_); refine bxe (cs := c.cells) (t := 29) ?_; intro g2 hg w1 hbox hb; have B2 := Aside0.mk hbox; replace HB := Aside0.mk (bst HB.out hb); clear hb hbox hg) | ((with_reducible refine gate_dst (N := 3) rfl ?_); refine bxe (cs := #[.int .i64 d]) (t := 3) ?_; intro g3 hg w2 hbox hb; have B3 := Aside0.mk hbox; replace B2 := Aside0.mk (bkb B2.out hb); replace HB := Aside0.mk (bst HB.out hb); clear hb hbox hg) | ((with_reducible refine gate_dst (N := 10) rfl ?_); refine lwx (g := g2) (bkt B2.out) ?_) | (go_at_call 8; (with_reducible refine (HS.out _ (bel HB.out)).mono ?_); rintro e w3 ⟨rfl, hb⟩; replace B2 := Aside0.mk (bkb B2.out hb); replace B3 := Aside0.mk (bkb B3.out hb); replace HB := Aside0.mk (bst HB.out hb); clear hb))
  refine wp_abs (TK w c d g2 g3) ⟨bkt B2.out, bkt B3.out, bel HB.out⟩ (fun W4 h4 => ?_)
  clear B2 B3 HB
  have H4 := Aside0.mk h4
  have h3 : W4.cell? ⟨g3, 0, none⟩ = some (.int .i64 d) := (blk_cell h4.b3 0).trans rfl
  have h13 : W4.cell? ⟨g2, 13, none⟩ = some c.rota := (blk_cell h4.b2 13).trans rfl
  clear h4
  go_wp2
  go_ret2
  exact ⟨rfl, H4.out.be⟩
set_option maxHeartbeats 4000000 in
set_option maxRecDepth 100000 in
theorem ticks_e2 (c : Cfg) (d sh x : Int) (w : World) (hx : ¬ x = 0)
    (HS : ∀ W, Below w.heap.size w W → Calls Try.prog 8 #[.agg c.cells] W fun e w' => e = .returned (.tuple #[.int .i64 sh, .int .i64 0]) ∧ Below W.heap.size W w')
    (HD : bound_domains.f d = some x) :
    Calls Try.prog 10 #[.agg c.cells, .int .i64 d] w fun e w' => e = .returned (.tuple #[.int .i64 0, .int .i64 x]) ∧ Below w.heap.size w w' := by
  have hx0 : (x == 0) = false := beq_eq_false_iff_ne.mpr hx
  have hx1 : (x != 0) = true := bne_iff_ne.mpr hx
  have HD := Aside0.mk HD
  have hu29 := Try.underlying29
  have hu42 := Try.underlying42
  have HS := Aside0.mk HS
  have HB := Aside0.mk (Below.refl w.heap.size w)
  go_enter Try.func10, Try.ntmps10
  go_upto_region 2 with (first | ((with_reducible refine gate_dst (N := 2) rfl ?_); refine bxe (cs := c.cells) (t := 29) ?_; intro g2 hg w1 hbox hb; have B2 := Aside0.mk hbox; replace HB := Aside0.mk (bst HB.out hb); clear hb hbox hg) | ((with_reducible refine gate_dst (N := 3) rfl ?_); refine bxe (cs := #[.int .i64 d]) (t := 3) ?_; intro g3 hg w2 hbox hb; have B3 := Aside0.mk hbox; replace B2 := Aside0.mk (bkb B2.out hb); replace HB := Aside0.mk (bst HB.out hb); clear hb hbox hg) | ((with_reducible refine gate_dst (N := 10) rfl ?_); refine lwx (g := g2) (bkt B2.out) ?_) | (go_at_call 8; (with_reducible refine (HS.out _ (bel HB.out)).mono ?_); rintro e w3 ⟨rfl, hb⟩; replace B2 := Aside0.mk (bkb B2.out hb); replace B3 := Aside0.mk (bkb B3.out hb); replace HB := Aside0.mk (bst HB.out hb); clear hb))
  refine wp_abs (TK w c d g2 g3) ⟨bkt B2.out, bkt B3.out, bel HB.out⟩ (fun W4 h4 => ?_)
  clear B2 B3 HB
  have H4 := Aside0.mk h4
  have h3 : W4.cell? ⟨g3, 0, none⟩ = some (.int .i64 d) := (blk_cell h4.b3 0).trans rfl
  have h13 : W4.cell? ⟨g2, 13, none⟩ = some c.rota := (blk_cell h4.b2 13).trans rfl
  clear h4
  go_wp2_with (go_at_call 20; (with_reducible refine (bound_domains.calls d x _ HD.out).mono ?_); rintro e w5 ⟨rfl, ⟨nd, rfl⟩⟩)
  go_ret2
  exact ⟨rfl, bel H4.out.be⟩
set_option maxHeartbeats 4000000 in
set_option maxRecDepth 100000 in
theorem ticks_e3 (c : Cfg) (d sh : Int) (w : World)
    (HS : ∀ W, Below w.heap.size w W → Calls Try.prog 8 #[.agg c.cells] W fun e w' => e = .returned (.tuple #[.int .i64 sh, .int .i64 0]) ∧ Below W.heap.size W w')
    (HD : bound_domains.f d = some 0)
    (HX : ∀ W, Below w.heap.size w W → ∀ b, W.heap[b]? = some (.cells #[.int .i64 d] 3) → Calls Try.prog 21 #[c.rota, .func (.func 22) #[] #[.pointer (some ⟨b, 0, none⟩)]] W fun e w' => e = .returned (.bool false) ∧ w' = W) :
    Calls Try.prog 10 #[.agg c.cells, .int .i64 d] w fun e w' => e = .returned (.tuple #[.int .i64 0, .int .i64 6]) ∧ Below w.heap.size w w' := by
  have HD := Aside0.mk HD
  have HX := Aside0.mk HX
  have hu29 := Try.underlying29
  have hu42 := Try.underlying42
  have HS := Aside0.mk HS
  have HB := Aside0.mk (Below.refl w.heap.size w)
  go_enter Try.func10, Try.ntmps10
  go_upto_region 2 with (first | ((with_reducible refine gate_dst (N := 2) rfl ?_); refine bxe (cs := c.cells) (t := 29) ?_; intro g2 hg w1 hbox hb; have B2 := Aside0.mk hbox; replace HB := Aside0.mk (bst HB.out hb); clear hb hbox hg) | ((with_reducible refine gate_dst (N := 3) rfl ?_); refine bxe (cs := #[.int .i64 d]) (t := 3) ?_; intro g3 hg w2 hbox hb; have B3 := Aside0.mk hbox; replace B2 := Aside0.mk (bkb B2.out hb); replace HB := Aside0.mk (bst HB.out hb); clear hb hbox hg) | ((with_reducible refine gate_dst (N := 10) rfl ?_); refine lwx (g := g2) (bkt B2.out) ?_) | (go_at_call 8; (with_reducible refine (HS.out _ (bel HB.out)).mono ?_); rintro e w3 ⟨rfl, hb⟩; replace B2 := Aside0.mk (bkb B2.out hb); replace B3 := Aside0.mk (bkb B3.out hb); replace HB := Aside0.mk (bst HB.out hb); clear hb))
  refine wp_abs (TK w c d g2 g3) ⟨bkt B2.out, bkt B3.out, bel HB.out⟩ (fun W4 h4 => ?_)
  clear B2 B3 HB
  have H4 := Aside0.mk h4
  have h3 : W4.cell? ⟨g3, 0, none⟩ = some (.int .i64 d) := (blk_cell h4.b3 0).trans rfl
  have h13 : W4.cell? ⟨g2, 13, none⟩ = some c.rota := (blk_cell h4.b2 13).trans rfl
  clear h4
  go_upto_region 6 with (go_at_call 20; (with_reducible refine (bound_domains.calls d 0 _ HD.out).mono ?_); rintro e w5 ⟨rfl, ⟨nd, rfl⟩⟩)
  go_wp2_with (go_at_call 21; (with_reducible refine (HX.out _ (bel H4.out.be) g3 (bkt H4.out.b3)).mono ?_); rintro e w5 ⟨rfl, rfl⟩)
  go_ret2
  exact ⟨rfl, bel H4.out.be⟩
theorem ixa (w : World) (g o i : Nat) (h : i < 3) : Sem.run Try.prog (Instr.indexAt 27 (.pointer (some ⟨g, o, none⟩)) (.int .i64 i)) w = .ok (.pointer (some ⟨g, o + i * 3, none⟩)) w := by
  have h1 := Try.underlying27
  have h2 := Try.underlying26
  rcases i with _ | _ | _ | i
  · simp [Instr.indexAt, go_sem, h1]
  · simp [Instr.indexAt, go_sem, h1]
  · simp [Instr.indexAt, go_sem, h1]
  · omega
set_option maxHeartbeats 4000000 in
set_option maxRecDepth 100000 in
theorem ticks_ok (c : Cfg) (n : Nat) (hn : n < 3) (sh mv dv tr sl cy x k p q r s : Int) (w : World)
    (hk : c.cells[14 + n * 3 + 2]? = some (.int .i64 k)) (hsh : ¬ sh = 0) (q1 : wrap64 (k + sh) = p) (q2 : wrap64 (p - 1) = q) (q3 : wrap64 (Int.tdiv q sh) = r) (q4 : wrap64 (wrap64 (r + 4) * cy) = s)
    (HS : ∀ W, Below w.heap.size w W → Calls Try.prog 8 #[.agg c.cells] W fun e w' => e = .returned (.tuple #[.int .i64 sh, .int .i64 0]) ∧ Below W.heap.size W w')
    (HD : bound_domains.f ((n : Int) + 1) = some 0)
    (HX : ∀ W, Below w.heap.size w W → ∀ b, W.heap[b]? = some (.cells #[.int .i64 ((n : Int) + 1)] 3) → Calls Try.prog 21 #[c.rota, .func (.func 22) #[] #[.pointer (some ⟨b, 0, none⟩)]] W fun e w' => e = .returned (.bool true) ∧ w' = W)
    (HT : ∀ W, Below w.heap.size w W → Calls Try.prog 15 #[.agg c.cells] W fun e w' => e = .returned (.tuple #[.agg #[.int .i64 mv, .int .i64 dv, .int .i64 tr, .int .i64 sl, .int .i64 cy], .int .i64 x]) ∧ Below W.heap.size W w') :
    Calls Try.prog 10 #[.agg c.cells, .int .i64 ((n : Int) + 1)] w fun e w' => e = .returned (.tuple #[.int .i64 s, .int .i64 x]) ∧ Below w.heap.size w w' := by
  have HD := Aside0.mk HD
  have HX := Aside0.mk HX
  have HT := Aside0.mk HT
  have HK := Aside0.mk hk
  have Q1 := Aside0.mk q1
  have Q2 := Aside0.mk q2
  have Q3 := Aside0.mk q3
  have Q4 := Aside0.mk q4
  have HSH := Aside0.mk hsh
  clear q1 q2 q3 q4 hk hsh
  obtain ⟨d, hd⟩ : ∃ d : Int, d = (n : Int) + 1 := ⟨_, rfl⟩
  rw [← hd] at HD HX ⊢
  have HDD := Aside0.mk hd
  clear hd
  have hu29 := Try.underlying29
  have hu42 := Try.underlying42
  have HS := Aside0.mk HS
  have HB := Aside0.mk (Below.refl w.heap.size w)
  go_enter Try.func10, Try.ntmps10
  go_upto_region 2 with (first | ((with_reducible refine gate_dst (N := 2) rfl ?_); refine bxe (cs := c.cells) (t := 29) ?_; intro g2 hg w1 hbox hb; have B2 := Aside0.mk hbox; replace HB := Aside0.mk (bst HB.out hb); clear hb hbox hg) | ((with_reducible refine gate_dst (N := 3) rfl ?_); refine bxe (cs := #[.int .i64 d]) (t := 3) ?_; intro g3 hg w2 hbox hb; have B3 := Aside0.mk hbox; replace B2 := Aside0.mk (bkb B2.out hb); replace HB := Aside0.mk (bst HB.out hb); clear hb hbox hg) | ((with_reducible refine gate_dst (N := 10) rfl ?_); refine lwx (g := g2) (bkt B2.out) ?_) | (go_at_call 8; (with_reducible refine (HS.out _ (bel HB.out)).mono ?_); rintro e w3 ⟨rfl, hb⟩; replace B2 := Aside0.mk (bkb B2.out hb); replace B3 := Aside0.mk (bkb B3.out hb); replace HB := Aside0.mk (bst HB.out hb); clear hb))
  refine wp_abs (TK w c d g2 g3) ⟨bkt B2.out, bkt B3.out, bel HB.out⟩ (fun W4 h4 => ?_)
  clear B2 B3 HB
  have H4 := Aside0.mk h4
  have h3 : W4.cell? ⟨g3, 0, none⟩ = some (.int .i64 d) := (blk_cell h4.b3 0).trans rfl
  have h13 : W4.cell? ⟨g2, 13, none⟩ = some c.rota := (blk_cell h4.b2 13).trans rfl
  clear h4
  go_upto_region 6 with (go_at_call 20; (with_reducible refine (bound_domains.calls d 0 _ HD.out).mono ?_); rintro e w5 ⟨rfl, ⟨nd, rfl⟩⟩)
  go_upto_region 8 with (go_at_call 21; (with_reducible refine (HX.out _ (bel H4.out.be) g3 (bkt H4.out.b3)).mono ?_); rintro e w5 ⟨rfl, rfl⟩)
  refine wp_abs (TK w c d g2 g3) ⟨bkt H4.out.b2, bkt H4.out.b3, bel H4.out.be⟩ (fun W5 h5 => ?_)
  clear H4 h3 h13
  have H5 := Aside0.mk h5
  clear h5
  go_upto_region 9 with (first | ((with_reducible refine gate_dst (N := 27) rfl ?_); refine lwx (g := g2) H5.out.b2 ?_) | (go_at_call 15; (with_reducible refine (HT.out _ (bel H5.out.be)).mono ?_); rintro e w6 ⟨rfl, hb⟩; replace H5 := Aside0.mk (H5.out.step hb); clear hb))
  refine wp_abs (fun W => TK w c d g2 g3 W ∧ W.heap[w6.heap.size]? = some (.cells #[.int .i64 mv, .int .i64 dv, .int .i64 tr, .int .i64 sl, .int .i64 cy] 42)) ⟨⟨blk_alloc H5.out.b2 _, blk_alloc H5.out.b3 _, below_alloc H5.out.be _⟩, blk_new _ _⟩ (fun W6 h6 => ?_)
  clear H5
  generalize w6.heap.size = g8 at h6 ⊢
  have H6 := Aside0.mk h6
  have h3 : W6.cell? ⟨g3, 0, none⟩ = some (.int .i64 d) := (blk_cell h6.1.b3 0).trans rfl
  have h8 : W6.cell? ⟨g8, 4, none⟩ = some (.int .i64 cy) := (blk_cell h6.2 4).trans rfl
  have hk2 : W6.cell? ⟨g2, 14 + n * 3 + 2, none⟩ = some (.int .i64 k) := (blk_cell h6.1.b2 _).trans HK.out
  clear h6
  have hd1 : IntKind.i64.wrap (d - 1) = (n : Int) := by rw [HDD.out, i64_w]; unfold wrap64; omega
  have hix := fun W => ixa W g2 14 n hn
  have hp : IntKind.i64.wrap (k + sh) = p := (i64_w _).trans Q1.out
  have hq : IntKind.i64.wrap (p - 1) = q := (i64_w _).trans Q2.out
  have hr : IntKind.i64.wrap (Int.tdiv q sh) = r := (i64_w _).trans Q3.out
  have hsh := HSH.out
  obtain ⟨r4, hr4⟩ : ∃ x, wrap64 (r + 4) = x := ⟨_, rfl⟩
  have hr4' : IntKind.i64.wrap (r + 4) = r4 := (i64_w _).trans hr4
  have hs : IntKind.i64.wrap (r4 * cy) = s := by rw [← hr4]; exact (i64_w _).trans Q4.out
  clear hr4
  go_quiet (fail)
  go_wp2
  go_ret2
  exact ⟨rfl, bel H6.out.1.be⟩
end Go.Proofs.Ytmdcjmackhjchaa.P
end

section
/- The reference's Ticks, walked by hand: its four ways, over what its calls answer. -/
namespace Go.Proofs.Ytmdcjmackhjchaa.P
open Go.RowKit Go.Proofs.YtmdcjmackhjchaaW.PrintWords Go.Proofs.YtmdcjmackhjchaaW.PrintLast Go.Proofs.YtmdcjmackhjchaaW.PrintMore
attribute [local go_sem] cell_same1 cell_some1
set_option linter.unusedVariables false
set_option linter.unusedSimpArgs false

section
variable {P : Program} {ops : Array Oper} {Q : Exit → Act → World → Prop} {rest : List Oper} {o : Oper} {a : Act}
theorem lwxw {W : World} {g : Nat} {cs : List Value} {t : TypeId} {N : Tmp} {x : Operand} {d : TypeDesc} (hb : W.heap[g]? = some (.cells cs.toArray t (0, 0)))
    (hw : Region.wanted o (yielded ops a.tmps) = true) (h : wpList P ops Q rest (a.put (some N) (.agg cs.toArray)) W)
    (ho : o.op = .load t x := by rfl) (hd : o.dst = some N := by rfl)
    (hx : a.eval x = .pointer (some ⟨g, 0, none⟩) := by rfl) (hu : P.underlying t = some d := by assumption) (hdr : d.isRow = true := by rfl) (hi : (P.info? t).map (·.size) = some cs.length := by kernel_rfl) :
    wpList P ops Q (o :: rest) a W := by
  unfold wpList
  rw [if_pos hw]
  left
  refine wp_load_mid t x ho g 0 hx cs d ?_ hu hdr hi ?_
  · intro j v hj
    rw [Nat.zero_add, blk_cell hb j]
    simpa using hj
  · rw [hd]
    exact h
end
/-- The loop over the cars. -/
def carsF (F : Int → Option Bool) : Nat → Nat → Bool → Option Bool
  | 0, _, b => some b
  | n + 1, i, b => if b = true then carsF F n (i + 1) true else (F ((i : Int) + 1)).bind fun r => carsF F n (i + 1) r
theorem carsF_true (F : Int → Option Bool) : ∀ n i, carsF F n i true = some true
  | 0, _ => rfl
  | n + 1, i => by rw [carsF, if_pos rfl]; exact carsF_true F n (i + 1)

structure TR (w : World) (c : Cfg) (g2 : Nat) (W : World) : Prop where
  b2 : W.heap[g2]? = some (.cells c.cells 29)
  be : Below w.heap.size w W
theorem TR.step {w : World} {c : Cfg} {g2 : Nat} {W W' : World} (h : TR w c g2 W) (hb : Below W.heap.size W W') : TR w c g2 W' :=
  ⟨blk_below h.b2 hb, below_step h.be hb⟩
set_option maxHeartbeats 4000000 in
set_option maxRecDepth 100000 in
theorem ticksR_e1 (c : Cfg) (d sh x : Int) (w : World) (hx : ¬ x = 0)
    (HS : ∀ W, Below w.heap.size w W → Calls Try.prog 9 #[.agg c.cells] W fun e w' => e = .returned (.tuple #[.int .i64 sh, .int .i64 x]) ∧ Below W.heap.size W w') :
    Calls Try.prog 11 #[.agg c.cells, .int .i64 d] w fun e w' => e = .returned (.tuple #[.int .i64 0, .int .i64 x]) ∧ Below w.heap.size w w' := by
  have hx0 : (x == 0) = false := beq_eq_false_iff_ne.mpr hx
  have hx1 : (x != 0) = true := bne_iff_ne.mpr hx
  have hu29 := Try.underlying29
  have hu42 := Try.underlying42
  have HS := Aside0.mk HS
  have HB := Aside0.mk (Below.refl w.heap.size w)
  go_enter Try.func11, Try.ntmps11
  go_upto_region 2 with (first | ((with_reducible refine gate_dst (N := 2) rfl ?_); refine bxe (cs := c.cells) (t := 29) ?_; intro g2 hg w1 hbox hb; have B2 := Aside0.mk hbox; replace HB := Aside0.mk (bst HB.out hb); clear hb hbox hg) | ((with_reducible refine gate_dst (N := 13) rfl ?_); refine lwx (g := g2) (bkt B2.out) ?_) | (go_at_call 9; (with_reducible refine (HS.out _ (bel HB.out)).mono ?_); rintro e w3 ⟨rfl, hb⟩; replace B2 := Aside0.mk (bkb B2.out hb); replace HB := Aside0.mk (bst HB.out hb); clear hb))
  refine wp_abs (TR w c g2) ⟨bkt B2.out, bel HB.out⟩ (fun W4 h4 => ?_)
  clear B2 HB
  have H4 := Aside0.mk h4
  clear h4
  go_wp2
  go_ret2
  exact ⟨rfl, H4.out.be⟩
set_option maxHeartbeats 4000000 in
set_option maxRecDepth 100000 in
theorem ticksR_e2 (c : Cfg) (d sh : Int) (w : World) (hd : d < 1 ∨ d > 3)
    (HS : ∀ W, Below w.heap.size w W → Calls Try.prog 9 #[.agg c.cells] W fun e w' => e = .returned (.tuple #[.int .i64 sh, .int .i64 0]) ∧ Below W.heap.size W w') :
    Calls Try.prog 11 #[.agg c.cells, .int .i64 d] w fun e w' => e = .returned (.tuple #[.int .i64 0, .int .i64 2]) ∧ Below w.heap.size w w' := by
  by_cases h1 : d < 1
  · clear hd
    have hu29 := Try.underlying29
    have hu42 := Try.underlying42
    have HS := Aside0.mk HS
    have HB := Aside0.mk (Below.refl w.heap.size w)
    go_enter Try.func11, Try.ntmps11
    go_upto_region 2 with (first | ((with_reducible refine gate_dst (N := 2) rfl ?_); refine bxe (cs := c.cells) (t := 29) ?_; intro g2 hg w1 hbox hb; have B2 := Aside0.mk hbox; replace HB := Aside0.mk (bst HB.out hb); clear hb hbox hg) | ((with_reducible refine gate_dst (N := 13) rfl ?_); refine lwx (g := g2) (bkt B2.out) ?_) | (go_at_call 9; (with_reducible refine (HS.out _ (bel HB.out)).mono ?_); rintro e w3 ⟨rfl, hb⟩; replace B2 := Aside0.mk (bkb B2.out hb); replace HB := Aside0.mk (bst HB.out hb); clear hb))
    refine wp_abs (TR w c g2) ⟨bkt B2.out, bel HB.out⟩ (fun W4 h4 => ?_)
    clear B2 HB
    have H4 := Aside0.mk h4
    clear h4
    go_wp2
    go_ret2
    exact ⟨rfl, H4.out.be⟩
  · have h3 : d > 3 := by omega
    clear hd
    have hu29 := Try.underlying29
    have hu42 := Try.underlying42
    have HS := Aside0.mk HS
    have HB := Aside0.mk (Below.refl w.heap.size w)
    go_enter Try.func11, Try.ntmps11
    go_upto_region 2 with (first | ((with_reducible refine gate_dst (N := 2) rfl ?_); refine bxe (cs := c.cells) (t := 29) ?_; intro g2 hg w1 hbox hb; have B2 := Aside0.mk hbox; replace HB := Aside0.mk (bst HB.out hb); clear hb hbox hg) | ((with_reducible refine gate_dst (N := 13) rfl ?_); refine lwx (g := g2) (bkt B2.out) ?_) | (go_at_call 9; (with_reducible refine (HS.out _ (bel HB.out)).mono ?_); rintro e w3 ⟨rfl, hb⟩; replace B2 := Aside0.mk (bkb B2.out hb); replace HB := Aside0.mk (bst HB.out hb); clear hb))
    refine wp_abs (TR w c g2) ⟨bkt B2.out, bel HB.out⟩ (fun W4 h4 => ?_)
    clear B2 HB
    have H4 := Aside0.mk h4
    clear h4
    go_wp2
    go_ret2
    exact ⟨rfl, H4.out.be⟩
set_option maxHeartbeats 4000000 in
set_option maxRecDepth 100000 in
theorem ticksR_e3 (c : Cfg) (d sh : Int) (F : Int → Option Bool) (w : World) (hd1 : ¬ d < 1) (hd3 : ¬ d > 3) (hc0 : 0 ≤ c.cars) (hc8 : c.cars ≤ 100)
    (HS : ∀ W, Below w.heap.size w W → Calls Try.prog 9 #[.agg c.cells] W fun e w' => e = .returned (.tuple #[.int .i64 sh, .int .i64 0]) ∧ Below W.heap.size W w')
    (HF : carsF F c.cars.toNat 0 false = some false)
    (HO : ∀ (car : Int) (r : Bool), F car = some r → ∀ W, Below w.heap.size w W → Calls Try.prog 24 #[.agg c.cells, .int .i64 car, .int .i64 d] W fun e w' => e = .returned (.bool r) ∧ Below W.heap.size W w') :
    Calls Try.prog 11 #[.agg c.cells, .int .i64 d] w fun e w' => e = .returned (.tuple #[.int .i64 0, .int .i64 6]) ∧ Below w.heap.size w w' := by
  have HO := Aside0.mk HO
  have hu29 := Try.underlying29
  have hu42 := Try.underlying42
  have HS := Aside0.mk HS
  have HB := Aside0.mk (Below.refl w.heap.size w)
  go_enter Try.func11, Try.ntmps11
  go_upto_region 2 with (first | ((with_reducible refine gate_dst (N := 2) rfl ?_); refine bxe (cs := c.cells) (t := 29) ?_; intro g2 hg w1 hbox hb; have B2 := Aside0.mk hbox; replace HB := Aside0.mk (bst HB.out hb); clear hb hbox hg) | ((with_reducible refine gate_dst (N := 13) rfl ?_); refine lwx (g := g2) (bkt B2.out) ?_) | (go_at_call 9; (with_reducible refine (HS.out _ (bel HB.out)).mono ?_); rintro e w3 ⟨rfl, hb⟩; replace B2 := Aside0.mk (bkb B2.out hb); replace HB := Aside0.mk (bst HB.out hb); clear hb))
  refine wp_abs (TR w c g2) ⟨bkt B2.out, bel HB.out⟩ (fun W4 h4 => ?_)
  clear B2 HB
  have H4 := Aside0.mk h4
  clear h4
  go_upto_region 8 with fail
  obtain ⟨n, hn⟩ : ∃ n : Nat, c.cars.toNat = n := ⟨_, rfl⟩
  have hcn : c.cars = (n : Int) := by omega
  have hn100 : n ≤ 100 := by omega
  have HN := Aside0.mk hcn
  rw [hn] at HF
  have HF := Aside0.mk HF
  clear hn hcn
  go_loopw [8, 9] (fun v8 v9 wr => ∃ (k : Nat) (b : Bool), k ≤ n ∧ v9 = .int .i64 ((k : Int) + 1) ∧ v8 = .bool b ∧ Aside0 (carsF F (n - k) k b = some false) ∧ Aside0 (TR w c g2 wr)) (fun _ v _ => n + 1 - (intOf v).toNat)
  case atStart => exact ⟨0, false, Nat.zero_le _, rfl, rfl, ⟨by rw [Nat.sub_zero]; exact HF.out⟩, H4⟩
  case round =>
    obtain ⟨k, b, hk, rfl, rfl, HA, H5⟩ := hrel
    have c2 : wr.cell? ⟨g2, 2, none⟩ = some (.int .i64 n) := (blk_cell H5.out.b2 2).trans (by rw [← HN.out]; rfl)
    by_cases hkn : k < n
    · have hk1 : (k : Int) + 1 ≤ (n : Int) := by omega
      have hw : IntKind.i64.wrap ((k : Int) + 1 + 1) = (k : Int) + 1 + 1 := by rw [i64_w]; unfold wrap64; omega
      cases b with
      | true =>
        have HA2 := Aside0.mk (show carsF F (n - (k + 1)) (k + 1) true = some false by have z := HA.out; rw [show n - k = (n - (k + 1)) + 1 from by omega, carsF, if_pos rfl] at z; exact z)
        clear HA
        go_wp2
        go_roundw
        case rel => exact ⟨k + 1, true, by omega, by go_num, rfl, HA2, H5⟩
        case measure => simp [intOf]; omega
      | false =>
        have z := HA.out
        rw [show n - k = (n - (k + 1)) + 1 from by omega, carsF, if_neg (by simp)] at z
        obtain ⟨r, hr, hA2⟩ := Option.bind_eq_some_iff.mp z
        have HA2 := Aside0.mk hA2
        have HRR := Aside0.mk hr
        clear HA z hr hA2
        go_wp2_with (first | ((with_reducible refine gate_dst (N := 38) rfl ?_); refine lwxw (g := g2) H5.out.b2 (by rfl) ?_) | (go_at_call 24; (with_reducible refine (HO.out _ r HRR.out _ (bel H5.out.be)).mono ?_); rintro e w6 ⟨rfl, hb⟩; replace H5 := Aside0.mk (H5.out.step hb); clear hb))
        go_roundw
        case rel => exact ⟨k + 1, r, by omega, by go_num, rfl, HA2, H5⟩
        case measure => simp [intOf]; omega
    · have hk2 : k = n := by omega
      subst hk2
      have z := HA.out
      rw [Nat.sub_self, carsF] at z
      obtain rfl := Option.some.inj z
      clear z HA hk
      go_wp2
      go_ret2
      exact ⟨rfl, bel H5.out.be⟩
set_option maxHeartbeats 4000000 in
set_option maxRecDepth 100000 in
theorem ticksR_ok (c : Cfg) (m : Nat) (hm : m < 3) (sh mv dv tr sl cy x k0 p0 q0 r0 s0 : Int) (F : Int → Option Bool) (w : World) (hc0 : 0 ≤ c.cars) (hc8 : c.cars ≤ 100)
    (hk : c.cells[14 + m * 3 + 2]? = some (.int .i64 k0)) (hsh : ¬ sh = 0) (q1 : wrap64 (k0 + sh) = p0) (q2 : wrap64 (p0 - 1) = q0) (q3 : wrap64 (Int.tdiv q0 sh) = r0) (q4 : wrap64 (wrap64 (r0 + 4) * cy) = s0)
    (HS : ∀ W, Below w.heap.size w W → Calls Try.prog 9 #[.agg c.cells] W fun e w' => e = .returned (.tuple #[.int .i64 sh, .int .i64 0]) ∧ Below W.heap.size W w')
    (HF : carsF F c.cars.toNat 0 false = some true)
    (HO : ∀ (car : Int) (r : Bool), F car = some r → ∀ W, Below w.heap.size w W → Calls Try.prog 24 #[.agg c.cells, .int .i64 car, .int .i64 ((m : Int) + 1)] W fun e w' => e = .returned (.bool r) ∧ Below W.heap.size W w')
    (HT : ∀ W, Below w.heap.size w W → Calls Try.prog 25 #[.agg c.cells] W fun e w' => e = .returned (.tuple #[.agg #[.int .i64 mv, .int .i64 dv, .int .i64 tr, .int .i64 sl, .int .i64 cy], .int .i64 x]) ∧ Below W.heap.size W w') :
    Calls Try.prog 11 #[.agg c.cells, .int .i64 ((m : Int) + 1)] w fun e w' => e = .returned (.tuple #[.int .i64 s0, .int .i64 0]) ∧ Below w.heap.size w w' := by
  have HO := Aside0.mk HO
  have HT := Aside0.mk HT
  have HK := Aside0.mk hk
  have Q1 := Aside0.mk q1
  have Q2 := Aside0.mk q2
  have Q3 := Aside0.mk q3
  have Q4 := Aside0.mk q4
  have HSH := Aside0.mk hsh
  clear q1 q2 q3 q4 hk hsh
  obtain ⟨d, hd⟩ : ∃ d : Int, d = (m : Int) + 1 := ⟨_, rfl⟩
  rw [← hd] at HO ⊢
  have hd1 : ¬ d < 1 := by omega
  have hd3 : ¬ d > 3 := by omega
  have HDD := Aside0.mk hd
  clear hd
  have hu29 := Try.underlying29
  have hu42 := Try.underlying42
  have HS := Aside0.mk HS
  have HB := Aside0.mk (Below.refl w.heap.size w)
  go_enter Try.func11, Try.ntmps11
  go_upto_region 2 with (first | ((with_reducible refine gate_dst (N := 2) rfl ?_); refine bxe (cs := c.cells) (t := 29) ?_; intro g2 hg w1 hbox hb; have B2 := Aside0.mk hbox; replace HB := Aside0.mk (bst HB.out hb); clear hb hbox hg) | ((with_reducible refine gate_dst (N := 13) rfl ?_); refine lwx (g := g2) (bkt B2.out) ?_) | (go_at_call 9; (with_reducible refine (HS.out _ (bel HB.out)).mono ?_); rintro e w3 ⟨rfl, hb⟩; replace B2 := Aside0.mk (bkb B2.out hb); replace HB := Aside0.mk (bst HB.out hb); clear hb))
  refine wp_abs (TR w c g2) ⟨bkt B2.out, bel HB.out⟩ (fun W4 h4 => ?_)
  clear B2 HB
  have H4 := Aside0.mk h4
  clear h4
  go_upto_region 8 with fail
  obtain ⟨n, hn⟩ : ∃ n : Nat, c.cars.toNat = n := ⟨_, rfl⟩
  have hcn : c.cars = (n : Int) := by omega
  have hn100 : n ≤ 100 := by omega
  have HN := Aside0.mk hcn
  rw [hn] at HF
  have HF := Aside0.mk HF
  clear hn hcn
  go_loopw [8, 9] (fun v8 v9 wr => ∃ (k : Nat) (b : Bool), k ≤ n ∧ v9 = .int .i64 ((k : Int) + 1) ∧ v8 = .bool b ∧ Aside0 (carsF F (n - k) k b = some true) ∧ Aside0 (TR w c g2 wr)) (fun _ v _ => n + 1 - (intOf v).toNat)
  case atStart => exact ⟨0, false, Nat.zero_le _, rfl, rfl, ⟨by rw [Nat.sub_zero]; exact HF.out⟩, H4⟩
  case round =>
    obtain ⟨k, b, hk, rfl, rfl, HA, H5⟩ := hrel
    have c2 : wr.cell? ⟨g2, 2, none⟩ = some (.int .i64 n) := (blk_cell H5.out.b2 2).trans (by rw [← HN.out]; rfl)
    by_cases hkn : k < n
    · have hk1 : (k : Int) + 1 ≤ (n : Int) := by omega
      have hw : IntKind.i64.wrap ((k : Int) + 1 + 1) = (k : Int) + 1 + 1 := by rw [i64_w]; unfold wrap64; omega
      cases b with
      | true =>
        have HA2 := Aside0.mk (show carsF F (n - (k + 1)) (k + 1) true = some true by have z := HA.out; rw [show n - k = (n - (k + 1)) + 1 from by omega, carsF, if_pos rfl] at z; exact z)
        clear HA
        go_wp2
        go_roundw
        case rel => exact ⟨k + 1, true, by omega, by go_num, rfl, HA2, H5⟩
        case measure => simp [intOf]; omega
      | false =>
        have z := HA.out
        rw [show n - k = (n - (k + 1)) + 1 from by omega, carsF, if_neg (by simp)] at z
        obtain ⟨r, hr, hA2⟩ := Option.bind_eq_some_iff.mp z
        have HA2 := Aside0.mk hA2
        have HRR := Aside0.mk hr
        clear HA z hr hA2
        go_wp2_with (first | ((with_reducible refine gate_dst (N := 38) rfl ?_); refine lwxw (g := g2) H5.out.b2 (by rfl) ?_) | (go_at_call 24; (with_reducible refine (HO.out _ r HRR.out _ (bel H5.out.be)).mono ?_); rintro e w6 ⟨rfl, hb⟩; replace H5 := Aside0.mk (H5.out.step hb); clear hb))
        go_roundw
        case rel => exact ⟨k + 1, r, by omega, by go_num, rfl, HA2, H5⟩
        case measure => simp [intOf]; omega
    · have hk2 : k = n := by omega
      subst hk2
      have z := HA.out
      rw [Nat.sub_self, carsF] at z
      obtain rfl := Option.some.inj z
      clear z HA hk
      go_upto_region 14 with (first | ((with_reducible refine gate_dst (N := 46) rfl ?_); refine lwx (g := g2) H5.out.b2 ?_) | (go_at_call 25; (with_reducible refine (HT.out _ (bel H5.out.be)).mono ?_); rintro e w6 ⟨rfl, hb⟩; replace H5 := Aside0.mk (H5.out.step hb); clear hb c2))
      refine wp_abs (fun W => TR w c g2 W ∧ W.heap[w6.heap.size]? = some (.cells #[.int .i64 mv, .int .i64 dv, .int .i64 tr, .int .i64 sl, .int .i64 cy] 42)) ⟨⟨blk_alloc H5.out.b2 _, below_alloc H5.out.be _⟩, blk_new _ _⟩ (fun W6 h6 => ?_)
      clear H5
      generalize w6.heap.size = g8 at h6 ⊢
      have H6 := Aside0.mk h6
      have h8 : W6.cell? ⟨g8, 4, none⟩ = some (.int .i64 cy) := (blk_cell h6.2 4).trans rfl
      have hk2 : W6.cell? ⟨g2, 14 + m * 3 + 2, none⟩ = some (.int .i64 k0) := (blk_cell h6.1.b2 _).trans HK.out
      clear h6
      have hdw : IntKind.i64.wrap (d - 1) = (m : Int) := by rw [HDD.out, i64_w]; unfold wrap64; omega
      have hix := fun W => ixa W g2 14 m hm
      have hp : IntKind.i64.wrap (k0 + sh) = p0 := (i64_w _).trans Q1.out
      have hq : IntKind.i64.wrap (p0 - 1) = q0 := (i64_w _).trans Q2.out
      have hr : IntKind.i64.wrap (Int.tdiv q0 sh) = r0 := (i64_w _).trans Q3.out
      have hsh := HSH.out
      obtain ⟨r4, hr4⟩ : ∃ x, wrap64 (r0 + 4) = x := ⟨_, rfl⟩
      have hr4' : IntKind.i64.wrap (r0 + 4) = r4 := (i64_w _).trans hr4
      have hs : IntKind.i64.wrap (r4 * cy) = s0 := by rw [← hr4]; exact (i64_w _).trans Q4.out
      clear hr4
      go_quiet (fail)
      go_wp2
      go_ret2
      exact ⟨rfl, bel H6.out.1.be⟩
end Go.Proofs.Ytmdcjmackhjchaa.P
end

section
/- tipstafflaw41.awake, walked by hand over what its calls answer. -/
namespace Go.Proofs.Ytmdcjmackhjchaa.P
open Go.RowKit Go.Proofs.YtmdcjmackhjchaaW.PrintWords Go.Proofs.YtmdcjmackhjchaaW.PrintLast Go.Proofs.YtmdcjmackhjchaaW.PrintMore
attribute [local go_sem] cell_same1 cell_some1
set_option linter.unusedVariables false
set_option linter.unusedSimpArgs false

section
variable {P : Program} {ops : Array Oper} {Q : Exit → Act → World → Prop} {rest : List Oper} {o : Oper} {a : Act}
/-- A whole store: the world behind it is told by its blocks. -/
theorem swm {W : World} {g : Nat} {us : Array Value} {vs : List Value} {t : TypeId} {x y : Operand} (hb : W.heap[g]? = some (.cells us t (0, 0)))
    (h : ∀ W', W'.heap[g]? = some (.cells vs.toArray t (0, 0)) → (∀ k, k ≠ g → W'.heap[k]? = W.heap[k]?) → (∀ n w0, Below n w0 W → n ≤ g → Below n w0 W') → wpList P ops Q rest a W')
    (hs : us.size = vs.length) (ho : o.op = .store t x y := by rfl) (hd : o.dst = none := by rfl) (hgd : o.guard = none := by rfl) (hx : a.eval x = .pointer (some ⟨g, 0, none⟩) := by rfl) (hy : a.eval y = .agg vs.toArray := by rfl)
    (hi : (P.info? t).map (·.size) = some vs.length := by kernel_rfl) (h1 : vs.all (·.oneCell') = true := by rfl) : wpList P ops Q (o :: rest) a W := by
  have hset : ∀ (l : List Value) (i n : Nat) (w0 V : World), Below n w0 V → n ≤ g → Below n w0 (V.setCells g i l) := by
    intro l
    induction l with
    | nil => intro i n w0 V h _; exact h
    | cons v r ih => intro i n w0 V h hn; exact ih (i + 1) n w0 _ (h.setCell hn _) hn
  refine wpList_store_mid hgd t x y ho g 0 vs.toArray hx hy ?_ (by simpa using hi) (by rw [List.all_toArray]; exact h1) ?_
  · intro j hj
    refine ⟨?_, blk_frozen hb _⟩
    rw [blk_cell hb]
    have hj2 : 0 + j < us.size := by rw [hs]; simpa using hj
    rw [Array.getElem?_eq_getElem hj2]
    rfl
  · rw [hd]
    obtain ⟨cur, h3, h4, h5⟩ := setCells_row (g := g) vs 0 W us hb (by omega)
    have hc : cur = vs.toArray := by
      apply Array.toList_inj.mp
      rw [h5, List.take_zero, List.nil_append, List.drop_eq_nil_of_le (by rw [Array.length_toList]; omega), List.append_nil]
    rw [hc] at h3
    exact h _ h3 (fun k hk => setCells_far vs 0 k hk) (fun n w0 hn hng => hset vs 0 n w0 W hn hng)
end
set_option maxHeartbeats 4000000 in
set_option maxRecDepth 100000 in
theorem awake_ok (w : World) (E : Cfg → World → Prop) (m o mv dv tr sl cy : Int) (hm : wrap64 (8 * cy) = m) (hm0 : m > 0)
    (HE : Calls Try.prog 16 #[] w fun e w' => ∃ c : Cfg, e = .returned (.agg c.cells) ∧ c.cells.toList.all (·.oneCell') = true ∧ E c w' ∧ Below w.heap.size w w')
    (HX : ∀ c W W', E c W → Below W.heap.size W W' → E c W')
    (HS : ∀ c W, E c W → Calls Try.prog 8 #[.agg c.cells] W fun e w' => e = .returned (.tuple #[.int .i64 2, .int .i64 0]) ∧ Below W.heap.size W w')
    (H1 : ∀ c W, E c W → Calls Try.prog 10 #[.agg c.cells, .int .i64 1] W fun e w' => e = .returned (.tuple #[.int .i64 m, .int .i64 0]) ∧ Below W.heap.size W w')
    (H3 : ∀ c W, E c W → Calls Try.prog 10 #[.agg c.cells, .int .i64 3] W fun e w' => e = .returned (.tuple #[.int .i64 o, .int .i64 6]) ∧ Below W.heap.size W w')
    (HT : ∀ c W, E c W → Calls Try.prog 15 #[.agg c.cells] W fun e w' => e = .returned (.tuple #[.agg #[.int .i64 mv, .int .i64 dv, .int .i64 tr, .int .i64 sl, .int .i64 cy], .int .i64 0]) ∧ Below W.heap.size W w') :
    Calls Try.prog 6 #[] w fun e w' => e = .returned (.bool true) ∧ Below w.heap.size w w' := by
  have hu29 := Try.underlying29
  have hu42 := Try.underlying42
  have HE := Aside0.mk HE
  have HX := Aside0.mk HX
  have HS := Aside0.mk HS
  have H1 := Aside0.mk H1
  have H3 := Aside0.mk H3
  have HT := Aside0.mk HT
  have HM := Aside0.mk hm
  have HM0 := Aside0.mk hm0
  clear hm hm0
  go_enter Try.func6, Try.ntmps6
  go_upto_region 2 with (first | (go_at_call 16; (with_reducible refine HE.out.mono ?_); rintro e w1 ⟨c, rfl, ho, he, hb⟩; have HO := Aside0.mk ho; clear ho; have HEC := Aside0.mk he; have HB := Aside0.mk hb; clear he hb) | ((with_reducible refine gate_dst (N := 1) rfl ?_); refine bxe (cs := #[.int .i64 0, .slice none 0 0, .int .i64 0, .int .i64 0, .int .i64 0, .int .i64 0, .int .i64 0, .int .i64 0, .int .i64 0, .int .i64 0, .int .i64 0, .int .i64 0, .int .i64 0, .slice none 0 0, .int .u64 0, .int .i64 0, .int .i64 0, .int .u64 0, .int .i64 0, .int .i64 0, .int .u64 0, .int .i64 0, .int .i64 0, .slice none 0 0, .int .i64 0]) (t := 29) ?_; intro g1 hg w2 hbox hb; have B0 := Aside0.mk hbox; have G1 := Aside0.mk (show w1.heap.size ≤ g1 by rw [hg]; exact Nat.le_refl _); have B2 := Aside0.mk hb; clear hb hbox hg) | ((with_reducible refine gate_store (t := 29) (p := 1) rfl ?_); refine swm (g := g1) B0.out ?_ (by rfl) (h1 := HO.out); intro w3 hw3 hfar hbel; have B1 := Aside0.mk hw3; have B3 := Aside0.mk (hbel _ _ B2.out G1.out); clear hw3 hfar hbel))
  try simp only [Act.put, List.setIfInBounds_toArray, List.set_cons_zero, List.set_cons_succ]
  replace HEC := Aside0.mk (HX.out c _ _ HEC.out B3.out)
  replace HB := Aside0.mk (below_step HB.out B3.out)
  clear B0 B2 B3 G1
  replace B1 := Aside0.mk (show w3.heap[g1]? = some (.cells c.cells 29) from B1.out)
  go_upto_region 6 with (first | ((with_reducible refine gate_dst (N := 12) rfl ?_); refine lwx (g := g1) B1.out ?_) | ((with_reducible refine gate_dst (N := 17) rfl ?_); refine lwx (g := g1) B1.out ?_) | ((with_reducible refine gate_dst (N := 22) rfl ?_); refine lwx (g := g1) B1.out ?_) | ((with_reducible refine gate_dst (N := 27) rfl ?_); refine lwx (g := g1) B1.out ?_) | (go_at_call 8; (with_reducible refine (HS.out c _ HEC.out).mono ?_); rintro e w4 ⟨rfl, hb⟩; replace HEC := Aside0.mk (HX.out c _ _ HEC.out hb); replace B1 := Aside0.mk (blk_below B1.out hb); replace HB := Aside0.mk (below_step HB.out hb); clear hb) | (go_at_call 10; (with_reducible refine (H1.out c _ HEC.out).mono ?_); rintro e w5 ⟨rfl, hb⟩; replace HEC := Aside0.mk (HX.out c _ _ HEC.out hb); replace B1 := Aside0.mk (blk_below B1.out hb); replace HB := Aside0.mk (below_step HB.out hb); clear hb) | (go_at_call 10; (with_reducible refine (H3.out c _ HEC.out).mono ?_); rintro e w6 ⟨rfl, hb⟩; replace HEC := Aside0.mk (HX.out c _ _ HEC.out hb); replace B1 := Aside0.mk (blk_below B1.out hb); replace HB := Aside0.mk (below_step HB.out hb); clear hb) | (go_at_call 15; (with_reducible refine (HT.out c _ HEC.out).mono ?_); rintro e w7 ⟨rfl, hb⟩; replace HEC := Aside0.mk (HX.out c _ _ HEC.out hb); replace B1 := Aside0.mk (blk_below B1.out hb); replace HB := Aside0.mk (below_step HB.out hb); clear hb))
  have h8 : (w7.alloc (.cells #[.int .i64 mv, .int .i64 dv, .int .i64 tr, .int .i64 sl, .int .i64 cy] 42)).cell? ⟨w7.heap.size, 4, none⟩ = some (.int .i64 cy) := (blk_cell (blk_new w7 _) 4).trans rfl
  have hm : IntKind.i64.wrap (8 * cy) = m := (i64_w _).trans HM.out
  have hm0 : decide (0 < m) = true := decide_eq_true HM0.out
  go_wp2
  go_ret
  exact ⟨rfl, below_alloc HB.out _⟩
end Go.Proofs.Ytmdcjmackhjchaa.P
end

section
/- tipstafflaw41.BoundNumbers, walked by hand over what its calls answer. -/
namespace Go.Proofs.Ytmdcjmackhjchaa.P
open Go.RowKit Go.Proofs.YtmdcjmackhjchaaW.PrintWords Go.Proofs.YtmdcjmackhjchaaW.PrintLast Go.Proofs.YtmdcjmackhjchaaW.PrintMore
attribute [local go_sem] cell_same1 cell_some1
set_option linter.unusedVariables false
set_option linter.unusedSimpArgs false

set_option maxHeartbeats 4000000 in
set_option maxRecDepth 100000 in
theorem bn_not (c : Cfg) (d : Int) (w : World)
    (HL : ∀ W, Below w.heap.size w W → Calls Try.prog 5 #[.agg c.cells] W fun e w' => e = .returned (.bool false) ∧ Below W.heap.size W w')
    (HA : ∀ W, Calls Try.prog 6 #[] W fun e w' => e = .returned (.bool true) ∧ Below W.heap.size W w') :
    Calls Try.prog 3 #[.agg c.cells, .int .i64 d] w fun e w' => e = .returned (.bool true) ∧ Below w.heap.size w w' := by
  have hu29 := Try.underlying29
  have HL := Aside0.mk HL
  have HA := Aside0.mk HA
  have HB := Aside0.mk (Below.refl w.heap.size w)
  go_enter Try.func3, Try.ntmps3
  go_wp2_with (first | ((with_reducible refine gate_dst (N := 2) rfl ?_); refine bxe (cs := c.cells) (t := 29) ?_; intro g2 hg w1 hbox hb; have B2 := Aside0.mk hbox; replace HB := Aside0.mk (bst HB.out hb); clear hb hbox hg) | ((with_reducible refine gate_dst (N := 14) rfl ?_); refine lwx (g := g2) (bkt B2.out) ?_) | (go_at_call 5; (with_reducible refine (HL.out _ (bel HB.out)).mono ?_); rintro e w3 ⟨rfl, hb⟩; replace HB := Aside0.mk (bst HB.out hb); clear hb) | (go_at_call 6; (with_reducible refine (HA.out _).mono ?_); rintro e w4 ⟨rfl, hb⟩; replace HB := Aside0.mk (bst HB.out hb); clear hb))
  go_ret
  exact ⟨rfl, bel HB.out⟩
set_option maxHeartbeats 4000000 in
set_option maxRecDepth 100000 in
theorem bn_ok (c : Cfg) (d a x n y : Int) (w : World) (E : Cfg → World → Prop)
    (HL : ∀ W, Below w.heap.size w W → Calls Try.prog 5 #[.agg c.cells] W fun e w' => e = .returned (.bool true) ∧ Below W.heap.size W w')
    (HO : ∀ W, Below w.heap.size w W → Calls Try.prog 7 #[.agg c.cells] W fun e w' => ∃ c' : Cfg, e = .returned (.agg c'.cells) ∧ c'.cells.toList.all (·.oneCell') = true ∧ E c' w' ∧ Below W.heap.size W w')
    (HX : ∀ c' W W', E c' W → Below W.heap.size W W' → E c' W')
    (HS : ∀ c' W, E c' W → Calls Try.prog 8 #[.agg c'.cells] W fun e w' => e = .returned (.tuple #[.int .i64 a, .int .i64 x]) ∧ Below W.heap.size W w')
    (HRS : ∀ W, Below w.heap.size w W → Calls Try.prog 9 #[.agg c.cells] W fun e w' => e = .returned (.tuple #[.int .i64 a, .int .i64 x]) ∧ Below W.heap.size W w')
    (HT : ∀ c' W, E c' W → Calls Try.prog 10 #[.agg c'.cells, .int .i64 d] W fun e w' => e = .returned (.tuple #[.int .i64 n, .int .i64 y]) ∧ Below W.heap.size W w')
    (HRT : ∀ W, Below w.heap.size w W → Calls Try.prog 11 #[.agg c.cells, .int .i64 d] W fun e w' => e = .returned (.tuple #[.int .i64 n, .int .i64 y]) ∧ Below W.heap.size W w')
    (HQ : ∀ c' W, E c' W → Below w.heap.size w W → Calls Try.prog 12 #[.agg c'.cells, .agg c.cells] W fun e w' => e = .returned (.bool true) ∧ Below W.heap.size W w')
    (HA : ∀ W, Calls Try.prog 6 #[] W fun e w' => e = .returned (.bool true) ∧ Below W.heap.size W w') :
    Calls Try.prog 3 #[.agg c.cells, .int .i64 d] w fun e w' => e = .returned (.bool true) ∧ Below w.heap.size w w' := by
  have hu29 := Try.underlying29
  have HL := Aside0.mk HL
  have HO := Aside0.mk HO
  have HX := Aside0.mk HX
  have HS := Aside0.mk HS
  have HRS := Aside0.mk HRS
  have HT := Aside0.mk HT
  have HRT := Aside0.mk HRT
  have HQ := Aside0.mk HQ
  have HA := Aside0.mk HA
  have HB := Aside0.mk (Below.refl w.heap.size w)
  go_enter Try.func3, Try.ntmps3
  go_upto_region 4 with (first | ((with_reducible refine gate_dst (N := 2) rfl ?_); refine bxe (cs := c.cells) (t := 29) ?_; intro g2 hg w1 hbox hb; have B2 := Aside0.mk hbox; replace HB := Aside0.mk (bst HB.out hb); clear hb hbox hg) | ((with_reducible refine gate_dst (N := 14) rfl ?_); refine lwx (g := g2) (bkt B2.out) ?_) | ((with_reducible refine gate_dst (N := 18) rfl ?_); refine lwx (g := g2) (bkt B2.out) ?_) | (go_at_call 5; (with_reducible refine (HL.out _ (bel HB.out)).mono ?_); rintro e w3 ⟨rfl, hb⟩; replace B2 := Aside0.mk (bkb B2.out hb); replace HB := Aside0.mk (bst HB.out hb); clear hb) | (go_at_call 7; (with_reducible refine (HO.out _ (bel HB.out)).mono ?_); rintro e w4 ⟨c', rfl, ho, he, hb⟩; have HOC := Aside0.mk ho; have HEC := Aside0.mk he; replace B2 := Aside0.mk (bkb B2.out hb); replace HB := Aside0.mk (bst HB.out hb); clear hb ho he) | ((with_reducible refine gate_dst (N := 5) rfl ?_); refine bxe (cs := #[.int .i64 0, .slice none 0 0, .int .i64 0, .int .i64 0, .int .i64 0, .int .i64 0, .int .i64 0, .int .i64 0, .int .i64 0, .int .i64 0, .int .i64 0, .int .i64 0, .int .i64 0, .slice none 0 0, .int .u64 0, .int .i64 0, .int .i64 0, .int .u64 0, .int .i64 0, .int .i64 0, .int .u64 0, .int .i64 0, .int .i64 0, .slice none 0 0, .int .i64 0]) (t := 29) ?_; intro g5 hg w5 hbox hb; have B0 := Aside0.mk hbox; have G5 := Aside0.mk (show w4.heap.size ≤ g5 by rw [hg]; exact Nat.le_refl _); have BL := Aside0.mk hb; clear hb hbox hg) | ((with_reducible refine gate_store (t := 29) (p := 5) rfl ?_); refine swm (g := g5) B0.out ?_ (by rfl) (h1 := HOC.out); intro w6 hw6 hfar hbel; have B5 := Aside0.mk hw6; have B3 := Aside0.mk (hbel _ _ BL.out G5.out); clear hw6 hfar hbel))
  try simp only [Act.put, List.setIfInBounds_toArray, List.set_cons_zero, List.set_cons_succ]
  replace HEC := Aside0.mk (HX.out c' _ _ HEC.out B3.out)
  replace B2 := Aside0.mk (blk_below B2.out B3.out)
  replace HB := Aside0.mk (below_step HB.out B3.out)
  clear B0 BL B3 G5
  replace B5 := Aside0.mk (show w6.heap[g5]? = some (.cells c'.cells 29) from B5.out)
  go_wp2_with (first | ((with_reducible refine gate_dst (N := 21) rfl ?_); refine lwx (g := g5) B5.out ?_) | ((with_reducible refine gate_dst (N := 26) rfl ?_); refine lwx (g := g2) B2.out ?_) | ((with_reducible refine gate_dst (N := 31) rfl ?_); refine lwx (g := g5) B5.out ?_) | ((with_reducible refine gate_dst (N := 37) rfl ?_); refine lwx (g := g2) B2.out ?_) | ((with_reducible refine gate_dst (N := 61) rfl ?_); refine lwxw (g := g5) B5.out (by rfl) ?_) | ((with_reducible refine gate_dst (N := 62) rfl ?_); refine lwxw (g := g2) B2.out (by rfl) ?_) | (go_at_call 8; (with_reducible refine (HS.out c' _ HEC.out).mono ?_); rintro e w7 ⟨rfl, hb⟩; replace HEC := Aside0.mk (HX.out c' _ _ HEC.out hb); replace B2 := Aside0.mk (blk_below B2.out hb); replace B5 := Aside0.mk (blk_below B5.out hb); replace HB := Aside0.mk (below_step HB.out hb); clear hb) | (go_at_call 9; (with_reducible refine (HRS.out _ HB.out).mono ?_); rintro e w8 ⟨rfl, hb⟩; replace HEC := Aside0.mk (HX.out c' _ _ HEC.out hb); replace B2 := Aside0.mk (blk_below B2.out hb); replace B5 := Aside0.mk (blk_below B5.out hb); replace HB := Aside0.mk (below_step HB.out hb); clear hb) | (go_at_call 10; (with_reducible refine (HT.out c' _ HEC.out).mono ?_); rintro e w9 ⟨rfl, hb⟩; replace HEC := Aside0.mk (HX.out c' _ _ HEC.out hb); replace B2 := Aside0.mk (blk_below B2.out hb); replace B5 := Aside0.mk (blk_below B5.out hb); replace HB := Aside0.mk (below_step HB.out hb); clear hb) | (go_at_call 11; (with_reducible refine (HRT.out _ HB.out).mono ?_); rintro e w10 ⟨rfl, hb⟩; replace HEC := Aside0.mk (HX.out c' _ _ HEC.out hb); replace B2 := Aside0.mk (blk_below B2.out hb); replace B5 := Aside0.mk (blk_below B5.out hb); replace HB := Aside0.mk (below_step HB.out hb); clear hb) | (go_at_call 12; (with_reducible refine (HQ.out c' _ HEC.out HB.out).mono ?_); rintro e w11 ⟨rfl, hb⟩; replace HB := Aside0.mk (below_step HB.out hb); clear hb) | (go_at_call 6; (with_reducible refine (HA.out _).mono ?_); rintro e w12 ⟨rfl, hb⟩; replace HB := Aside0.mk (below_step HB.out hb); clear hb))
  go_ret
  exact ⟨rfl, HB.out⟩
end Go.Proofs.Ytmdcjmackhjchaa.P
end

section
-- Printed by wip/myprint.py of this repo (over the kit's printer). Not trusted: Lean checks it.
namespace Go.Proofs.Ytmdcjmackhjchaa.P
open Go.RowKit Go.Proofs.YtmdcjmackhjchaaW.PrintWords Go.Proofs.YtmdcjmackhjchaaW.PrintLast Go.Proofs.YtmdcjmackhjchaaW.PrintMore
attribute [local go_sem] cell_same1 cell_some1 ix27_0 ix27_1 ix27_2
attribute [local go_sem] max2_int min2_int max_two min_two max_three min_three max_four min_four   -- for this text's walks alone
set_option linter.unusedVariables false
set_option linter.unusedSimpArgs false

/-! ### mask_below: function 62 -/
def mask_below.f (a0 : Int) : Option (Int) := if a0 ≥ 64 then (some 18446744073709551615) else (if 0 ≤ (IntKind.u64.wrap (a0)) then (some (IntKind.u64.wrap ((shl .u64 1 (IntKind.u64.wrap (a0))) - 1))) else (none))
set_option maxHeartbeats 8000000 in
set_option maxRecDepth 100000 in
theorem mask_below.calls (a0 : Int) (r : Int) (w : World) (h : mask_below.f a0 = some r) :
    Calls Try.prog 62 #[.int .i64 a0] w fun e w' => e = .returned (.int .u64 r) ∧ Drawn0 w w' := by
  have H : (if a0 ≥ 64 then (some 18446744073709551615) else (if 0 ≤ (IntKind.u64.wrap (a0)) then (some (IntKind.u64.wrap ((shl .u64 1 (IntKind.u64.wrap (a0))) - 1))) else (none))) = some r := h
  clear h
  by_cases c2 : a0 ≥ 64
  · as_aux_lemma =>
    rw [if_pos c2] at H
    have c2b0 : decide (64 ≤ a0) = true := decide_eq_true c2
    clear c2
    obtain rfl := Option.some.inj H
    go_enter Try.func62, Try.ntmps62
    go_wp2
    go_ret
    exact ⟨by first | rfl | (simp; done) | (simp [*]; done), by repeat (first | exact Drawn0.refl _ | apply Drawn0.step)⟩
  · as_aux_lemma =>
    rw [if_neg c2] at H
    have c2b0 : decide (64 ≤ a0) = false := decide_eq_false c2
    clear c2
    obtain ⟨ji3, hji3⟩ : ∃ j_ : Int, (IntKind.u64.wrap (a0)) = j_ := ⟨_, rfl⟩
    replace H : (if 0 ≤ (ji3) then (some (IntKind.u64.wrap ((shl .u64 1 (ji3)) - 1))) else (none)) = some r := by first | (rw [hji3] at H; exact H) | (simp only [hji3] at H ⊢; exact H)
    by_cases c4 : 0 ≤ (ji3)
    · as_aux_lemma =>
      rw [if_pos c4] at H
      have c4b0 := eq_true c4
      have c4b1 : decide (0 ≤ (ji3)) = true := decide_eq_true c4
      clear c4
      obtain ⟨ji5, hji5⟩ : ∃ j_ : Int, (shl .u64 1 (ji3)) = j_ := ⟨_, rfl⟩
      replace H : (some (IntKind.u64.wrap ((ji5) - 1))) = some r := by first | (rw [hji5] at H; exact H) | (simp only [hji5] at H ⊢; exact H)
      have hji5_ : (IntKind.u64.wrap (1 * 2 ^ min (ji3).toNat 64)) = ji5 := hji5
      have hji5z : (ji3) ≤ 64 → (IntKind.u64.wrap (1 * 2 ^ (ji3).toNat)) = ji5 := shl_small hji5
      have hji5u : (IntKind.u64.wrap (2 ^ min (ji3).toNat 64)) = ji5 := by have h_ := hji5_; rw [Int.one_mul] at h_; exact h_
      have hji5v : (ji3) ≤ 64 → (IntKind.u64.wrap (2 ^ (ji3).toNat)) = ji5 := fun hle_ => by have h_ := hji5z hle_; rw [Int.one_mul] at h_; exact h_
      obtain rfl := Option.some.inj H
      go_enter Try.func62, Try.ntmps62
      go_wp2
      go_ret
      exact ⟨by first | rfl | (simp; done) | (simp only [← hji3, ← hji5] <;> (first | rfl | simp)) | (simp [*]; done), by repeat (first | exact Drawn0.refl _ | apply Drawn0.step)⟩
    · rw [if_neg c4] at H
      exact absurd H (by simp)

/-! ### mask_All: function 55 -/
def mask_All.f (a0 : Int) : Option (Int × Int) := if a0 < 0 then (some (0, 2)) else (if a0 > 64 then (some (0, 2)) else ((mask_below.f a0).bind fun t103 => (some (t103, 0))))
set_option maxHeartbeats 8000000 in
set_option maxRecDepth 100000 in
theorem mask_All.calls (a0 : Int) (r1 : Int) (r2 : Int) (w : World) (h : mask_All.f a0 = some (r1, r2)) :
    Calls Try.prog 55 #[.int .i64 a0] w fun e w' => e = .returned (.tuple #[.int .u64 r1, .int .i64 r2]) ∧ Drawn0 w w' := by
  have H : (if a0 < 0 then (some (0, 2)) else (if a0 > 64 then (some (0, 2)) else ((mask_below.f a0).bind fun t103 => (some (t103, 0))))) = some (r1, r2) := h
  clear h
  by_cases c2 : a0 < 0
  · as_aux_lemma =>
    rw [if_pos c2] at H
    have c2b0 : decide (a0 < 0) = true := decide_eq_true c2
    clear c2
    simp only [Option.some.injEq, Prod.mk.injEq] at H
    obtain ⟨rfl, rfl⟩ := H
    go_enter Try.func55, Try.ntmps55
    go_wp2
    go_ret2
    exact ⟨by first | rfl | (simp; done) | (simp [*]; done), by repeat (first | exact Drawn0.refl _ | apply Drawn0.step)⟩
  · as_aux_lemma =>
    rw [if_neg c2] at H
    have c2b0 : decide (a0 < 0) = false := decide_eq_false c2
    clear c2
    by_cases c3 : a0 > 64
    · as_aux_lemma =>
      rw [if_pos c3] at H
      have c3b0 : decide (64 < a0) = true := decide_eq_true c3
      clear c3
      simp only [Option.some.injEq, Prod.mk.injEq] at H
      obtain ⟨rfl, rfl⟩ := H
      go_enter Try.func55, Try.ntmps55
      go_wp2
      go_ret2
      exact ⟨by first | rfl | (simp; done) | (simp [*]; done), by repeat (first | exact Drawn0.refl _ | apply Drawn0.step)⟩
    · as_aux_lemma =>
      rw [if_neg c3] at H
      have c3b0 : decide (64 < a0) = false := decide_eq_false c3
      clear c3
      replace H := Option.bind_eq_some_iff.mp H
      obtain ⟨t103, A40, H⟩ := H
      replace H : (some (t103, 0)) = some (r1, r2) := H
      have A4 := Aside0.mk A40
      clear A40
      simp only [Option.some.injEq, Prod.mk.injEq] at H
      obtain ⟨rfl, rfl⟩ := H
      go_enter Try.func55, Try.ntmps55
      go_wp2_with (first | ((with_reducible refine gate_callee (f := 62) rfl ?_); refine gsl (some 11) Try.func62 #[.int .i64 a0] ?_; (with_reducible refine (mask_below.calls a0 t103 _ A4.out).mono ?_); rintro e w' ⟨rfl, ⟨nd, rfl⟩⟩; refine ⟨_, rfl, ?_⟩))
      go_ret2
      exact ⟨by first | rfl | (simp; done) | (simp [*]; done), by repeat (first | exact Drawn0.refl _ | apply Drawn0.step)⟩

/-! ### mask_floor: function 63 -/
def mask_floor.f (a0 : Int) : Option (Bool) := if a0 ≥ 0 then (some (decide (a0 < 64))) else (some false)
set_option maxHeartbeats 8000000 in
set_option maxRecDepth 100000 in
theorem mask_floor.calls (a0 : Int) (r : Bool) (w : World) (h : mask_floor.f a0 = some r) :
    Calls Try.prog 63 #[.int .i64 a0] w fun e w' => e = .returned (.bool r) ∧ Drawn0 w w' := by
  have H : (if a0 ≥ 0 then (some (decide (a0 < 64))) else (some false)) = some r := h
  clear h
  by_cases c2 : a0 ≥ 0
  · as_aux_lemma =>
    rw [if_pos c2] at H
    have c2b0 : decide (0 ≤ a0) = true := decide_eq_true c2
    clear c2
    obtain rfl := Option.some.inj H
    go_enter Try.func63, Try.ntmps63
    go_wp2
    go_ret
    exact ⟨by first | rfl | (simp; done) | (simp [*]; done), by repeat (first | exact Drawn0.refl _ | apply Drawn0.step)⟩
  · as_aux_lemma =>
    rw [if_neg c2] at H
    have c2b0 : decide (0 ≤ a0) = false := decide_eq_false c2
    clear c2
    obtain rfl := Option.some.inj H
    go_enter Try.func63, Try.ntmps63
    go_wp2
    go_ret
    exact ⟨by first | rfl | (simp; done) | (simp [*]; done), by repeat (first | exact Drawn0.refl _ | apply Drawn0.step)⟩

/-! ### mask_Has: function 56 -/
def mask_Has.f (a0 : Int) (a1 : Int) : Option (Bool) := (mask_floor.f a1).bind fun t104 => (if t104 = true then (if 0 ≤ (IntKind.u64.wrap (a1)) then (some ((Go.bits .and .u64 a0 (shl .u64 1 (IntKind.u64.wrap (a1)))) != 0)) else (none)) else (some false))
set_option maxHeartbeats 8000000 in
set_option maxRecDepth 100000 in
theorem mask_Has.calls (a0 : Int) (a1 : Int) (r : Bool) (w : World) (h : mask_Has.f a0 a1 = some r) :
    Calls Try.prog 56 #[.int .u64 a0, .int .i64 a1] w fun e w' => e = .returned (.bool r) ∧ Drawn0 w w' := by
  have H : ((mask_floor.f a1).bind fun t104 => (if t104 = true then (if 0 ≤ (IntKind.u64.wrap (a1)) then (some ((Go.bits .and .u64 a0 (shl .u64 1 (IntKind.u64.wrap (a1)))) != 0)) else (none)) else (some false))) = some r := h
  clear h
  replace H := Option.bind_eq_some_iff.mp H
  obtain ⟨t104, A30, H⟩ := H
  replace H : (if t104 = true then (if 0 ≤ (IntKind.u64.wrap (a1)) then (some ((Go.bits .and .u64 a0 (shl .u64 1 (IntKind.u64.wrap (a1)))) != 0)) else (none)) else (some false)) = some r := H
  have A3 := Aside0.mk A30
  clear A30
  by_cases c4 : t104 = true
  · as_aux_lemma =>
    subst c4
    have H1 : (if 0 ≤ (IntKind.u64.wrap (a1)) then (some ((Go.bits .and .u64 a0 (shl .u64 1 (IntKind.u64.wrap (a1)))) != 0)) else (none)) = some r := by rw [if_pos rfl] at H; exact H
    clear H
    have H := H1
    clear H1
    obtain ⟨ji5, hji5⟩ : ∃ j_ : Int, (IntKind.u64.wrap (a1)) = j_ := ⟨_, rfl⟩
    replace H : (if 0 ≤ (ji5) then (some ((Go.bits .and .u64 a0 (shl .u64 1 (ji5))) != 0)) else (none)) = some r := by first | (rw [hji5] at H; exact H) | (simp only [hji5] at H ⊢; exact H)
    (try rw [hji5] at A3)
    by_cases c6 : 0 ≤ (ji5)
    · as_aux_lemma =>
      rw [if_pos c6] at H
      have c6b0 := eq_true c6
      have c6b1 : decide (0 ≤ (ji5)) = true := decide_eq_true c6
      clear c6
      obtain ⟨ji7, hji7⟩ : ∃ j_ : Int, (shl .u64 1 (ji5)) = j_ := ⟨_, rfl⟩
      replace H : (some ((Go.bits .and .u64 a0 (ji7)) != 0)) = some r := by first | (rw [hji7] at H; exact H) | (simp only [hji7] at H ⊢; exact H)
      (try rw [hji7] at A3)
      have hji7_ : (IntKind.u64.wrap (1 * 2 ^ min (ji5).toNat 64)) = ji7 := hji7
      have hji7z : (ji5) ≤ 64 → (IntKind.u64.wrap (1 * 2 ^ (ji5).toNat)) = ji7 := shl_small hji7
      have hji7u : (IntKind.u64.wrap (2 ^ min (ji5).toNat 64)) = ji7 := by have h_ := hji7_; rw [Int.one_mul] at h_; exact h_
      have hji7v : (ji5) ≤ 64 → (IntKind.u64.wrap (2 ^ (ji5).toNat)) = ji7 := fun hle_ => by have h_ := hji7z hle_; rw [Int.one_mul] at h_; exact h_
      obtain rfl := Option.some.inj H
      go_enter Try.func56, Try.ntmps56
      go_wp2_with (first | ((with_reducible refine gate_callee (f := 63) rfl ?_); refine gsl (some 6) Try.func63 #[.int .i64 a1] ?_; (with_reducible refine (mask_floor.calls a1 true _ A3.out).mono ?_); rintro e w' ⟨rfl, ⟨nd, rfl⟩⟩; refine ⟨_, rfl, ?_⟩))
      go_ret
      exact ⟨by first | rfl | (simp; done) | (simp only [← hji5, ← hji7] <;> (first | rfl | simp)) | (simp [*]; done), by repeat (first | exact Drawn0.refl _ | apply Drawn0.step)⟩
    · rw [if_neg c6] at H
      exact absurd H (by simp)
  · as_aux_lemma =>
    replace c4 := Bool.eq_false_iff.mpr c4
    subst c4
    have H1 : (some false) = some r := by rw [if_neg (show ¬ (false = true) by decide)] at H; exact H
    clear H
    have H := H1
    clear H1
    obtain rfl := Option.some.inj H
    go_enter Try.func56, Try.ntmps56
    go_wp2_with (first | ((with_reducible refine gate_callee (f := 63) rfl ?_); refine gsl (some 6) Try.func63 #[.int .i64 a1] ?_; (with_reducible refine (mask_floor.calls a1 false _ A3.out).mono ?_); rintro e w' ⟨rfl, ⟨nd, rfl⟩⟩; refine ⟨_, rfl, ?_⟩))
    go_ret
    exact ⟨by first | rfl | (simp; done) | (simp [*]; done), by repeat (first | exact Drawn0.refl _ | apply Drawn0.step)⟩

end Go.Proofs.Ytmdcjmackhjchaa.P
end

section
-- Printed by wip/myprint.py of this repo (over the kit's printer). Not trusted: Lean checks it.
namespace Go.Proofs.Ytmdcjmackhjchaa.P
open Go.RowKit Go.Proofs.YtmdcjmackhjchaaW.PrintWords Go.Proofs.YtmdcjmackhjchaaW.PrintLast Go.Proofs.YtmdcjmackhjchaaW.PrintMore
attribute [local go_sem] cell_same1 cell_some1 ix27_0 ix27_1 ix27_2
attribute [local go_sem] max2_int min2_int max_two min_two max_three min_three max_four min_four   -- for this text's walks alone
set_option linter.unusedVariables false
set_option linter.unusedSimpArgs false

/-! ### r02_Has: function 46 -/
def r02_Has.f (a0 : Int) (a1 : Int) : Option (Bool) := if a1 ≥ 0 then (if a1 < 64 then (if 0 ≤ (IntKind.u64.wrap (a1)) then (some ((Go.bits .and .u64 (shr .u64 a0 (IntKind.u64.wrap (a1))) 1) == 1)) else (none)) else (some false)) else (some false)
set_option maxHeartbeats 8000000 in
set_option maxRecDepth 100000 in
theorem r02_Has.calls (a0 : Int) (a1 : Int) (r : Bool) (w : World) (h : r02_Has.f a0 a1 = some r) :
    Calls Try.prog 46 #[.int .u64 a0, .int .i64 a1] w fun e w' => e = .returned (.bool r) ∧ Drawn0 w w' := by
  have H : (if a1 ≥ 0 then (if a1 < 64 then (if 0 ≤ (IntKind.u64.wrap (a1)) then (some ((Go.bits .and .u64 (shr .u64 a0 (IntKind.u64.wrap (a1))) 1) == 1)) else (none)) else (some false)) else (some false)) = some r := h
  clear h
  by_cases c3 : a1 ≥ 0
  · as_aux_lemma =>
    rw [if_pos c3] at H
    have c3b0 : decide (0 ≤ a1) = true := decide_eq_true c3
    clear c3
    by_cases c4 : a1 < 64
    · as_aux_lemma =>
      rw [if_pos c4] at H
      have c4b0 : decide (a1 < 64) = true := decide_eq_true c4
      clear c4
      obtain ⟨ji5, hji5⟩ : ∃ j_ : Int, (IntKind.u64.wrap (a1)) = j_ := ⟨_, rfl⟩
      replace H : (if 0 ≤ (ji5) then (some ((Go.bits .and .u64 (shr .u64 a0 (ji5)) 1) == 1)) else (none)) = some r := by first | (rw [hji5] at H; exact H) | (simp only [hji5] at H ⊢; exact H)
      by_cases c6 : 0 ≤ (ji5)
      · as_aux_lemma =>
        rw [if_pos c6] at H
        have c6b0 := eq_true c6
        have c6b1 : decide (0 ≤ (ji5)) = true := decide_eq_true c6
        clear c6
        obtain ⟨ji7, hji7⟩ : ∃ j_ : Int, (shr .u64 a0 (ji5)) = j_ := ⟨_, rfl⟩
        replace H : (some ((Go.bits .and .u64 (ji7) 1) == 1)) = some r := by first | (rw [hji7] at H; exact H) | (simp only [hji7] at H ⊢; exact H)
        have hji7_ : (a0 / 2 ^ min (ji5).toNat 64) = ji7 := hji7
        have hji7z : (ji5) ≤ 64 → (a0 / 2 ^ (ji5).toNat) = ji7 := shr_small hji7
        obtain rfl := Option.some.inj H
        go_enter Try.func46, Try.ntmps46
        go_wp2
        go_ret
        exact ⟨by first | rfl | (simp; done) | (simp only [← hji5, ← hji7] <;> (first | rfl | simp)) | (simp [*]; done), by repeat (first | exact Drawn0.refl _ | apply Drawn0.step)⟩
      · rw [if_neg c6] at H
        exact absurd H (by simp)
    · as_aux_lemma =>
      rw [if_neg c4] at H
      have c4b0 : decide (a1 < 64) = false := decide_eq_false c4
      clear c4
      obtain rfl := Option.some.inj H
      go_enter Try.func46, Try.ntmps46
      go_wp2
      go_ret
      exact ⟨by first | rfl | (simp; done) | (simp [*]; done), by repeat (first | exact Drawn0.refl _ | apply Drawn0.step)⟩
  · as_aux_lemma =>
    rw [if_neg c3] at H
    have c3b0 : decide (0 ≤ a1) = false := decide_eq_false c3
    clear c3
    obtain rfl := Option.some.inj H
    go_enter Try.func46, Try.ntmps46
    go_wp2
    go_ret
    exact ⟨by first | rfl | (simp; done) | (simp [*]; done), by repeat (first | exact Drawn0.refl _ | apply Drawn0.step)⟩

end Go.Proofs.Ytmdcjmackhjchaa.P
end
