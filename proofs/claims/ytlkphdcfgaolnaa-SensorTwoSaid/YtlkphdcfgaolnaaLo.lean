/- A vote does not depend on the order of the readings, and is valid: the law's own code, walked by hand. -/
import Derived.Test.YtlkphdcfgaolnaaM
import Derived.Test.YtlkphdcfgaolnaaVa
import Derived.Test.YtlkphdcfgaolnaaOa
import Derived.Test.YtlkphdcfgaolnaaLSensorKnown
import Derived.Test.YtlkphdcfgaolnaaE23
import Derived.Deep.RegionHeld3
namespace Go.Proofs.Ytlkphdcfgaolnaa.P
open Go.RowKit Go.Proofs.YtlkphdcfgaolnaaW.PrintWords Go.Proofs.YtlkphdcfgaolnaaW.PrintLast Go.Proofs.YtlkphdcfgaolnaaW.PrintMore
attribute [local go_sem] cell_same1 cell_some1
attribute [local go_sem high] eqA23
set_option linter.unusedVariables false
set_option linter.unusedSimpArgs false

theorem bsl {P : Program} {ops : Array Oper} {o : Oper} {rest : List Oper} {a : Act} {Q : Exit → Act → World → Prop} {W : World} {cs : Array Value} {t : TypeId} {N : Tmp} {n : Nat}
    (h : ∀ g, g = W.heap.size → ∀ w1, w1.heap[g]? = some (.cells cs t (0, 0)) → Below W.heap.size W w1 → wpList P ops Q rest (a.put o.dst (.slice (some ⟨g, 0, none⟩) n n)) w1)
    (hd : o.dst = some N := by rfl) (hgd : o.guard = none := by rfl)
    (hrun : (execOp a.eval o).run P W = .ok (.value (.slice (some ⟨W.heap.size, 0, none⟩) n n)) (W.alloc (.cells cs t (0, 0))) := by first | (go_simp; done) | (go_simp; rfl)) : wpList P ops Q (o :: rest) a W :=
  Kd.event_run hgd hrun (h _ rfl _ (blk_new _ _) (below_alloc (Below.refl _ _) _))
/-- The cells of three readings in a row. -/
abbrev row9 (p q s : R3) : Array Value := #[.bool p.1, .int .i64 p.2.1, .int .i64 p.2.2, .bool q.1, .int .i64 q.2.1, .int .i64 q.2.2, .bool s.1, .int .i64 s.2.1, .int .i64 s.2.2]
abbrev row3 (p : R3) : Array Value := #[.bool p.1, .int .i64 p.2.1, .int .i64 p.2.2]
structure OM (w : World) (g8 g9 g10 g11 : Nat) (x y z v : R3) (W : World) : Prop where
  below : Below w.heap.size w W
  a8 : W.heap[g8]? = some (.cells (row3 x) 23)
  a9 : W.heap[g9]? = some (.cells (row3 y) 23)
  a10 : W.heap[g10]? = some (.cells (row3 z) 23)
  a11 : W.heap[g11]? = some (.cells (row3 v) 23)
theorem OM.step {w : World} {g8 g9 g10 g11 : Nat} {x y z v : R3} {W W2 : World} (h : OM w g8 g9 g10 g11 x y z v W) (hb : Below W.heap.size W W2) : OM w g8 g9 g10 g11 x y z v W2 :=
  ⟨below_step h.below hb, blk_below h.a8 hb, blk_below h.a9 hb, blk_below h.a10 hb, blk_below h.a11 hb⟩
/-- What the loop reads: five rows of three readings, and the readings' vote. -/
structure LM (w : World) (g11 ob : Nat) (cs : Array Value) (v : R3) (W : World) : Prop where
  below : Below w.heap.size w W
  a11 : W.heap[g11]? = some (.cells (row3 v) 23)
  lo : w.heap.size ≤ g11
  ro : W.heap[ob]? = some (.cells cs 51)
  rows : ∀ k : Nat, k < 5 → ∃ (r : Nat) (p q s : R3), cs[k]? = some (.slice (some ⟨r, 0, none⟩) 3 3) ∧ W.heap[r]? = some (.cells (row9 p q s) 23) ∧ sensor_Vote.f p.1 p.2.1 p.2.2 q.1 q.2.1 q.2.2 s.1 s.2.1 s.2.2 = some (v.1, v.2.1, v.2.2, 0)
theorem LM.step {w : World} {g11 ob : Nat} {cs : Array Value} {v : R3} {W W2 : World} (h : LM w g11 ob cs v W) (hb : Below W.heap.size W W2) : LM w g11 ob cs v W2 :=
  ⟨below_step h.below hb, blk_below h.a11 hb, h.lo, blk_below h.ro hb, fun k hk => by
    obtain ⟨r, p, q, s, h1, h2, h3⟩ := h.rows k hk
    exact ⟨r, p, q, s, h1, blk_below h2 hb, h3⟩⟩
theorem cells9r {W : World} {r : Nat} {t : TypeId} {p q s : R3} (h : W.heap[r]? = some (.cells (row9 p q s) t (0, 0))) :
    W.cell? ⟨r, 0, none⟩ = some (.bool p.1) ∧ W.cell? ⟨r, 1, none⟩ = some (.int .i64 p.2.1) ∧ W.cell? ⟨r, 2, none⟩ = some (.int .i64 p.2.2) ∧ W.cell? ⟨r, 3, none⟩ = some (.bool q.1) ∧ W.cell? ⟨r, 4, none⟩ = some (.int .i64 q.2.1) ∧ W.cell? ⟨r, 5, none⟩ = some (.int .i64 q.2.2) ∧ W.cell? ⟨r, 6, none⟩ = some (.bool s.1) ∧ W.cell? ⟨r, 7, none⟩ = some (.int .i64 s.2.1) ∧ W.cell? ⟨r, 8, none⟩ = some (.int .i64 s.2.2) :=
  ⟨(blk_cell h 0).trans rfl, (blk_cell h 1).trans rfl, (blk_cell h 2).trans rfl, (blk_cell h 3).trans rfl, (blk_cell h 4).trans rfl, (blk_cell h 5).trans rfl, (blk_cell h 6).trans rfl, (blk_cell h 7).trans rfl, (blk_cell h 8).trans rfl⟩

theorem lmS {W : World} {ob r k : Nat} {cs : Array Value} {t t2 : TypeId} {p0 q0 s0 : Bool} {p1 p2 q1 q2 s1 s2 : Int} (h1 : W.heap[ob]? = some (.cells cs t (0, 0))) (h2 : W.heap[r]? = some (.cells (row9 (p0, p1, p2) (q0, q1, q2) (s0, s1, s2)) t2 (0, 0))) (hc : cs[k]? = some (.slice (some ⟨r, 0, none⟩) 3 3)) :
    W.cell? ⟨ob, k, none⟩ = some (.slice (some ⟨r, 0, none⟩) 3 3) ∧ W.cell? ⟨r, 0, none⟩ = some (.bool p0) ∧ W.cell? ⟨r, 1, none⟩ = some (.int .i64 p1) ∧ W.cell? ⟨r, 2, none⟩ = some (.int .i64 p2) ∧ W.cell? ⟨r, 3, none⟩ = some (.bool q0) ∧ W.cell? ⟨r, 4, none⟩ = some (.int .i64 q1) ∧ W.cell? ⟨r, 5, none⟩ = some (.int .i64 q2) ∧ W.cell? ⟨r, 6, none⟩ = some (.bool s0) ∧ W.cell? ⟨r, 7, none⟩ = some (.int .i64 s1) ∧ W.cell? ⟨r, 8, none⟩ = some (.int .i64 s2) := ⟨(blk_cell h1 k).trans hc, cells9r h2⟩
set_option maxHeartbeats 8000000 in
set_option maxRecDepth 100000 in
theorem order_walk (a b c : Int) (w : World) : Calls Try.prog 7 #[.int .i64 a, .int .i64 b, .int .i64 c] w fun e w' => e = .returned (.bool true) ∧ Below w.heap.size w w' := by
  have HB := Aside0.mk (Below.refl w.heap.size w)
  obtain ⟨⟨x0, x1, x2⟩, hx, vx⟩ := made_ok a
  obtain ⟨⟨y0, y1, y2⟩, hy, vy⟩ := made_ok b
  obtain ⟨⟨z0, z1, z2⟩, hz, vz⟩ := made_ok c
  have HX := Aside0.mk hx
  have HY := Aside0.mk hy
  have HZ := Aside0.mk hz
  have HK := Aside0.mk (known_true 0)
  have hv := vote_ok vx vy vz
  have hc := vck_vres vx vy vz
  obtain ⟨⟨v0, v1, v2⟩, hvd⟩ : ∃ v, v = vres (x0, x1, x2) (y0, y1, y2) (z0, z1, z2) := ⟨_, rfl⟩
  rw [← hvd] at hv hc
  have HV := Aside0.mk hv
  have hck : sensor_Check.f 2 v0 v1 v2 = some 0 := by
    rw [show (2 : Nat) = 0 + 2 from rfl, sensor_Check_eq]
    exact congrArg some hc
  have HC := Aside0.mk hck
  have VX := Aside0.mk vx
  have VY := Aside0.mk vy
  have VZ := Aside0.mk vz
  have HVD := Aside0.mk hvd
  clear hx hy hz hv hc hck vx vy vz hvd
  go_enter Try.func7, Try.ntmps7
  go_upto_region 6 with (first
    | (go_at_call 6; refine (q_SensorKnown.calls 60 true _ HK.out).mono ?_; rintro e w1 ⟨rfl, hb⟩; replace HB := Aside0.mk (bst HB.out hb); clear hb)
    | (go_at_call 32; (with_reducible refine (q_made.calls a _ _ _ _ HX.out).mono ?_); rintro e w2 ⟨rfl, hb⟩; replace HB := Aside0.mk (bst HB.out hb); clear hb)
    | (go_at_call 32; (with_reducible refine (q_made.calls b _ _ _ _ HY.out).mono ?_); rintro e w3 ⟨rfl, hb⟩; replace HB := Aside0.mk (bst HB.out hb); clear hb)
    | (go_at_call 32; (with_reducible refine (q_made.calls c _ _ _ _ HZ.out).mono ?_); rintro e w4 ⟨rfl, hb⟩; replace HB := Aside0.mk (bst HB.out hb); clear hb)
    | ((with_reducible refine gate_dst (N := 8) rfl ?_); refine bxe (cs := #[.bool false, .int .i64 0, .int .i64 0]) (t := 23) ?_; intro g8 hg w5 hbox hb; have BK8 := Aside0.mk hbox; have GE8 := Aside0.mk (bge hg HB.out); replace HB := Aside0.mk (bst HB.out hb); clear hb hbox hg)
    | ((with_reducible refine gate_dst (N := 9) rfl ?_); refine bxe (cs := #[.bool false, .int .i64 0, .int .i64 0]) (t := 23) ?_; intro g9 hg w6 hbox hb; have BK9 := Aside0.mk hbox; have GE9 := Aside0.mk (bge hg HB.out); have N89 := Aside0.mk (bkl hg BK8.out); have N98 := Aside0.mk (Ne.symm N89.out); replace BK8 := Aside0.mk (bkb BK8.out hb); replace HB := Aside0.mk (bst HB.out hb); clear hb hbox hg)
    | ((with_reducible refine gate_dst (N := 10) rfl ?_); refine bxe (cs := #[.bool false, .int .i64 0, .int .i64 0]) (t := 23) ?_; intro g10 hg w7 hbox hb; have BK10 := Aside0.mk hbox; have GE10 := Aside0.mk (bge hg HB.out); have N8a := Aside0.mk (bkl hg BK8.out); have Na8 := Aside0.mk (Ne.symm N8a.out); have N9a := Aside0.mk (bkl hg BK9.out); have Na9 := Aside0.mk (Ne.symm N9a.out); replace BK8 := Aside0.mk (bkb BK8.out hb); replace BK9 := Aside0.mk (bkb BK9.out hb); replace HB := Aside0.mk (bst HB.out hb); clear hb hbox hg; have h1 := cz3 BK8.out; have h2 := cz3 BK9.out; have h3 := cz3 BK10.out; have f1 := blk_frozen BK8.out; have f2 := blk_frozen BK9.out; have f3 := blk_frozen BK10.out; have n1 := N89.out; have n2 := N98.out; have n3 := N8a.out; have n4 := Na8.out; have n5 := N9a.out; have n6 := Na9.out)
    | (go_at_call 17; (with_reducible refine (sensor_Vote.calls _ _ _ _ _ _ _ _ _ _ _ _ _ _ HV.out).mono ?_); rintro e w8 ⟨rfl, hb⟩; replace BK8 := Aside0.mk (show w8.heap[g8]? = some (.cells #[.bool x0, .int .i64 x1, .int .i64 x2] 23) from blk_below (bkt BK8.out) hb); replace BK9 := Aside0.mk (show w8.heap[g9]? = some (.cells #[.bool y0, .int .i64 y1, .int .i64 y2] 23) from blk_below (bkt BK9.out) hb); replace BK10 := Aside0.mk (show w8.heap[g10]? = some (.cells #[.bool z0, .int .i64 z1, .int .i64 z2] 23) from blk_below (bkt BK10.out) hb); replace HB := Aside0.mk (bst HB.out hb); clear hb)
    | ((with_reducible refine gate_dst (N := 11) rfl ?_); refine bxe (cs := #[.bool false, .int .i64 0, .int .i64 0]) (t := 23) ?_; intro g11 hg w9 hbox hb; have BK11 := Aside0.mk hbox; have GE11 := Aside0.mk (bge hg HB.out); have N8b := Aside0.mk (bkl hg BK8.out); have Nb8 := Aside0.mk (Ne.symm N8b.out); have N9b := Aside0.mk (bkl hg BK9.out); have Nb9 := Aside0.mk (Ne.symm N9b.out); have Nab := Aside0.mk (bkl hg BK10.out); have Nba := Aside0.mk (Ne.symm Nab.out); replace BK8 := Aside0.mk (bkb BK8.out hb); replace BK9 := Aside0.mk (bkb BK9.out hb); replace BK10 := Aside0.mk (bkb BK10.out hb); replace HB := Aside0.mk (bst HB.out hb); clear hb hbox hg; clear h1 h2 h3 f1 f2 f3; have h1 := cz3 BK8.out; have h2 := cz3 BK9.out; have h3 := cz3 BK10.out; have h4 := cz3 BK11.out; have f4 := blk_frozen BK11.out; have n7 := Nb8.out; have n8 := N8b.out; have n9 := Nb9.out; have n10 := N9b.out; have n11 := Nab.out; have n12 := Nba.out)
    | (go_at_call 14; refine (sensor_Check.calls 2 _ _ _ _ _ HC.out).mono ?_; rintro e w10 ⟨rfl, hb⟩; replace BK8 := Aside0.mk (bkb BK8.out hb); replace BK9 := Aside0.mk (bkb BK9.out hb); replace BK10 := Aside0.mk (bkb BK10.out hb); replace BK11 := Aside0.mk (show w10.heap[g11]? = some (.cells #[.bool v0, .int .i64 v1, .int .i64 v2] 23) from blk_below (bkt BK11.out) hb); replace HB := Aside0.mk (bst HB.out hb); clear hb; clear h1 h2 h3 h4 f4; have h1 := cz3 BK8.out; have h2 := cz3 BK9.out; have h3 := cz3 BK10.out; have h4 := cz3 BK11.out))
  have hM : OM w g8 g9 g10 g11 (x0, x1, x2) (y0, y1, y2) (z0, z1, z2) (v0, v1, v2) _ := ⟨bel HB.out, bkt BK8.out, bkt BK9.out, bkt BK10.out, bkt BK11.out⟩
  have HM := Aside0.mk hM
  clear hM h1 h2 h3 h4 BK8 BK9 BK10 BK11 HB n1 n2 n3 n4 n5 n6 n7 n8 n9 n10 n11 n12
  have h1 := cz3 HM.out.a8
  have h2 := cz3 HM.out.a9
  have h3 := cz3 HM.out.a10
  go_wp2_with (first
    | ((with_reducible refine gate_dst (N := 41) rfl ?_); refine bsl (cs := row9 ((x0, x1, x2) : R3) ((z0, z1, z2) : R3) ((y0, y1, y2) : R3)) (t := 23) (n := 3) ?_; intro r41 hg u41 hbox hb; have R41 := Aside0.mk hbox; replace HM := Aside0.mk (HM.out.step hb); clear hb hbox hg; have h1 := cz3 HM.out.a8; have h2 := cz3 HM.out.a9; have h3 := cz3 HM.out.a10)
    | ((with_reducible refine gate_dst (N := 45) rfl ?_); refine bsl (cs := row9 ((y0, y1, y2) : R3) ((x0, x1, x2) : R3) ((z0, z1, z2) : R3)) (t := 23) (n := 3) ?_; intro r45 hg u45 hbox hb; have R45 := Aside0.mk hbox; replace HM := Aside0.mk (HM.out.step hb); replace R41 := Aside0.mk (blk_below R41.out hb); clear hb hbox hg; have h1 := cz3 HM.out.a8; have h2 := cz3 HM.out.a9; have h3 := cz3 HM.out.a10)
    | ((with_reducible refine gate_dst (N := 49) rfl ?_); refine bsl (cs := row9 ((y0, y1, y2) : R3) ((z0, z1, z2) : R3) ((x0, x1, x2) : R3)) (t := 23) (n := 3) ?_; intro r49 hg u49 hbox hb; have R49 := Aside0.mk hbox; replace HM := Aside0.mk (HM.out.step hb); replace R41 := Aside0.mk (blk_below R41.out hb); replace R45 := Aside0.mk (blk_below R45.out hb); clear hb hbox hg; have h1 := cz3 HM.out.a8; have h2 := cz3 HM.out.a9; have h3 := cz3 HM.out.a10)
    | ((with_reducible refine gate_dst (N := 53) rfl ?_); refine bsl (cs := row9 ((z0, z1, z2) : R3) ((x0, x1, x2) : R3) ((y0, y1, y2) : R3)) (t := 23) (n := 3) ?_; intro r53 hg u53 hbox hb; have R53 := Aside0.mk hbox; replace HM := Aside0.mk (HM.out.step hb); replace R41 := Aside0.mk (blk_below R41.out hb); replace R45 := Aside0.mk (blk_below R45.out hb); replace R49 := Aside0.mk (blk_below R49.out hb); clear hb hbox hg; have h1 := cz3 HM.out.a8; have h2 := cz3 HM.out.a9; have h3 := cz3 HM.out.a10)
    | ((with_reducible refine gate_dst (N := 57) rfl ?_); refine bsl (cs := row9 ((z0, z1, z2) : R3) ((y0, y1, y2) : R3) ((x0, x1, x2) : R3)) (t := 23) (n := 3) ?_; intro r57 hg u57 hbox hb; have R57 := Aside0.mk hbox; replace HM := Aside0.mk (HM.out.step hb); replace R41 := Aside0.mk (blk_below R41.out hb); replace R45 := Aside0.mk (blk_below R45.out hb); replace R49 := Aside0.mk (blk_below R49.out hb); replace R53 := Aside0.mk (blk_below R53.out hb); clear hb hbox hg; have h1 := cz3 HM.out.a8; have h2 := cz3 HM.out.a9; have h3 := cz3 HM.out.a10)
    | ((with_reducible refine gate_dst (N := 58) rfl ?_); refine bsl (cs := #[.slice (some ⟨r41, 0, none⟩) 3 3, .slice (some ⟨r45, 0, none⟩) 3 3, .slice (some ⟨r49, 0, none⟩) 3 3, .slice (some ⟨r53, 0, none⟩) 3 3, .slice (some ⟨r57, 0, none⟩) 3 3]) (t := 51) (n := 5) ?_; intro ob hg u58 hbox hb; have RO := Aside0.mk hbox; replace HM := Aside0.mk (HM.out.step hb); replace R41 := Aside0.mk (blk_below R41.out hb); replace R45 := Aside0.mk (blk_below R45.out hb); replace R49 := Aside0.mk (blk_below R49.out hb); replace R53 := Aside0.mk (blk_below R53.out hb); replace R57 := Aside0.mk (blk_below R57.out hb); clear hb hbox hg))
  have hL : LM w g11 ob #[.slice (some ⟨r41, 0, none⟩) 3 3, .slice (some ⟨r45, 0, none⟩) 3 3, .slice (some ⟨r49, 0, none⟩) 3 3, .slice (some ⟨r53, 0, none⟩) 3 3, .slice (some ⟨r57, 0, none⟩) 3 3] (v0, v1, v2) _ := ⟨bel HM.out.below, bkt HM.out.a11, GE11.out, bkt RO.out, by
    have e0 := HVD.out
    have p1 := vres_p1 (x0, x1, x2) (y0, y1, y2) (z0, z1, z2)
    have p2 := vres_p2 (x0, x1, x2) (y0, y1, y2) (z0, z1, z2)
    have p3 := (vres_p1 (y0, y1, y2) (x0, x1, x2) (z0, z1, z2)).trans p2
    have p4 := (vres_p2 (x0, x1, x2) (z0, z1, z2) (y0, y1, y2)).trans p1
    have p5 := (vres_p1 (z0, z1, z2) (x0, x1, x2) (y0, y1, y2)).trans p4
    have q1 := vote_ok VX.out VZ.out VY.out
    have q2 := vote_ok VY.out VX.out VZ.out
    have q3 := vote_ok VY.out VZ.out VX.out
    have q4 := vote_ok VZ.out VX.out VY.out
    have q5 := vote_ok VZ.out VY.out VX.out
    rw [p1, ← e0] at q1
    rw [p2, ← e0] at q2
    rw [p3, ← e0] at q3
    rw [p4, ← e0] at q4
    rw [p5, ← e0] at q5
    intro k hk
    obtain rfl | rfl | rfl | rfl | rfl : k = 0 ∨ k = 1 ∨ k = 2 ∨ k = 3 ∨ k = 4 := by omega
    · exact ⟨r41, (x0, x1, x2), (z0, z1, z2), (y0, y1, y2), rfl, bkt R41.out, q1⟩
    · exact ⟨r45, (y0, y1, y2), (x0, x1, x2), (z0, z1, z2), rfl, bkt R45.out, q2⟩
    · exact ⟨r49, (y0, y1, y2), (z0, z1, z2), (x0, x1, x2), rfl, bkt R49.out, q3⟩
    · exact ⟨r53, (z0, z1, z2), (x0, x1, x2), (y0, y1, y2), rfl, bkt R53.out, q4⟩
    · exact ⟨r57, (z0, z1, z2), (y0, y1, y2), (x0, x1, x2), rfl, bkt R57.out, q5⟩⟩
  obtain ⟨cs, hcs⟩ : ∃ cs : Array Value, cs = #[.slice (some ⟨r41, 0, none⟩) 3 3, .slice (some ⟨r45, 0, none⟩) 3 3, .slice (some ⟨r49, 0, none⟩) 3 3, .slice (some ⟨r53, 0, none⟩) 3 3, .slice (some ⟨r57, 0, none⟩) 3 3] := ⟨_, rfl⟩
  rw [← hcs] at hL
  have HL := Aside0.mk hL
  clear hL hcs HM R41 R45 R49 R53 R57 RO h1 h2 h3
  go_loopw [14] (fun v14 wr => ∃ k : Nat, k ≤ 5 ∧ v14 = .int .i64 k ∧ Aside0 (LM w g11 ob cs (v0, v1, v2) wr)) (fun v _ => 5 - (intOf v).toNat)
  case atStart => exact ⟨0, by omega, rfl, HL⟩
  case round =>
    obtain ⟨k, hk, rfl, K1⟩ := hrel
    clear HL
    by_cases hlt : k < 5
    · obtain ⟨r, ⟨p0, p1, p2⟩, ⟨q0, q1, q2⟩, ⟨s0, s1, s2⟩, c1, c2, c3⟩ := K1.out.rows k hlt
      have HV := Aside0.mk c3
      have C1 := Aside0.mk c1
      have C2 := Aside0.mk c2
      clear c1 c2 c3
      have NE1 := Aside0.mk (Nat.ne_of_lt (blk_lt C2.out))
      have NE2 := Aside0.mk (Nat.ne_of_lt (blk_lt K1.out.ro))
      have NE3 := Aside0.mk (Nat.ne_of_lt (blk_lt K1.out.a11))
      have LE1 := Aside0.mk (bsz K1.out.below)
      go_upto_region 10 with fail
      have c1 : wr.cell? ⟨ob, k, none⟩ = some (.slice (some ⟨r, 0, none⟩) 3 3) := (blk_cell K1.out.ro k).trans C1.out
      obtain ⟨d0, d1, d2, d3, d4, d5, d6, d7, d8⟩ := cells9r C2.out
      go_region_held3 (fun W => W.cell? ⟨ob, k, none⟩ = some (.slice (some ⟨r, 0, none⟩) 3 3) ∧ W.cell? ⟨r, 0, none⟩ = some (.bool p0) ∧ W.cell? ⟨r, 1, none⟩ = some (.int .i64 p1) ∧ W.cell? ⟨r, 2, none⟩ = some (.int .i64 p2) ∧ W.cell? ⟨r, 3, none⟩ = some (.bool q0) ∧ W.cell? ⟨r, 4, none⟩ = some (.int .i64 q1) ∧ W.cell? ⟨r, 5, none⟩ = some (.int .i64 q2) ∧ W.cell? ⟨r, 6, none⟩ = some (.bool s0) ∧ W.cell? ⟨r, 7, none⟩ = some (.int .i64 s1) ∧ W.cell? ⟨r, 8, none⟩ = some (.int .i64 s2)) ((first | exact lmS (bkt O2.out) (bkt C3.out) C1.out | exact lmS (bkt K1.out.ro) (bkt C2.out) C1.out)) ((first
        | (go_at_call 17; refine (sensor_Vote.calls _ _ _ _ _ _ _ _ _ _ _ _ _ _ HV.out).mono ?_; rintro e w1 ⟨rfl, hb⟩; have O2 := Aside0.mk (bkb K1.out.ro hb); have C3 := Aside0.mk (bkb C2.out hb); have A2 := Aside0.mk (bkb K1.out.a11 hb); have B4 := Aside0.mk (bst (Below.refl wr.heap.size wr) hb); have L2 := Aside0.mk (K1.out.step B4.out); have B2 := Aside0.mk (bst K1.out.below hb); have NE4 := Aside0.mk (Nat.ne_of_lt (blk_lt O2.out)); have NE5 := Aside0.mk (Nat.ne_of_lt (blk_lt C3.out)); have NE6 := Aside0.mk (Nat.ne_of_lt (blk_lt A2.out)); have LE2 := Aside0.mk (bsz B2.out); (try ((first | have hN := blk_below (blk_new _ _) hb | have hN := blk_below (blk_drew (blk_new _ _)) hb); have HN := Aside0.mk (show w1.heap[wr.heap.size]? = some (.cells #[.bool false, .int .i64 0, .int .i64 0] 23) from hN); clear hN; have hcn := cz3 HN.out; have hfn := blk_frozen HN.out)))))
      · have h5 := cz3 (blk_new w1 (.cells #[.bool v0, .int .i64 v1, .int .i64 v2] 23))
        have L3 := Aside0.mk (L2.out.step (below_alloc (Below.refl w1.heap.size w1) (.cells #[.bool v0, .int .i64 v1, .int .i64 v2] 23)))
        generalize w1.alloc (.cells #[.bool v0, .int .i64 v1, .int .i64 v2] 23) = W at h5 L3 ⊢
        generalize w1.heap.size = q at h5 ⊢
        have h6 := cz3 L3.out.a11
        go_wp2
        go_roundw
        case rel => exact ⟨k + 1, by omega, by go_num, L3⟩
        case measure => simp [intOf]; omega
      · have h5 := cz3 (show (((w1.setCell ⟨wr.heap.size, 0, none⟩ (.bool v0)).setCell ⟨wr.heap.size, 1, none⟩ (.int .i64 v1)).setCell ⟨wr.heap.size, 2, none⟩ (.int .i64 v2)).heap[wr.heap.size]? = some (.cells #[.bool v0, .int .i64 v1, .int .i64 v2] 23) from bkt HN.out)
        have LE3 := Aside0.mk (Nat.le_refl wr.heap.size)
        have L3 := Aside0.mk (K1.out.step (show Below wr.heap.size wr (((w1.setCell ⟨wr.heap.size, 0, none⟩ (.bool v0)).setCell ⟨wr.heap.size, 1, none⟩ (.int .i64 v1)).setCell ⟨wr.heap.size, 2, none⟩ (.int .i64 v2)) from bel B4.out))
        generalize (((w1.setCell ⟨wr.heap.size, 0, none⟩ (.bool v0)).setCell ⟨wr.heap.size, 1, none⟩ (.int .i64 v1)).setCell ⟨wr.heap.size, 2, none⟩ (.int .i64 v2)) = W at h5 L3 ⊢
        generalize wr.heap.size = q at h5 ⊢
        have h6 := cz3 L3.out.a11
        go_wp2
        go_roundw
        case rel => exact ⟨k + 1, by omega, by go_num, L3⟩
        case measure => simp [intOf]; omega
    · obtain rfl : k = 5 := by omega
      go_wp2
      go_ret
      exact ⟨rfl, bel K1.out.below⟩
end Go.Proofs.Ytlkphdcfgaolnaa.P
