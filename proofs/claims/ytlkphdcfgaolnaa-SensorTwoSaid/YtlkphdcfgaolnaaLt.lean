/- Two of three readings are enough: the law's own code, walked by hand. -/
import Derived.Test.YtlkphdcfgaolnaaLo
import Derived.Test.YtlkphdcfgaolnaaP2sensor
namespace Go.Proofs.Ytlkphdcfgaolnaa.P
open Go.RowKit Go.Proofs.YtlkphdcfgaolnaaW.PrintWords Go.Proofs.YtlkphdcfgaolnaaW.PrintLast Go.Proofs.YtlkphdcfgaolnaaW.PrintMore
attribute [local go_sem] cell_same1 cell_some1
set_option linter.unusedVariables false
set_option linter.unusedSimpArgs false

theorem two_vote (r m : R3) (hr : r.1 = true) : vres m r r = r ∧ vres r m r = r ∧ vres r r m = r := by
  unfold vres
  refine ⟨?_, ?_, ?_⟩ <;> grind
theorem odd_ok {x y z : R3} (hx : vck x = 0) (hy : vck y = 0) (hz : vck z = 0) : sensor_Odd.f x.1 x.2.1 x.2.2 y.1 y.2.1 y.2.2 z.1 z.2.1 z.2.2 = some (oddv x.1 y.1 (decide (y = z)) (decide (x = y)) (decide (x = z)) (decide (y = x)) (decide (z = x)), 0) := by
  unfold sensor_Odd.f
  have h : vchk x y z = 0 := by unfold vchk; rw [if_neg (fun q => q hx), if_neg (fun q => q hy), hz]
  rw [if_pos h]
theorem two_odd (r m : R3) (hr : r.1 = true) : oddv m.1 r.1 (decide (r = r)) (decide (m = r)) (decide (m = r)) (decide (r = m)) (decide (r = m)) = (if m = r then 0 else 1) ∧
    oddv r.1 m.1 (decide (m = r)) (decide (r = m)) (decide (r = r)) (decide (m = r)) (decide (r = r)) = (if m = r then 0 else 2) ∧
    oddv r.1 r.1 (decide (r = m)) (decide (r = r)) (decide (r = m)) (decide (r = r)) (decide (m = r)) = (if m = r then 0 else 3) := by
  by_cases h : m = r
  · subst h
    simp [oddv, hr]
  · have h2 : ¬ r = m := fun q => h q.symm
    simp [oddv, hr, h, h2]
/-- What a working sensor reads at the floors of the examples' shaft. -/
theorem read_floor : ∀ f t : Fin 4, ∃ z : Fin 2, sensor_Read.f 60 [10, 4, 6] (rd [0, 10, 14, 20] (f.val : Int)) (t.val : Int) true = some (true, (f.val : Int), (z.val : Int), 0) := by decide +kernel
theorem cellB {W W2 : World} {a : Addr} {v : Value} (h : W.cell? a = some v) (hb : Below W.heap.size W W2) : W2.cell? a = some v := (hb.cell (World.block_lt_of_cell? W _ h)).trans h
structure PM (w : World) (ad : Addr) (F : Nat) (p : Int) (W : World) : Prop where
  below : Below w.heap.size w W
  cell : W.cell? (ad.add F) = some (.int .i64 p)
structure TM (w : World) (g : Nat) (r : R3) (W : World) : Prop where
  below : Below w.heap.size w W
  at_ : W.heap[g]? = some (.cells (row3 r) 23)
  lo : w.heap.size ≤ g
theorem TM.step {w : World} {g : Nat} {r : R3} {W W2 : World} (h : TM w g r W) (hb : Below W.heap.size W W2) : TM w g r W2 := ⟨below_step h.below hb, blk_below h.at_ hb, h.lo⟩

theorem wp_abs {P : Program} {c : Code} {Q : Exit → Act → World → Prop} {a : Act} {w : World} (M : World → Prop) (h : M w) (hK : ∀ w', M w' → c.wp P Q a w') : c.wp P Q a w := hK w h
structure SM (w : World) (g12 ro : Nat) (r q1 q2 q3 : R3) (W : World) : Prop where
  tm : TM w g12 r W
  row : W.heap[ro]? = some (.cells (row9 q1 q2 q3) 23)
theorem SM.step {w : World} {g12 ro : Nat} {r q1 q2 q3 : R3} {W W2 : World} (h : SM w g12 ro r q1 q2 q3 W) (hb : Below W.heap.size W W2) : SM w g12 ro r q1 q2 q3 W2 := ⟨h.tm.step hb, blk_below h.row hb⟩
set_option maxHeartbeats 8000000 in
set_option maxRecDepth 100000 in
theorem two_walk (a b c d : Int) (w : World) : Calls Try.prog 8 #[.int .i64 a, .int .i64 b, .int .i64 c, .int .i64 d] w fun e w' => e = .returned (.bool true) ∧ Below w.heap.size w w' := by
  have HB := Aside0.mk (Below.refl w.heap.size w)
  obtain ⟨f, hf, f0, f1⟩ := mod_eq a 4 (by omega) (by omega)
  obtain ⟨t, ht, t0, t1⟩ := mod_eq b 4 (by omega) (by omega)
  obtain ⟨p, hp, p0, p1⟩ := mod_eq d 3 (by omega) (by omega)
  obtain ⟨⟨m0, m1, m2⟩, hm, vm⟩ := made_ok c
  obtain ⟨F, rfl⟩ : ∃ F : Nat, f = (F : Int) := ⟨f.toNat, by omega⟩
  obtain ⟨T, rfl⟩ : ∃ T : Nat, t = (T : Int) := ⟨t.toNat, by omega⟩
  have hF : F < 4 := by omega
  have hT : T < 4 := by omega
  obtain ⟨z, hz⟩ := read_floor ⟨F, hF⟩ ⟨T, hT⟩
  obtain ⟨Z, hZ⟩ : ∃ Z : Int, Z = ((z.val : Nat) : Int) := ⟨_, rfl⟩
  have hzb := z.isLt
  dsimp only at hz
  rw [← hZ] at hz
  have vr : vck (true, (F : Int), Z) = 0 := by
    unfold vck
    rw [if_neg (by dsimp only; omega), if_neg (fun q => by cases q.1)]
  obtain ⟨P, hP⟩ : ∃ P, P = rd [0, 10, 14, 20] (F : Int) := ⟨_, rfl⟩
  rw [← hP] at hz
  have HRD := Aside0.mk hz
  have HP := Aside0.mk hP
  have HF := Aside0.mk hf
  have HT := Aside0.mk ht
  have HPM := Aside0.mk hp
  have HM := Aside0.mk hm
  have HK := Aside0.mk (known_true 0)
  have VM := Aside0.mk vm
  have VR := Aside0.mk vr
  have HG : Aside0 (q_gaps.f = some [10, 4, 6]) := ⟨rfl⟩
  have HPOS : Aside0 (shaft_Positions.f [10, 4, 6] = some ([0, 10, 14, 20], 0)) := ⟨by decide +kernel⟩
  clear hz hf ht hp hm vm vr hZ hzb t0 t1 hP f0 f1 z
  go_enter Try.func8, Try.ntmps8
  go_upto_region 6 with (first
    | (go_at_call 6; refine (q_SensorKnown.calls 60 true _ HK.out).mono ?_; rintro e w1 ⟨rfl, hb⟩; replace HB := Aside0.mk (bst HB.out hb); clear hb)
    | (go_at_call 33; (with_reducible refine (kit_Mod.calls a 4 _ _ HF.out).mono ?_); rintro e w2 ⟨rfl, hd⟩; have hb := hd.below; replace HB := Aside0.mk (bst HB.out hb); clear hb hd)
    | (go_at_call 33; (with_reducible refine (kit_Mod.calls b 4 _ _ HT.out).mono ?_); rintro e w3 ⟨rfl, hd⟩; have hb := hd.below; replace HB := Aside0.mk (bst HB.out hb); clear hb hd)
    | (go_at_call 26; refine (q_gaps.calls _ _ HG.out).mono ?_; rintro e w4 ⟨v4, rfl, hR, hb⟩; replace HB := Aside0.mk (bst HB.out hb); obtain ⟨A4, c4, rfl⟩ := Kd.R_slice hR; have HR4 := Aside0.mk hR; clear hb hR)
    | (go_at_call 34; refine (shaft_Positions.calls _ _ [10, 4, 6] _ _ _ (Kd.R_reads' HR4.out).2.2 (Kd.R_reads' HR4.out).2.1 HPOS.out).mono ?_; rintro e w5 ⟨v5, rfl, hR, hb⟩; replace HB := Aside0.mk (bst HB.out hb); obtain ⟨A5, c5, rfl⟩ := Kd.R_slice hR; have HR5 := Aside0.mk hR; have HC5 := Aside0.mk (Kd.R_reads' hR).2.1; clear hb hR HR4))
  obtain ⟨ad, rfl, hcell⟩ := (Kd.reads_of_C (d := (0 : Int)) (Kd.R_reads' HR5.out).2.2).2.2 (by decide)
  have hc5 : w5.cell? (ad.add F) = some (.int .i64 P) := by
    have h := hcell F hF
    rw [HP.out]
    simpa [rd] using h
  clear hcell
  have hM : PM w ad F P _ := ⟨bel HB.out, hc5⟩
  clear HR5 HB hc5
  generalize w5 = W0 at hM ⊢
  have HM0 := Aside0.mk hM
  have B0 := Aside0.mk (Below.refl W0.heap.size W0)
  have LE0 := Aside0.mk (Nat.le_refl W0.heap.size)
  have C0 := Aside0.mk hM.cell
  have hcc := hM.cell
  clear hM
  have hc5 : 4 ≤ c5 := HC5.out
  simp only [List.length_cons, List.length_nil, Nat.zero_add, Nat.reduceAdd] at *
  have bF1 : (F : Int) < 4 := by omega
  have bF2 : (0 : Int) ≤ (F : Int) := by omega
  have bF3 : ¬ (F : Int) < 0 := by omega
  go_cut [12, 13] from 37 to 46 (fun v12 v13 wc => ∃ g12 : Nat, v12 = .pointer (some ⟨g12, 0, none⟩) ∧ v13 = .int .i64 0 ∧ Aside0 (TM w g12 (true, (F : Int), Z) wc))
  case first =>
    go_region_held3 (fun W => W.cell? (ad.add F) = some (.int .i64 P)) ((first | exact cellB C0.out (bel B0.out))) ((first
      | (go_at_call 26; refine (q_gaps.calls _ _ HG.out).mono ?_; rintro e w1 ⟨v1, rfl, hR, hb⟩; have B0 := Aside0.mk (bst B0.out hb); have LE1 := Aside0.mk (bsz B0.out); obtain ⟨A1, c1, rfl⟩ := Kd.R_slice hR; have HR1 := Aside0.mk hR; (try ((first | have hN := blk_below (blk_new _ _) hb | have hN := blk_below (blk_drew (blk_new _ _)) hb); have HN := Aside0.mk (show w1.heap[W0.heap.size]? = some (.cells #[.bool false, .int .i64 0, .int .i64 0] 23) from hN); clear hN)); clear hb hR)
      | (go_at_call 12; refine (sensor_Read.calls 60 _ _ [10, 4, 6] _ _ true _ _ _ _ _ ?s1 ?s2 HRD.out).mono ?_; (case s1 => first | exact (Kd.R_reads' HR1.out).2.2 | exact Kd.C_alloc (Kd.R_reads' HR1.out).2.2 _ | exact Kd.C_drew (Kd.C_alloc (Kd.R_reads' HR1.out).2.2 _)); (case s2 => exact (Kd.R_reads' HR1.out).2.1); rintro e w2 ⟨rfl, hb⟩; have B0 := Aside0.mk (bst B0.out hb); (first | (have HN2 := Aside0.mk (show w2.heap[W0.heap.size]? = some (.cells #[.bool false, .int .i64 0, .int .i64 0] 23) from bkb HN.out hb); have hcn := cz3 HN2.out; have hfn := blk_frozen HN2.out) | ((first | have hN := blk_below (blk_new _ _) hb | have hN := blk_below (blk_drew (blk_new _ _)) hb); have HN2 := Aside0.mk (show w2.heap[w1.heap.size]? = some (.cells #[.bool false, .int .i64 0, .int .i64 0] 23) from hN); clear hN; have hcn := cz3 HN2.out; have hfn := blk_frozen HN2.out) | skip); clear hb)))
    · go_wp2
      go_meet
      exact ⟨_, rfl, rfl, ⟨⟨below_alloc (below_step HM0.out.below B0.out) _, blk_new _ _, Nat.le_trans (bsz HM0.out.below) (bsz B0.out)⟩⟩⟩
    · go_wp2
      go_meet
      exact ⟨_, rfl, rfl, ⟨⟨below_step HM0.out.below (bel B0.out), bkt HN2.out, Nat.le_trans (bsz HM0.out.below) LE1.out⟩⟩⟩
    · go_wp2
      go_meet
      exact ⟨_, rfl, rfl, ⟨⟨below_step HM0.out.below (bel B0.out), bkt HN2.out, bsz HM0.out.below⟩⟩⟩
  case rest =>
    obtain ⟨g12, rfl, rfl, H12⟩ := hcut
    clear HM0 B0 LE0 C0 hcc bF1 bF2 bF3 hc5 HC5
    have h12 := cz3 H12.out.at_
    go_upto_region 8 with ((with_reducible refine gate_dst (N := 50) rfl ?_); refine bsl (cs := row9 ((true, (F : Int), Z) : R3) ((true, (F : Int), Z) : R3) ((true, (F : Int), Z) : R3)) (t := 23) (n := 3) ?_; intro ro hg w6 hbox hb; have RO := Aside0.mk hbox; have GR := Aside0.mk (bge hg H12.out.below); have NR := Aside0.mk (bkl hg H12.out.at_); have NR2 := Aside0.mk (Ne.symm NR.out); replace H12 := Aside0.mk (H12.out.step hb); clear hb hbox hg)
    clear h12
    obtain ⟨rr, hrr⟩ : ∃ rr : R3, rr = (true, (F : Int), Z) := ⟨_, rfl⟩
    have hr1 : rr.1 = true := by rw [hrr]
    obtain ⟨e1, e2, e3⟩ := two_vote rr (m0, m1, m2) hr1
    obtain ⟨d1, d2, d3⟩ := two_odd rr (m0, m1, m2) hr1
    have vr := VR.out
    rw [← hrr] at vr
    have V1 := vote_ok VM.out vr vr
    have V2 := vote_ok vr VM.out vr
    have V3 := vote_ok vr vr VM.out
    have D1 := odd_ok VM.out vr vr
    have D2 := odd_ok vr VM.out vr
    have D3 := odd_ok vr vr VM.out
    rw [e1] at V1
    rw [e2] at V2
    rw [e3] at V3
    rw [d1] at D1
    rw [d2] at D2
    rw [d3] at D3
    clear e1 e2 e3 d1 d2 d3 vr
    have EQ := eqR (m0, m1, m2) rr
    rw [hrr] at V1 V2 V3 D1 D2 D3 EQ
    dsimp only at V1 V2 V3 D1 D2 D3 EQ
    obtain ⟨o1, ho1⟩ : ∃ o : Int, o = (if ((m0, m1, m2) : R3) = (true, (F : Int), Z) then 0 else 1) := ⟨_, rfl⟩
    rw [← ho1] at D1
    have HO1 := Aside0.mk ho1
    obtain ⟨o2, ho2⟩ : ∃ o : Int, o = (if ((m0, m1, m2) : R3) = (true, (F : Int), Z) then 0 else 2) := ⟨_, rfl⟩
    rw [← ho2] at D2
    have HO2 := Aside0.mk ho2
    obtain ⟨o3, ho3⟩ : ∃ o : Int, o = (if ((m0, m1, m2) : R3) = (true, (F : Int), Z) then 0 else 3) := ⟨_, rfl⟩
    rw [← ho3] at D3
    have HO3 := Aside0.mk ho3
    clear ho1 ho2 ho3
    replace V1 := Aside0.mk V1
    replace V2 := Aside0.mk V2
    replace V3 := Aside0.mk V3
    replace D1 := Aside0.mk D1
    replace D2 := Aside0.mk D2
    replace D3 := Aside0.mk D3
    replace EQ := Aside0.mk EQ
    clear hrr hr1 rr
    have HR := Aside0.mk (bsz H12.out.below)
    rcases (show p = 0 ∨ p = 1 ∨ p = 2 by omega) with rfl | rfl | rfl
    ·
      have hro := cells9r RO.out
      have hfr := blk_frozen RO.out
      go_upto_region 9 with (first
        | (go_at_call 33; refine (kit_Mod.calls d 3 _ _ HPM.out).mono ?_; rintro e x1 ⟨rfl, hd⟩; have hb := hd.below; replace RO := Aside0.mk (bkb RO.out hb); replace H12 := Aside0.mk (H12.out.step (bst (Below.refl _ _) hb)); clear hb hd; have hro := cells9r RO.out; have hfr := blk_frozen RO.out)
        | (go_at_call 32; refine (q_made.calls c _ _ _ _ HM.out).mono ?_; rintro e x2 ⟨rfl, hb⟩; replace RO := Aside0.mk (bkb RO.out hb); replace H12 := Aside0.mk (H12.out.step (bst (Below.refl _ _) hb)); clear hb; have hro := cells9r RO.out; have hfr := blk_frozen RO.out))
      refine wp_abs (SM w g12 ro (true, (F : Int), Z) ((m0, m1, m2) : R3) ((true, (F : Int), Z) : R3) ((true, (F : Int), Z) : R3)) ⟨⟨bel H12.out.below, bkt H12.out.at_, H12.out.lo⟩, bkt RO.out⟩ (fun W9 h9 => ?_)
      clear hro hfr RO H12
      have H9 := Aside0.mk h9
      have B9 := Aside0.mk (Below.refl W9.heap.size W9)
      have LE9 := Aside0.mk (Nat.le_refl W9.heap.size)
      have NE9 := Aside0.mk (Nat.ne_of_lt (blk_lt h9.row))
      have NF9 := Aside0.mk (Nat.ne_of_lt (blk_lt h9.tm.at_))
      have LW9 := Aside0.mk (bsz h9.tm.below)
      obtain ⟨k0, k1, k2, k3, k4, k5, k6, k7, k8⟩ := cells9r h9.row
      clear h9
      go_cut [15, 16] from 57 to 69 (fun v15 v16 wc => ∃ g15 : Nat, v15 = .pointer (some ⟨g15, 0, none⟩) ∧ v16 = .int .i64 0 ∧ Aside0 (SM w g12 ro (true, (F : Int), Z) ((m0, m1, m2) : R3) ((true, (F : Int), Z) : R3) ((true, (F : Int), Z) : R3) wc) ∧ Aside0 (TM w g15 (true, (F : Int), Z) wc))
      case first =>
        go_region_held3 (fun W => W.cell? ⟨ro, 0, none⟩ = some (.bool (((m0, m1, m2) : R3)).1) ∧ W.cell? ⟨ro, 1, none⟩ = some (.int .i64 (((m0, m1, m2) : R3)).2.1) ∧ W.cell? ⟨ro, 2, none⟩ = some (.int .i64 (((m0, m1, m2) : R3)).2.2) ∧ W.cell? ⟨ro, 3, none⟩ = some (.bool (((true, (F : Int), Z) : R3)).1) ∧ W.cell? ⟨ro, 4, none⟩ = some (.int .i64 (((true, (F : Int), Z) : R3)).2.1) ∧ W.cell? ⟨ro, 5, none⟩ = some (.int .i64 (((true, (F : Int), Z) : R3)).2.2) ∧ W.cell? ⟨ro, 6, none⟩ = some (.bool (((true, (F : Int), Z) : R3)).1) ∧ W.cell? ⟨ro, 7, none⟩ = some (.int .i64 (((true, (F : Int), Z) : R3)).2.1) ∧ W.cell? ⟨ro, 8, none⟩ = some (.int .i64 (((true, (F : Int), Z) : R3)).2.2)) ((first | exact cells9r (p := ((m0, m1, m2) : R3)) (q := ((true, (F : Int), Z) : R3)) (s := ((true, (F : Int), Z) : R3)) (bkt R9.out) | exact cells9r (p := ((m0, m1, m2) : R3)) (q := ((true, (F : Int), Z) : R3)) (s := ((true, (F : Int), Z) : R3)) (bkt H9.out.row))) ((first
          | (go_at_call 17; refine (sensor_Vote.calls _ _ _ _ _ _ _ _ _ _ _ _ _ _ V1.out).mono ?_; rintro e y1 ⟨rfl, hb⟩; have B9 := Aside0.mk (bst B9.out hb); have R9 := Aside0.mk (bkb H9.out.row hb); have T9 := Aside0.mk (bkb H9.out.tm.at_ hb); have NE8 := Aside0.mk (Nat.ne_of_lt (blk_lt R9.out)); have NF8 := Aside0.mk (Nat.ne_of_lt (blk_lt T9.out)); have LE8 := Aside0.mk (bsz B9.out); (try ((first | have hN := blk_below (blk_new _ _) hb | have hN := blk_below (blk_drew (blk_new _ _)) hb); have HN := Aside0.mk (show y1.heap[W9.heap.size]? = some (.cells #[.bool false, .int .i64 0, .int .i64 0] 23) from hN); clear hN; have hcn := cz3 HN.out; have hfn := blk_frozen HN.out)); clear hb)))
        · go_wp2
          go_meet
          exact ⟨_, rfl, rfl, ⟨H9.out.step (below_alloc B9.out _)⟩, ⟨⟨below_step H9.out.tm.below (below_alloc B9.out _), blk_new _ _, Nat.le_trans LW9.out LE8.out⟩⟩⟩
        · go_wp2
          go_meet
          exact ⟨_, rfl, rfl, ⟨H9.out.step (bel B9.out)⟩, ⟨⟨below_step H9.out.tm.below (bel B9.out), bkt HN.out, LW9.out⟩⟩⟩
      case rest =>
        obtain ⟨g15, rfl, rfl, S9, T9⟩ := hcut
        clear H9 B9 LE9 NE9 NF9 LW9 k0 k1 k2 k3 k4 k5 k6 k7 k8
        go_upto_region 10 with fail
        obtain ⟨k0, k1, k2, k3, k4, k5, k6, k7, k8⟩ := cells9r S9.out.row
        go_region_held3 (fun W => W.cell? ⟨ro, 0, none⟩ = some (.bool (((m0, m1, m2) : R3)).1) ∧ W.cell? ⟨ro, 1, none⟩ = some (.int .i64 (((m0, m1, m2) : R3)).2.1) ∧ W.cell? ⟨ro, 2, none⟩ = some (.int .i64 (((m0, m1, m2) : R3)).2.2) ∧ W.cell? ⟨ro, 3, none⟩ = some (.bool (((true, (F : Int), Z) : R3)).1) ∧ W.cell? ⟨ro, 4, none⟩ = some (.int .i64 (((true, (F : Int), Z) : R3)).2.1) ∧ W.cell? ⟨ro, 5, none⟩ = some (.int .i64 (((true, (F : Int), Z) : R3)).2.2) ∧ W.cell? ⟨ro, 6, none⟩ = some (.bool (((true, (F : Int), Z) : R3)).1) ∧ W.cell? ⟨ro, 7, none⟩ = some (.int .i64 (((true, (F : Int), Z) : R3)).2.1) ∧ W.cell? ⟨ro, 8, none⟩ = some (.int .i64 (((true, (F : Int), Z) : R3)).2.2)) ((first | exact cells9r (p := ((m0, m1, m2) : R3)) (q := ((true, (F : Int), Z) : R3)) (s := ((true, (F : Int), Z) : R3)) (bkt R9.out) | exact cells9r (p := ((m0, m1, m2) : R3)) (q := ((true, (F : Int), Z) : R3)) (s := ((true, (F : Int), Z) : R3)) (bkt S9.out.row))) ((first
          | (go_at_call 19; refine (sensor_Odd.calls _ _ _ _ _ _ _ _ _ _ _ _ D1.out).mono ?_; rintro e y2 ⟨rfl, hb⟩; have R9 := Aside0.mk (bkb S9.out.row hb); have U9 := Aside0.mk (S9.out.tm.step (bst (Below.refl _ _) hb)); have V9 := Aside0.mk (T9.out.step (bst (Below.refl _ _) hb)); clear hb)))
        go_upto_region 12 with fail
        obtain ⟨l0, l1, l2⟩ := cz3 U9.out.at_
        have hE1 := EQ.out
        by_cases hmr : ((m0, m1, m2) : R3) = (true, (F : Int), Z)
        · rw [decide_eq_true hmr] at hE1
          have ho := HO1.out
          rw [if_pos hmr] at ho
          subst ho
          clear hmr
          go_region_held3 (fun W => W.cell? ⟨g12, 0, none⟩ = some (.bool true) ∧ W.cell? ⟨g12, 1, none⟩ = some (.int .i64 (F : Int)) ∧ W.cell? ⟨g12, 2, none⟩ = some (.int .i64 Z)) ((first | exact cz3 (bkt X9.out.at_) | exact cz3 (bkt U9.out.at_))) ((first
            | (go_at_call 32; refine (q_made.calls c _ _ _ _ HM.out).mono ?_; rintro e y3 ⟨rfl, hb⟩; have X9 := Aside0.mk (U9.out.step (bst (Below.refl _ _) hb)); have Y9 := Aside0.mk (V9.out.step (bst (Below.refl _ _) hb)); clear hb)))
          have h12 := cz3 X9.out.at_
          have h15 := cz3 Y9.out.at_
          have hE2 := eqR (true, (F : Int), Z) (true, (F : Int), Z)
          rw [decide_eq_true rfl] at hE2
          go_wp2
          go_ret
          exact ⟨rfl, bel X9.out.below⟩
        · rw [decide_eq_false hmr] at hE1
          have ho := HO1.out
          rw [if_neg hmr] at ho
          subst ho
          clear hmr
          go_region_held3 (fun W => W.cell? ⟨g12, 0, none⟩ = some (.bool true) ∧ W.cell? ⟨g12, 1, none⟩ = some (.int .i64 (F : Int)) ∧ W.cell? ⟨g12, 2, none⟩ = some (.int .i64 Z)) ((first | exact cz3 (bkt X9.out.at_) | exact cz3 (bkt U9.out.at_))) ((first
            | (go_at_call 32; refine (q_made.calls c _ _ _ _ HM.out).mono ?_; rintro e y3 ⟨rfl, hb⟩; have X9 := Aside0.mk (U9.out.step (bst (Below.refl _ _) hb)); have Y9 := Aside0.mk (V9.out.step (bst (Below.refl _ _) hb)); clear hb)))
          have h12 := cz3 X9.out.at_
          have h15 := cz3 Y9.out.at_
          have hE2 := eqR (true, (F : Int), Z) (true, (F : Int), Z)
          rw [decide_eq_true rfl] at hE2
          go_wp2_with (go_at_call 33; refine (kit_Mod.calls d 3 _ _ HPM.out).mono ?_; rintro e y4 ⟨rfl, hd⟩; have hb := hd.below; replace X9 := Aside0.mk (X9.out.step (bst (Below.refl _ _) hb)); replace Y9 := Aside0.mk (Y9.out.step (bst (Below.refl _ _) hb)); clear hb hd; have h12 := cz3 X9.out.at_; have h15 := cz3 Y9.out.at_)
          go_ret
          exact ⟨rfl, bel X9.out.below⟩
    ·
      have hro := cells9r RO.out
      have hfr := blk_frozen RO.out
      go_upto_region 9 with (first
        | (go_at_call 33; refine (kit_Mod.calls d 3 _ _ HPM.out).mono ?_; rintro e x1 ⟨rfl, hd⟩; have hb := hd.below; replace RO := Aside0.mk (bkb RO.out hb); replace H12 := Aside0.mk (H12.out.step (bst (Below.refl _ _) hb)); clear hb hd; have hro := cells9r RO.out; have hfr := blk_frozen RO.out)
        | (go_at_call 32; refine (q_made.calls c _ _ _ _ HM.out).mono ?_; rintro e x2 ⟨rfl, hb⟩; replace RO := Aside0.mk (bkb RO.out hb); replace H12 := Aside0.mk (H12.out.step (bst (Below.refl _ _) hb)); clear hb; have hro := cells9r RO.out; have hfr := blk_frozen RO.out))
      refine wp_abs (SM w g12 ro (true, (F : Int), Z) ((true, (F : Int), Z) : R3) ((m0, m1, m2) : R3) ((true, (F : Int), Z) : R3)) ⟨⟨bel H12.out.below, bkt H12.out.at_, H12.out.lo⟩, bkt RO.out⟩ (fun W9 h9 => ?_)
      clear hro hfr RO H12
      have H9 := Aside0.mk h9
      have B9 := Aside0.mk (Below.refl W9.heap.size W9)
      have LE9 := Aside0.mk (Nat.le_refl W9.heap.size)
      have NE9 := Aside0.mk (Nat.ne_of_lt (blk_lt h9.row))
      have NF9 := Aside0.mk (Nat.ne_of_lt (blk_lt h9.tm.at_))
      have LW9 := Aside0.mk (bsz h9.tm.below)
      obtain ⟨k0, k1, k2, k3, k4, k5, k6, k7, k8⟩ := cells9r h9.row
      clear h9
      go_cut [15, 16] from 57 to 69 (fun v15 v16 wc => ∃ g15 : Nat, v15 = .pointer (some ⟨g15, 0, none⟩) ∧ v16 = .int .i64 0 ∧ Aside0 (SM w g12 ro (true, (F : Int), Z) ((true, (F : Int), Z) : R3) ((m0, m1, m2) : R3) ((true, (F : Int), Z) : R3) wc) ∧ Aside0 (TM w g15 (true, (F : Int), Z) wc))
      case first =>
        go_region_held3 (fun W => W.cell? ⟨ro, 0, none⟩ = some (.bool (((true, (F : Int), Z) : R3)).1) ∧ W.cell? ⟨ro, 1, none⟩ = some (.int .i64 (((true, (F : Int), Z) : R3)).2.1) ∧ W.cell? ⟨ro, 2, none⟩ = some (.int .i64 (((true, (F : Int), Z) : R3)).2.2) ∧ W.cell? ⟨ro, 3, none⟩ = some (.bool (((m0, m1, m2) : R3)).1) ∧ W.cell? ⟨ro, 4, none⟩ = some (.int .i64 (((m0, m1, m2) : R3)).2.1) ∧ W.cell? ⟨ro, 5, none⟩ = some (.int .i64 (((m0, m1, m2) : R3)).2.2) ∧ W.cell? ⟨ro, 6, none⟩ = some (.bool (((true, (F : Int), Z) : R3)).1) ∧ W.cell? ⟨ro, 7, none⟩ = some (.int .i64 (((true, (F : Int), Z) : R3)).2.1) ∧ W.cell? ⟨ro, 8, none⟩ = some (.int .i64 (((true, (F : Int), Z) : R3)).2.2)) ((first | exact cells9r (p := ((true, (F : Int), Z) : R3)) (q := ((m0, m1, m2) : R3)) (s := ((true, (F : Int), Z) : R3)) (bkt R9.out) | exact cells9r (p := ((true, (F : Int), Z) : R3)) (q := ((m0, m1, m2) : R3)) (s := ((true, (F : Int), Z) : R3)) (bkt H9.out.row))) ((first
          | (go_at_call 17; refine (sensor_Vote.calls _ _ _ _ _ _ _ _ _ _ _ _ _ _ V2.out).mono ?_; rintro e y1 ⟨rfl, hb⟩; have B9 := Aside0.mk (bst B9.out hb); have R9 := Aside0.mk (bkb H9.out.row hb); have T9 := Aside0.mk (bkb H9.out.tm.at_ hb); have NE8 := Aside0.mk (Nat.ne_of_lt (blk_lt R9.out)); have NF8 := Aside0.mk (Nat.ne_of_lt (blk_lt T9.out)); have LE8 := Aside0.mk (bsz B9.out); (try ((first | have hN := blk_below (blk_new _ _) hb | have hN := blk_below (blk_drew (blk_new _ _)) hb); have HN := Aside0.mk (show y1.heap[W9.heap.size]? = some (.cells #[.bool false, .int .i64 0, .int .i64 0] 23) from hN); clear hN; have hcn := cz3 HN.out; have hfn := blk_frozen HN.out)); clear hb)))
        · go_wp2
          go_meet
          exact ⟨_, rfl, rfl, ⟨H9.out.step (below_alloc B9.out _)⟩, ⟨⟨below_step H9.out.tm.below (below_alloc B9.out _), blk_new _ _, Nat.le_trans LW9.out LE8.out⟩⟩⟩
        · go_wp2
          go_meet
          exact ⟨_, rfl, rfl, ⟨H9.out.step (bel B9.out)⟩, ⟨⟨below_step H9.out.tm.below (bel B9.out), bkt HN.out, LW9.out⟩⟩⟩
      case rest =>
        obtain ⟨g15, rfl, rfl, S9, T9⟩ := hcut
        clear H9 B9 LE9 NE9 NF9 LW9 k0 k1 k2 k3 k4 k5 k6 k7 k8
        go_upto_region 10 with fail
        obtain ⟨k0, k1, k2, k3, k4, k5, k6, k7, k8⟩ := cells9r S9.out.row
        go_region_held3 (fun W => W.cell? ⟨ro, 0, none⟩ = some (.bool (((true, (F : Int), Z) : R3)).1) ∧ W.cell? ⟨ro, 1, none⟩ = some (.int .i64 (((true, (F : Int), Z) : R3)).2.1) ∧ W.cell? ⟨ro, 2, none⟩ = some (.int .i64 (((true, (F : Int), Z) : R3)).2.2) ∧ W.cell? ⟨ro, 3, none⟩ = some (.bool (((m0, m1, m2) : R3)).1) ∧ W.cell? ⟨ro, 4, none⟩ = some (.int .i64 (((m0, m1, m2) : R3)).2.1) ∧ W.cell? ⟨ro, 5, none⟩ = some (.int .i64 (((m0, m1, m2) : R3)).2.2) ∧ W.cell? ⟨ro, 6, none⟩ = some (.bool (((true, (F : Int), Z) : R3)).1) ∧ W.cell? ⟨ro, 7, none⟩ = some (.int .i64 (((true, (F : Int), Z) : R3)).2.1) ∧ W.cell? ⟨ro, 8, none⟩ = some (.int .i64 (((true, (F : Int), Z) : R3)).2.2)) ((first | exact cells9r (p := ((true, (F : Int), Z) : R3)) (q := ((m0, m1, m2) : R3)) (s := ((true, (F : Int), Z) : R3)) (bkt R9.out) | exact cells9r (p := ((true, (F : Int), Z) : R3)) (q := ((m0, m1, m2) : R3)) (s := ((true, (F : Int), Z) : R3)) (bkt S9.out.row))) ((first
          | (go_at_call 19; refine (sensor_Odd.calls _ _ _ _ _ _ _ _ _ _ _ _ D2.out).mono ?_; rintro e y2 ⟨rfl, hb⟩; have R9 := Aside0.mk (bkb S9.out.row hb); have U9 := Aside0.mk (S9.out.tm.step (bst (Below.refl _ _) hb)); have V9 := Aside0.mk (T9.out.step (bst (Below.refl _ _) hb)); clear hb)))
        go_upto_region 12 with fail
        obtain ⟨l0, l1, l2⟩ := cz3 U9.out.at_
        have hE1 := EQ.out
        by_cases hmr : ((m0, m1, m2) : R3) = (true, (F : Int), Z)
        · rw [decide_eq_true hmr] at hE1
          have ho := HO2.out
          rw [if_pos hmr] at ho
          subst ho
          clear hmr
          go_region_held3 (fun W => W.cell? ⟨g12, 0, none⟩ = some (.bool true) ∧ W.cell? ⟨g12, 1, none⟩ = some (.int .i64 (F : Int)) ∧ W.cell? ⟨g12, 2, none⟩ = some (.int .i64 Z)) ((first | exact cz3 (bkt X9.out.at_) | exact cz3 (bkt U9.out.at_))) ((first
            | (go_at_call 32; refine (q_made.calls c _ _ _ _ HM.out).mono ?_; rintro e y3 ⟨rfl, hb⟩; have X9 := Aside0.mk (U9.out.step (bst (Below.refl _ _) hb)); have Y9 := Aside0.mk (V9.out.step (bst (Below.refl _ _) hb)); clear hb)))
          have h12 := cz3 X9.out.at_
          have h15 := cz3 Y9.out.at_
          have hE2 := eqR (true, (F : Int), Z) (true, (F : Int), Z)
          rw [decide_eq_true rfl] at hE2
          go_wp2
          go_ret
          exact ⟨rfl, bel X9.out.below⟩
        · rw [decide_eq_false hmr] at hE1
          have ho := HO2.out
          rw [if_neg hmr] at ho
          subst ho
          clear hmr
          go_region_held3 (fun W => W.cell? ⟨g12, 0, none⟩ = some (.bool true) ∧ W.cell? ⟨g12, 1, none⟩ = some (.int .i64 (F : Int)) ∧ W.cell? ⟨g12, 2, none⟩ = some (.int .i64 Z)) ((first | exact cz3 (bkt X9.out.at_) | exact cz3 (bkt U9.out.at_))) ((first
            | (go_at_call 32; refine (q_made.calls c _ _ _ _ HM.out).mono ?_; rintro e y3 ⟨rfl, hb⟩; have X9 := Aside0.mk (U9.out.step (bst (Below.refl _ _) hb)); have Y9 := Aside0.mk (V9.out.step (bst (Below.refl _ _) hb)); clear hb)))
          have h12 := cz3 X9.out.at_
          have h15 := cz3 Y9.out.at_
          have hE2 := eqR (true, (F : Int), Z) (true, (F : Int), Z)
          rw [decide_eq_true rfl] at hE2
          go_wp2_with (go_at_call 33; refine (kit_Mod.calls d 3 _ _ HPM.out).mono ?_; rintro e y4 ⟨rfl, hd⟩; have hb := hd.below; replace X9 := Aside0.mk (X9.out.step (bst (Below.refl _ _) hb)); replace Y9 := Aside0.mk (Y9.out.step (bst (Below.refl _ _) hb)); clear hb hd; have h12 := cz3 X9.out.at_; have h15 := cz3 Y9.out.at_)
          go_ret
          exact ⟨rfl, bel X9.out.below⟩
    ·
      have hro := cells9r RO.out
      have hfr := blk_frozen RO.out
      go_upto_region 9 with (first
        | (go_at_call 33; refine (kit_Mod.calls d 3 _ _ HPM.out).mono ?_; rintro e x1 ⟨rfl, hd⟩; have hb := hd.below; replace RO := Aside0.mk (bkb RO.out hb); replace H12 := Aside0.mk (H12.out.step (bst (Below.refl _ _) hb)); clear hb hd; have hro := cells9r RO.out; have hfr := blk_frozen RO.out)
        | (go_at_call 32; refine (q_made.calls c _ _ _ _ HM.out).mono ?_; rintro e x2 ⟨rfl, hb⟩; replace RO := Aside0.mk (bkb RO.out hb); replace H12 := Aside0.mk (H12.out.step (bst (Below.refl _ _) hb)); clear hb; have hro := cells9r RO.out; have hfr := blk_frozen RO.out))
      refine wp_abs (SM w g12 ro (true, (F : Int), Z) ((true, (F : Int), Z) : R3) ((true, (F : Int), Z) : R3) ((m0, m1, m2) : R3)) ⟨⟨bel H12.out.below, bkt H12.out.at_, H12.out.lo⟩, bkt RO.out⟩ (fun W9 h9 => ?_)
      clear hro hfr RO H12
      have H9 := Aside0.mk h9
      have B9 := Aside0.mk (Below.refl W9.heap.size W9)
      have LE9 := Aside0.mk (Nat.le_refl W9.heap.size)
      have NE9 := Aside0.mk (Nat.ne_of_lt (blk_lt h9.row))
      have NF9 := Aside0.mk (Nat.ne_of_lt (blk_lt h9.tm.at_))
      have LW9 := Aside0.mk (bsz h9.tm.below)
      obtain ⟨k0, k1, k2, k3, k4, k5, k6, k7, k8⟩ := cells9r h9.row
      clear h9
      go_cut [15, 16] from 57 to 69 (fun v15 v16 wc => ∃ g15 : Nat, v15 = .pointer (some ⟨g15, 0, none⟩) ∧ v16 = .int .i64 0 ∧ Aside0 (SM w g12 ro (true, (F : Int), Z) ((true, (F : Int), Z) : R3) ((true, (F : Int), Z) : R3) ((m0, m1, m2) : R3) wc) ∧ Aside0 (TM w g15 (true, (F : Int), Z) wc))
      case first =>
        go_region_held3 (fun W => W.cell? ⟨ro, 0, none⟩ = some (.bool (((true, (F : Int), Z) : R3)).1) ∧ W.cell? ⟨ro, 1, none⟩ = some (.int .i64 (((true, (F : Int), Z) : R3)).2.1) ∧ W.cell? ⟨ro, 2, none⟩ = some (.int .i64 (((true, (F : Int), Z) : R3)).2.2) ∧ W.cell? ⟨ro, 3, none⟩ = some (.bool (((true, (F : Int), Z) : R3)).1) ∧ W.cell? ⟨ro, 4, none⟩ = some (.int .i64 (((true, (F : Int), Z) : R3)).2.1) ∧ W.cell? ⟨ro, 5, none⟩ = some (.int .i64 (((true, (F : Int), Z) : R3)).2.2) ∧ W.cell? ⟨ro, 6, none⟩ = some (.bool (((m0, m1, m2) : R3)).1) ∧ W.cell? ⟨ro, 7, none⟩ = some (.int .i64 (((m0, m1, m2) : R3)).2.1) ∧ W.cell? ⟨ro, 8, none⟩ = some (.int .i64 (((m0, m1, m2) : R3)).2.2)) ((first | exact cells9r (p := ((true, (F : Int), Z) : R3)) (q := ((true, (F : Int), Z) : R3)) (s := ((m0, m1, m2) : R3)) (bkt R9.out) | exact cells9r (p := ((true, (F : Int), Z) : R3)) (q := ((true, (F : Int), Z) : R3)) (s := ((m0, m1, m2) : R3)) (bkt H9.out.row))) ((first
          | (go_at_call 17; refine (sensor_Vote.calls _ _ _ _ _ _ _ _ _ _ _ _ _ _ V3.out).mono ?_; rintro e y1 ⟨rfl, hb⟩; have B9 := Aside0.mk (bst B9.out hb); have R9 := Aside0.mk (bkb H9.out.row hb); have T9 := Aside0.mk (bkb H9.out.tm.at_ hb); have NE8 := Aside0.mk (Nat.ne_of_lt (blk_lt R9.out)); have NF8 := Aside0.mk (Nat.ne_of_lt (blk_lt T9.out)); have LE8 := Aside0.mk (bsz B9.out); (try ((first | have hN := blk_below (blk_new _ _) hb | have hN := blk_below (blk_drew (blk_new _ _)) hb); have HN := Aside0.mk (show y1.heap[W9.heap.size]? = some (.cells #[.bool false, .int .i64 0, .int .i64 0] 23) from hN); clear hN; have hcn := cz3 HN.out; have hfn := blk_frozen HN.out)); clear hb)))
        · go_wp2
          go_meet
          exact ⟨_, rfl, rfl, ⟨H9.out.step (below_alloc B9.out _)⟩, ⟨⟨below_step H9.out.tm.below (below_alloc B9.out _), blk_new _ _, Nat.le_trans LW9.out LE8.out⟩⟩⟩
        · go_wp2
          go_meet
          exact ⟨_, rfl, rfl, ⟨H9.out.step (bel B9.out)⟩, ⟨⟨below_step H9.out.tm.below (bel B9.out), bkt HN.out, LW9.out⟩⟩⟩
      case rest =>
        obtain ⟨g15, rfl, rfl, S9, T9⟩ := hcut
        clear H9 B9 LE9 NE9 NF9 LW9 k0 k1 k2 k3 k4 k5 k6 k7 k8
        go_upto_region 10 with fail
        obtain ⟨k0, k1, k2, k3, k4, k5, k6, k7, k8⟩ := cells9r S9.out.row
        go_region_held3 (fun W => W.cell? ⟨ro, 0, none⟩ = some (.bool (((true, (F : Int), Z) : R3)).1) ∧ W.cell? ⟨ro, 1, none⟩ = some (.int .i64 (((true, (F : Int), Z) : R3)).2.1) ∧ W.cell? ⟨ro, 2, none⟩ = some (.int .i64 (((true, (F : Int), Z) : R3)).2.2) ∧ W.cell? ⟨ro, 3, none⟩ = some (.bool (((true, (F : Int), Z) : R3)).1) ∧ W.cell? ⟨ro, 4, none⟩ = some (.int .i64 (((true, (F : Int), Z) : R3)).2.1) ∧ W.cell? ⟨ro, 5, none⟩ = some (.int .i64 (((true, (F : Int), Z) : R3)).2.2) ∧ W.cell? ⟨ro, 6, none⟩ = some (.bool (((m0, m1, m2) : R3)).1) ∧ W.cell? ⟨ro, 7, none⟩ = some (.int .i64 (((m0, m1, m2) : R3)).2.1) ∧ W.cell? ⟨ro, 8, none⟩ = some (.int .i64 (((m0, m1, m2) : R3)).2.2)) ((first | exact cells9r (p := ((true, (F : Int), Z) : R3)) (q := ((true, (F : Int), Z) : R3)) (s := ((m0, m1, m2) : R3)) (bkt R9.out) | exact cells9r (p := ((true, (F : Int), Z) : R3)) (q := ((true, (F : Int), Z) : R3)) (s := ((m0, m1, m2) : R3)) (bkt S9.out.row))) ((first
          | (go_at_call 19; refine (sensor_Odd.calls _ _ _ _ _ _ _ _ _ _ _ _ D3.out).mono ?_; rintro e y2 ⟨rfl, hb⟩; have R9 := Aside0.mk (bkb S9.out.row hb); have U9 := Aside0.mk (S9.out.tm.step (bst (Below.refl _ _) hb)); have V9 := Aside0.mk (T9.out.step (bst (Below.refl _ _) hb)); clear hb)))
        go_upto_region 12 with fail
        obtain ⟨l0, l1, l2⟩ := cz3 U9.out.at_
        have hE1 := EQ.out
        by_cases hmr : ((m0, m1, m2) : R3) = (true, (F : Int), Z)
        · rw [decide_eq_true hmr] at hE1
          have ho := HO3.out
          rw [if_pos hmr] at ho
          subst ho
          clear hmr
          go_region_held3 (fun W => W.cell? ⟨g12, 0, none⟩ = some (.bool true) ∧ W.cell? ⟨g12, 1, none⟩ = some (.int .i64 (F : Int)) ∧ W.cell? ⟨g12, 2, none⟩ = some (.int .i64 Z)) ((first | exact cz3 (bkt X9.out.at_) | exact cz3 (bkt U9.out.at_))) ((first
            | (go_at_call 32; refine (q_made.calls c _ _ _ _ HM.out).mono ?_; rintro e y3 ⟨rfl, hb⟩; have X9 := Aside0.mk (U9.out.step (bst (Below.refl _ _) hb)); have Y9 := Aside0.mk (V9.out.step (bst (Below.refl _ _) hb)); clear hb)))
          have h12 := cz3 X9.out.at_
          have h15 := cz3 Y9.out.at_
          have hE2 := eqR (true, (F : Int), Z) (true, (F : Int), Z)
          rw [decide_eq_true rfl] at hE2
          go_wp2
          go_ret
          exact ⟨rfl, bel X9.out.below⟩
        · rw [decide_eq_false hmr] at hE1
          have ho := HO3.out
          rw [if_neg hmr] at ho
          subst ho
          clear hmr
          go_region_held3 (fun W => W.cell? ⟨g12, 0, none⟩ = some (.bool true) ∧ W.cell? ⟨g12, 1, none⟩ = some (.int .i64 (F : Int)) ∧ W.cell? ⟨g12, 2, none⟩ = some (.int .i64 Z)) ((first | exact cz3 (bkt X9.out.at_) | exact cz3 (bkt U9.out.at_))) ((first
            | (go_at_call 32; refine (q_made.calls c _ _ _ _ HM.out).mono ?_; rintro e y3 ⟨rfl, hb⟩; have X9 := Aside0.mk (U9.out.step (bst (Below.refl _ _) hb)); have Y9 := Aside0.mk (V9.out.step (bst (Below.refl _ _) hb)); clear hb)))
          have h12 := cz3 X9.out.at_
          have h15 := cz3 Y9.out.at_
          have hE2 := eqR (true, (F : Int), Z) (true, (F : Int), Z)
          rw [decide_eq_true rfl] at hE2
          go_wp2_with (go_at_call 33; refine (kit_Mod.calls d 3 _ _ HPM.out).mono ?_; rintro e y4 ⟨rfl, hd⟩; have hb := hd.below; replace X9 := Aside0.mk (X9.out.step (bst (Below.refl _ _) hb)); replace Y9 := Aside0.mk (Y9.out.step (bst (Below.refl _ _) hb)); clear hb hd; have h12 := cz3 X9.out.at_; have h15 := cz3 Y9.out.at_)
          go_ret
          exact ⟨rfl, bel X9.out.below⟩
end Go.Proofs.Ytlkphdcfgaolnaa.P
