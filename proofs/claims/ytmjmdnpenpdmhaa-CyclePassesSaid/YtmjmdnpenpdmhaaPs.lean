/- A cycle that passes by stays shut, and a cycle without an obstruction stands open for its dwell: the law's own code, walked by hand. -/
import Derived.Test.YtmjmdnpenpdmhaaPe
import Derived.Test.YtmjmdnpenpdmhaaPo
namespace Go.Proofs.Ytmjmdnpenpdmhaa.P
open Go.RowKit Go.Proofs.YtmjmdnpenpdmhaaW.PrintWords Go.Proofs.YtmjmdnpenpdmhaaW.PrintLast Go.Proofs.YtmjmdnpenpdmhaaW.PrintMore
attribute [local go_sem] cell_same1 cell_some1
set_option linter.unusedVariables false
set_option linter.unusedSimpArgs false

theorem C_nil (W : World) : Kd.C Kd.bool W none 0 [] := ⟨rfl, by decide, fun h => absurd h (by decide)⟩
theorem panels_nil (w dw rt : Int) (r1 : List Int) (r2 : Int) (W : World) (h : cycle_Panels.f w dw rt [] = some (r1, r2)) : Calls Try.prog 11 #[.agg #[.int .i64 w, .int .i64 dw, .int .i64 rt], .slice none 0 0] W fun e w' => ∃ v0_ : Value, e = .returned (.tuple #[v0_, .int .i64 r2]) ∧ Kd.R (Kd.int .i64) 3 w' W.heap.size (fun _ => True) v0_ r1 ∧ Below W.heap.size W w' :=
  cycle_Panels.calls w dw rt none 0 [] r1 r2 W (C_nil W) (Nat.le_refl _) h
set_option maxHeartbeats 40000000 in
set_option maxRecDepth 100000 in
theorem passes_walk (n : Int) (A1 : Option Addr) (c1 : Nat) (nums : List Int) (w0 : World) (hr1 : Kd.C (Kd.int .i64) w0 A1 nums.length nums) (hc1 : nums.length ≤ c1) :
    Calls Try.prog 7 #[.int .i64 n, .slice A1 nums.length c1] w0 fun e w' => e = .returned (.bool true) ∧ Below w0.heap.size w0 w' := by
  have HB := Aside0.mk (Below.refl w0.heap.size w0)
  obtain ⟨w, dw, rt, l, hm, hr, hl⟩ := made_ok n nums 0
  have hb := cwst_bound hr
  obtain ⟨W, hW⟩ : ∃ W : Nat, cwst w dw rt = W := ⟨(cwst w dw rt).toNat, by omega⟩
  have HM := Aside0.mk hm
  have HK := Aside0.mk (known_true 0)
  have hpn := Panels_ok hr [] (by simp; omega) hW
  have HBG := Aside0.mk (show cycle_Begin.f 9 w dw rt false = some (0, 0, 0, 0, 0, true, 0) from CBegin_ok hr false)
  have HRL := Aside0.mk hr
  have HW := Aside0.mk hW
  have HC1 := Aside0.mk hr1
  have hwm := worst_most hr
  obtain ⟨pl, hpl⟩ : ∃ pl, pl = cpl w dw rt [] 0 false W := ⟨_, rfl⟩
  have hpe : pl.length = W := by rw [hpl, cpl_len]
  rw [← hpl] at hpn
  have HPN := Aside0.mk hpn
  have HPL := Aside0.mk hpl
  have HPE := Aside0.mk hpe
  rw [hW] at hwm
  have hW600 : W ≤ 600 := by omega
  have hW3 : 3 ≤ W := by omega
  have hwb : 1 ≤ w ∧ w ≤ 20 := ⟨hr.1, hr.2.1⟩
  have hdb : 1 ≤ dw ∧ dw ≤ 50 := ⟨hr.2.2.1, hr.2.2.2.1⟩
  clear hm hr hl hb hW hr1 hpl hpe hpn
  go_enter Try.func7, Try.ntmps7
  go_upto_region 7 with (first
    | (go_at_call 4; refine (q_CycleKnown.calls 40 true _ HK.out).mono ?_; rintro e w1 ⟨rfl, hb⟩; replace HC1 := Aside0.mk (Kd.C_below HC1.out (bst (Below.refl _ _) hb)); replace HB := Aside0.mk (bst HB.out hb); clear hb)
    | (go_at_call 23; refine (q_made.calls _ _ _ _ nums _ _ _ _ _ HC1.out hc1 HM.out).mono ?_; rintro e w2 ⟨v7, rfl, hR, hb⟩; replace HB := Aside0.mk (bst HB.out hb); obtain ⟨A7, c7, rfl⟩ := Kd.R_slice hR; have HR7 := Aside0.mk hR; clear hb hR HC1)
    | ((with_reducible refine gate_dst (N := 6) rfl ?_); refine bxe (cs := #[.int .i64 0, .int .i64 0, .int .i64 0]) (t := 23) ?_; intro g6 hg w3 hbox hb; have BK6 := Aside0.mk hbox; have GE6 := Aside0.mk (bge hg HB.out); have GF6 := Aside0.mk (bge hg (Below.refl _ _)); have B7 := Aside0.mk (bst (Below.refl _ _) hb); have C7 := Aside0.mk (Kd.R_reads' HR7.out).2.2; have HL7 := Aside0.mk (Kd.R_reads' HR7.out).2.1; clear HR7; replace HB := Aside0.mk (bst HB.out hb); clear hb hbox hg; have hcz6 := cz3 BK6.out; have hfz6 := blk_frozen BK6.out)
    | (go_at_call 11; (with_reducible refine (panels_nil w dw rt _ _ _ HPN.out).mono ?_); rintro e w4 ⟨v9, rfl, hR, hb⟩; replace HB := Aside0.mk (bst HB.out hb); replace B7 := Aside0.mk (bst B7.out hb); replace BK6 := Aside0.mk (show w4.heap[g6]? = some (.cells (rule3 w dw rt) 23) from blk_below (bkt BK6.out) hb); obtain ⟨A9, c9, rfl⟩ := Kd.R_slice hR; have HR9 := Aside0.mk (Kd.R_reads' hR).2.2; replace HR9 := Aside0.mk (show Kd.C (Kd.int .i64) w4 A9 W pl by have h := HR9.out; rw [HPE.out] at h; exact h); rw [HPE.out]; clear hb hR; have hcz6 := cz3 BK6.out)
    | (go_at_call 20; (with_reducible refine (cycle_Begin.calls 9 _ _ _ _ _ _ _ _ _ _ _ _ HBG.out).mono ?_); rintro e w5 ⟨rfl, hb⟩; replace HB := Aside0.mk (bst HB.out hb); replace B7 := Aside0.mk (bst B7.out hb); replace BK6 := Aside0.mk (bkb BK6.out hb); replace HR9 := Aside0.mk (Kd.C_below HR9.out hb); clear hb hcz6)
    | ((with_reducible refine gate_dst (N := 10) rfl ?_); refine bxe (cs := #[.int .i64 0, .int .i64 0, .int .i64 0, .int .i64 0, .int .i64 0, .bool false]) (t := 39) ?_; intro g11 hg w6 hbox hb; have BK11 := Aside0.mk hbox; have GE11 := Aside0.mk (bge hg HB.out); have GF11 := Aside0.mk (bge hg B7.out); have N6b := Aside0.mk (bkl hg BK6.out); have LT9 := Aside0.mk hg; have BB := Aside0.mk hb; replace BK6 := Aside0.mk (bkb BK6.out hb); replace HB := Aside0.mk (bst HB.out hb); replace B7 := Aside0.mk (bst B7.out hb); clear hb hbox hg; have hcz11 := cz6 BK11.out; have hfz11 := blk_frozen BK11.out))
  have GB11 := Aside0.mk (Nat.le_of_eq LT9.out.symm)
  obtain ⟨ad9, rfl, hc9⟩ := (Kd.reads_of_C (d := (0 : Int)) HR9.out).2.2 (by omega)
  refine wp_abs (PL w0 g6 g11 A7 ad9 w dw rt l pl ((0, 0, 0, 0) : Int × Int × Int × Int) 0 true) ⟨bel HB.out, bkt BK6.out, bkt BK11.out, GE11.out, N6b.out, fun j hj => by
      obtain ⟨ad, e, hc⟩ := (Kd.reads_of_C (d := false) C7.out).2.2 (by omega)
      refine ⟨ad, e, cellB (hc j hj) (bel B7.out), ?_⟩
      have h1 := World.block_lt_of_cell? _ _ (hc j hj)
      rw [ab] at h1
      exact Nat.ne_of_lt (Nat.lt_of_lt_of_le h1 GF11.out), fun j hj => cellB (hc9 j (by rw [← HPE.out]; exact hj)) (bel BB.out), by
      have h1 := World.block_lt_of_cell? _ _ (hc9 0 (by omega))
      rw [ab] at h1
      exact Nat.ne_of_lt (Nat.lt_of_lt_of_le h1 GB11.out)⟩ (fun WL hL => ?_)
  have HL := Aside0.mk hL
  clear hL BK6 BK11 HB B7 BB GB11 LT9 HR9 C7 HL7 hcz6 hcz11 hfz6 hfz11 hc9 GF11 GF6 GE6 GE11 N6b
  go_wp2
  go_loopw [12] (fun v12 wr => ∃ k : Nat, k ≤ W ∧ v12 = .int .i64 k ∧ Aside0 (PL w0 g6 g11 A7 ad9 w dw rt l pl ((0, 0, 0, 0) : Int × Int × Int × Int) k true wr)) (fun v12 _ => W - (intOf v12).toNat)
  case atStart => exact ⟨0, by omega, rfl, HL⟩
  case round =>
    obtain ⟨k, hk, rfl, K1⟩ := hrel
    clear HL
    by_cases hlt : k < W
    · have hkc : (k : Int) < cwst w dw rt := by rw [HW.out]; omega
      have hp : pl.getD k 0 = (cst w dw rt [] 0 false (k + 1)).2.1 := by rw [HPL.out]; exact Panel_at [] W k hlt
      have hfp := free_panel HRL.out k
      obtain ⟨x', hx'⟩ : ∃ x', x' = (cst w dw rt [] 0 false (k + 1)).2.1 := ⟨_, rfl⟩
      rw [← hx'] at hp hfp
      obtain ⟨b, hbb⟩ : ∃ b, b = rdOf false l (k : Int) := ⟨_, rfl⟩
      have HBB := Aside0.mk hbb
      have HS := Aside0.mk (PStep_ok HRL.out k hkc b)
      have HP := Aside0.mk hp
      have HFP := Aside0.mk hfp
      clear hp hfp hx' hbb hkc
      go_upto_region 10 with fail
      have LE1 := Aside0.mk (Nat.le_refl wr.heap.size)
      have B1 := Aside0.mk (Below.refl wr.heap.size wr)
      have NE6 := Aside0.mk (Nat.ne_of_lt (blk_lt K1.out.a6))
      have NE11 := Aside0.mk (Nat.ne_of_lt (blk_lt K1.out.a11))
      have hc11 := cz6 K1.out.a11
      have hc6 := cz3 K1.out.a6
      go_cut [13, 14, 15] from 46 to 62 (fun v13 v14 v15 wc => ∃ g15 : Nat, v13 = .pointer (some ⟨g15, 0, none⟩) ∧ v14 = .bool false ∧ v15 = .int .i64 0 ∧ Aside0 (PL w0 g6 g11 A7 ad9 w dw rt l pl ((0, 0, 0, 0) : Int × Int × Int × Int) k true wc) ∧ Aside0 (wc.heap[g15]? = some (.cells (cyc6 ((0, 0, 0, 0) : Int × Int × Int × Int) (k + 1) true) 39)) ∧ Aside0 (g15 ≠ g11))
      case first =>
        --BLK r12
        by_cases hkl : k < l.length
        --BLK r12a
        · obtain ⟨ad, rfl, hcb, hnb⟩ := K1.out.bs k hkl
          have eb : l.getD k false = b := by rw [HBB.out]; rfl
          rw [eb] at hcb
          have CB := Aside0.mk hcb
          have hkz : (k : Int) < (l.length : Int) := by omega
          clear hnb eb
          go_region_held3 (fun W => (W.cell? ⟨g11, 0, none⟩ = some (.int .i64 0) ∧ W.cell? ⟨g11, 1, none⟩ = some (.int .i64 0) ∧ W.cell? ⟨g11, 2, none⟩ = some (.int .i64 0) ∧ W.cell? ⟨g11, 3, none⟩ = some (.int .i64 0) ∧ W.cell? ⟨g11, 4, none⟩ = some (.int .i64 k) ∧ W.cell? ⟨g11, 5, none⟩ = some (.bool true)) ∧ (W.cell? ⟨g6, 0, none⟩ = some (.int .i64 w) ∧ W.cell? ⟨g6, 1, none⟩ = some (.int .i64 dw) ∧ W.cell? ⟨g6, 2, none⟩ = some (.int .i64 rt)) ∧ W.cell? (ad.add k) = some (.bool b)) ((first | exact keepP (K1.out.step (bel B1.out)) (cellB CB.out (bel B1.out)))) ((first
            | (go_at_call 18; (with_reducible refine (cycle_Step.calls 9 _ _ _ _ _ _ _ _ _ _ _ _ _ _ _ _ _ _ _ HS.out).mono ?_); rintro e w1 ⟨rfl, hb⟩; have B1 := Aside0.mk (bst B1.out hb); have LE2 := Aside0.mk (bsz B1.out); (try ((first | have hN := blk_below (blk_new _ _) hb | have hN := blk_below (blk_drew (blk_new _ _)) hb); have HN := Aside0.mk (show w1.heap[wr.heap.size]? = some (.cells (cyc6 (0, 0, 0, 0) 0 false) 39) from hN); clear hN; have hcn := cz6 HN.out; have hfn := blk_frozen HN.out)); clear hb)))
          · go_wp2
            go_meet
            exact ⟨_, rfl, rfl, rfl, ⟨K1.out.step (below_alloc B1.out _)⟩, ⟨blk_new _ _⟩, ⟨Nat.ne_of_gt (blk_lt (K1.out.step (bel B1.out)).a11)⟩⟩
          · go_wp2
            go_meet
            exact ⟨_, rfl, rfl, rfl, ⟨K1.out.step (bel B1.out)⟩, ⟨bkt HN.out⟩, ⟨Nat.ne_of_gt (blk_lt K1.out.a11)⟩⟩
        --KLB r12a
        · have eb : b = false := by rw [HBB.out]; exact rd_out l k (by omega)
          subst eb
          have hkz : (decide ((k : Int) < (l.length : Int))) = false := decide_eq_false (by omega)
          have hkz2 : ((k : Int) < (l.length : Int)) = False := eq_false (by omega)
          clear hkl
          have hD := keepQ (K1.out.step (below_drew1 (Below.refl wr.heap.size wr)))
          have B2 := Aside0.mk (show Below wr.heap.size wr wr.drew from below_drew1 (Below.refl wr.heap.size wr))
          refine wp_region_J (fun W => (W.cell? ⟨g11, 0, none⟩ = some (.int .i64 0) ∧ W.cell? ⟨g11, 1, none⟩ = some (.int .i64 0) ∧ W.cell? ⟨g11, 2, none⟩ = some (.int .i64 0) ∧ W.cell? ⟨g11, 3, none⟩ = some (.int .i64 0) ∧ W.cell? ⟨g11, 4, none⟩ = some (.int .i64 k) ∧ W.cell? ⟨g11, 5, none⟩ = some (.bool true)) ∧ (W.cell? ⟨g6, 0, none⟩ = some (.int .i64 w) ∧ W.cell? ⟨g6, 1, none⟩ = some (.int .i64 dw) ∧ W.cell? ⟨g6, 2, none⟩ = some (.int .i64 rt))) 99 (by kernel_rfl) hD (fun hS => ?_)
          clear hD hc11 hc6
          repeat ((first | refine tk 0 (some 47) ?_ | refine tk 1 (some 48) ?_ | refine tk0 2 (some 49) ?_ | refine tk0 3 (some 50) ?_ | refine tk0 4 (some 51) ?_ | refine tk0 5 (some 52) ?_ | refine tk0 6 (some 53) ?_ | refine tk0 7 (some 54) ?_ | refine tk1 7 (some 54) ?_ | refine tk0 8 (some 55) ?_ | refine tk1 8 (some 55) ?_ | refine tk0 9 (some 56) ?_ | refine tk1 9 (some 56) ?_ | refine tk 10 (some 57) ?_ | refine tk1 10 (some 57) ?_ | refine tk0 11 (some 58) ?_ | refine tk0 13 (some 46) ?_ | refine tk0 14 (some 60) ?_ | refine tk0 15 (some 61) ?_ | refine tk0 16 (some 62) ?_ | refine tk0 19 (some 14) ?_ | refine tk0 20 (some 15) ?_); simp only [Act.put, List.setIfInBounds_toArray, List.set_cons_zero, List.set_cons_succ])
          refine wpAnyJ_two (i := 12) (j := 17) (by decide +kernel) rfl rfl (fun K hK => ?_) (fun K hK => ?_)
          · go_simp
            go_at_call 18
            (with_reducible refine (cycle_Step.calls 9 _ _ _ _ _ _ _ _ _ _ _ _ _ _ _ _ _ _ _ HS.out).mono ?_)
            rintro e w1 ⟨rfl, hb⟩
            replace B2 := Aside0.mk (bst B2.out hb)
            have LE2 := Aside0.mk (bsz B2.out)
            clear hb
            refine hK.out _ _ (fun _ => keepQ (K1.out.step (bel B2.out))) (fun hS => ?_)
            have hS := hS (by decide +kernel)
            clear hK K
            try simp only [Act.put, List.setIfInBounds_toArray, List.set_cons_zero, List.set_cons_succ]
            repeat ((first | refine tk 0 (some 47) ?_ | refine tk 1 (some 48) ?_ | refine tk0 2 (some 49) ?_ | refine tk0 3 (some 50) ?_ | refine tk0 4 (some 51) ?_ | refine tk0 5 (some 52) ?_ | refine tk0 6 (some 53) ?_ | refine tk0 7 (some 54) ?_ | refine tk1 7 (some 54) ?_ | refine tk0 8 (some 55) ?_ | refine tk1 8 (some 55) ?_ | refine tk0 9 (some 56) ?_ | refine tk1 9 (some 56) ?_ | refine tk 10 (some 57) ?_ | refine tk1 10 (some 57) ?_ | refine tk0 11 (some 58) ?_ | refine tk0 13 (some 46) ?_ | refine tk0 14 (some 60) ?_ | refine tk0 15 (some 61) ?_ | refine tk0 16 (some 62) ?_ | refine tk0 19 (some 14) ?_ | refine tk0 20 (some 15) ?_); simp only [Act.put, List.setIfInBounds_toArray, List.set_cons_zero, List.set_cons_succ])
            have NB6 := Aside0.mk (Nat.ne_of_lt (blk_lt (K1.out.step (bel B2.out)).a6))
            have NB11 := Aside0.mk (Nat.ne_of_lt (blk_lt (K1.out.step (bel B2.out)).a11))
            refine wpAnyJ_one (i := 17) (by decide +kernel) rfl (fun K hK => ?_)
            go_simp
            refine hK.out _ _ (fun _ => keepQ (K1.out.step (bel B2.out))) (fun hS => ?_)
            have hS := hS (by decide +kernel)
            clear hK K
            try simp only [Act.put, List.setIfInBounds_toArray, List.set_cons_zero, List.set_cons_succ]
            have hN := blk_new w1 (.cells (cyc6 (0, 0, 0, 0) 0 false) 39)
            have HN := Aside0.mk hN
            have hcn := cz6 hN
            have hfn := blk_frozen hN
            clear hN
            refine wpAnyJ_one (i := 18) (by decide +kernel) rfl (fun K hK => ?_)
            go_simp
            refine hK.out _ _ (fun _ => keepQ (K1.out.step (bel B2.out))) (fun hS => ?_)
            have hS := hS (by decide +kernel)
            clear hK K
            try simp only [Act.put, List.setIfInBounds_toArray, List.set_cons_zero, List.set_cons_succ]
            repeat ((first | refine tk 0 (some 47) ?_ | refine tk 1 (some 48) ?_ | refine tk0 2 (some 49) ?_ | refine tk0 3 (some 50) ?_ | refine tk0 4 (some 51) ?_ | refine tk0 5 (some 52) ?_ | refine tk0 6 (some 53) ?_ | refine tk0 7 (some 54) ?_ | refine tk1 7 (some 54) ?_ | refine tk0 8 (some 55) ?_ | refine tk1 8 (some 55) ?_ | refine tk0 9 (some 56) ?_ | refine tk1 9 (some 56) ?_ | refine tk 10 (some 57) ?_ | refine tk1 10 (some 57) ?_ | refine tk0 11 (some 58) ?_ | refine tk0 13 (some 46) ?_ | refine tk0 14 (some 60) ?_ | refine tk0 15 (some 61) ?_ | refine tk0 16 (some 62) ?_ | refine tk0 19 (some 14) ?_ | refine tk0 20 (some 15) ?_); simp only [Act.put, List.setIfInBounds_toArray, List.set_cons_zero, List.set_cons_succ])
            refine wpAnyJ_done (by decide +kernel) ?_ _
            go_wp2
            go_meet
            exact ⟨_, rfl, rfl, rfl, ⟨K1.out.step (below_alloc B2.out _)⟩, ⟨blk_new _ _⟩, ⟨Ne.symm NB11.out⟩⟩
          · go_simp
            clear B2
            have B2 := Aside0.mk (Below.refl wr.heap.size wr)
            refine hK.out _ _ (fun _ => keepQ (K1.out.step (bel B2.out))) (fun hS => ?_)
            have hS := hS (by decide +kernel)
            clear hK K
            try simp only [Act.put, List.setIfInBounds_toArray, List.set_cons_zero, List.set_cons_succ]
            repeat ((first | refine tk 0 (some 47) ?_ | refine tk 1 (some 48) ?_ | refine tk0 2 (some 49) ?_ | refine tk0 3 (some 50) ?_ | refine tk0 4 (some 51) ?_ | refine tk0 5 (some 52) ?_ | refine tk0 6 (some 53) ?_ | refine tk0 7 (some 54) ?_ | refine tk1 7 (some 54) ?_ | refine tk0 8 (some 55) ?_ | refine tk1 8 (some 55) ?_ | refine tk0 9 (some 56) ?_ | refine tk1 9 (some 56) ?_ | refine tk 10 (some 57) ?_ | refine tk1 10 (some 57) ?_ | refine tk0 11 (some 58) ?_ | refine tk0 13 (some 46) ?_ | refine tk0 14 (some 60) ?_ | refine tk0 15 (some 61) ?_ | refine tk0 16 (some 62) ?_ | refine tk0 19 (some 14) ?_ | refine tk0 20 (some 15) ?_); simp only [Act.put, List.setIfInBounds_toArray, List.set_cons_zero, List.set_cons_succ])
            refine wpAnyJ_one (i := 12) (by decide +kernel) rfl (fun K hK => ?_)
            go_simp
            go_at_call 18
            (with_reducible refine (cycle_Step.calls 9 _ _ _ _ _ _ _ _ _ _ _ _ _ _ _ _ _ _ _ HS.out).mono ?_)
            rintro e w1 ⟨rfl, hb⟩
            replace B2 := Aside0.mk (bst B2.out hb)
            have HN := Aside0.mk (show w1.heap[wr.heap.size]? = some (.cells (cyc6 (0, 0, 0, 0) 0 false) 39) by first | exact blk_below (blk_new _ _) hb | exact blk_below (blk_drew (blk_new _ _)) hb)
            clear hb
            have hcn := cz6 HN.out
            have hfn := blk_frozen HN.out
            refine hK.out _ _ (fun _ => keepQ (K1.out.step (bel B2.out))) (fun hS => ?_)
            have hS := hS (by decide +kernel)
            clear hK K
            try simp only [Act.put, List.setIfInBounds_toArray, List.set_cons_zero, List.set_cons_succ]
            repeat ((first | refine tk 0 (some 47) ?_ | refine tk 1 (some 48) ?_ | refine tk0 2 (some 49) ?_ | refine tk0 3 (some 50) ?_ | refine tk0 4 (some 51) ?_ | refine tk0 5 (some 52) ?_ | refine tk0 6 (some 53) ?_ | refine tk0 7 (some 54) ?_ | refine tk1 7 (some 54) ?_ | refine tk0 8 (some 55) ?_ | refine tk1 8 (some 55) ?_ | refine tk0 9 (some 56) ?_ | refine tk1 9 (some 56) ?_ | refine tk 10 (some 57) ?_ | refine tk1 10 (some 57) ?_ | refine tk0 11 (some 58) ?_ | refine tk0 13 (some 46) ?_ | refine tk0 14 (some 60) ?_ | refine tk0 15 (some 61) ?_ | refine tk0 16 (some 62) ?_ | refine tk0 19 (some 14) ?_ | refine tk0 20 (some 15) ?_); simp only [Act.put, List.setIfInBounds_toArray, List.set_cons_zero, List.set_cons_succ])
            refine wpAnyJ_one (i := 18) (by decide +kernel) rfl (fun K hK => ?_)
            go_simp
            refine hK.out _ _ (fun _ => keepQ (K1.out.step (bel B2.out))) (fun hS => ?_)
            have hS := hS (by decide +kernel)
            clear hK K
            try simp only [Act.put, List.setIfInBounds_toArray, List.set_cons_zero, List.set_cons_succ]
            repeat ((first | refine tk 0 (some 47) ?_ | refine tk 1 (some 48) ?_ | refine tk0 2 (some 49) ?_ | refine tk0 3 (some 50) ?_ | refine tk0 4 (some 51) ?_ | refine tk0 5 (some 52) ?_ | refine tk0 6 (some 53) ?_ | refine tk0 7 (some 54) ?_ | refine tk1 7 (some 54) ?_ | refine tk0 8 (some 55) ?_ | refine tk1 8 (some 55) ?_ | refine tk0 9 (some 56) ?_ | refine tk1 9 (some 56) ?_ | refine tk 10 (some 57) ?_ | refine tk1 10 (some 57) ?_ | refine tk0 11 (some 58) ?_ | refine tk0 13 (some 46) ?_ | refine tk0 14 (some 60) ?_ | refine tk0 15 (some 61) ?_ | refine tk0 16 (some 62) ?_ | refine tk0 19 (some 14) ?_ | refine tk0 20 (some 15) ?_); simp only [Act.put, List.setIfInBounds_toArray, List.set_cons_zero, List.set_cons_succ])
            refine wpAnyJ_done (by decide +kernel) ?_ _
            go_wp2
            go_meet
            exact ⟨_, rfl, rfl, rfl, ⟨K1.out.step (bel B2.out)⟩, ⟨bkt HN.out⟩, ⟨Ne.symm NE11.out⟩⟩
        --KLB r12
      case rest =>
        obtain ⟨g15, rfl, rfl, rfl, K2, H15, N15⟩ := hcut
        clear K1 B1 LE1 NE6 NE11 hc11 hc6 HS HBB
        have hc6 := cz3 K2.out.a6
        have hc15 := cz6 H15.out
        have hkb : (k : Int) ≤ 600 := by omega
        go_upto_region 13 with fail
        have q1 : IntKind.i64.wrap (w - 1) = w - 1 := by rw [i64_w]; exact wsm _ (by omega) (by omega)
        have q2 : IntKind.i64.wrap (w + dw) = w + dw := by rw [i64_w]; exact wsm _ (by omega) (by omega)
        have q3 : IntKind.i64.wrap (2 * w) = 2 * w := by rw [i64_w]; exact wsm _ (by omega) (by omega)
        have q4 : IntKind.i64.wrap (2 * w + dw) = 2 * w + dw := by rw [i64_w]; exact wsm _ (by omega) (by omega)
        have q5 : IntKind.i64.wrap (2 * w + dw - 1) = 2 * w + dw - 1 := by rw [i64_w]; exact wsm _ (by omega) (by omega)
        go_cut [16] from 81 to 94 (fun v16 wc2 => ∃ z : Bool, v16 = .bool z ∧ z = (x' == w) ∧ Aside0 (PL w0 g6 g11 A7 ad9 w dw rt l pl ((0, 0, 0, 0) : Int × Int × Int × Int) k true wc2) ∧ Aside0 (wc2.heap[g15]? = some (.cells (cyc6 ((0, 0, 0, 0) : Int × Int × Int × Int) (k + 1) true) 39)))
        case first =>
          by_cases a1 : w - 1 ≤ (k : Int)
          · by_cases a2 : (k : Int) < w + dw
            · go_wp2
              go_meet
              exact ⟨_, rfl, (beq_iff_eq.2 (HFP.out.1.2 ⟨a1, a2⟩)).symm, K2, H15⟩
            · go_wp2
              go_meet
              exact ⟨_, rfl, (beq_eq_false_iff_ne.2 (fun q => by have := HFP.out.1.1 q; omega)).symm, K2, H15⟩
          · go_wp2
            go_meet
            exact ⟨_, rfl, (beq_eq_false_iff_ne.2 (fun q => by have := HFP.out.1.1 q; omega)).symm, K2, H15⟩
        case rest =>
          obtain ⟨z, rfl, hz, K3, H16⟩ := hcut
          clear K2 H15 hc6 hc15
          have hc6 := cz3 K3.out.a6
          have hcp := K3.out.ps k (by rw [HPE.out]; exact hlt)
          rw [HP.out] at hcp
          go_upto_region 14 with fail
          go_cut [121] from 95 to 120 (fun v121 wc3 => v121 = .bool false ∧ Aside0 (PL w0 g6 g11 A7 ad9 w dw rt l pl ((0, 0, 0, 0) : Int × Int × Int × Int) k true wc3) ∧ Aside0 (wc3.heap[g15]? = some (.cells (cyc6 ((0, 0, 0, 0) : Int × Int × Int × Int) (k + 1) true) 39)))
          case first =>
            have hz2 : (x' == w) = z := hz.symm
            clear hz
            refine wp_region_quiet_lit (by kernel_rfl) (by kernel_rfl) ?_
            by_cases d3 : 2 * w + dw - 1 ≤ (k : Int)
            · have hx0 : (x' != 0) = false := by rw [HFP.out.2 d3]; rfl
              repeat (go_big_quiet_step (fail))
              refine wpQuiet_nil ?_
              rintro _ ⟨nq, rfl⟩
              go_wp2
              go_meet
              exact ⟨rfl, ⟨K3.out.step (bel (Below.refl _ _))⟩, ⟨bkt H16.out⟩⟩
            · repeat (go_big_quiet_step (fail))
              refine wpQuiet_nil ?_
              rintro _ ⟨nq, rfl⟩
              go_wp2
              go_meet
              exact ⟨rfl, ⟨K3.out.step (bel (Below.refl _ _))⟩, ⟨bkt H16.out⟩⟩
          case rest =>
            obtain ⟨rfl, K4, H17⟩ := hcut
            clear K3 H16 hc6 hcp q1 q2 q3 q4 q5
            have hc15 := cz6 H17.out
            have hc11 := cz6 K4.out.a11
            have hf11 := blk_frozen K4.out.a11
            have n15 := N15.out
            go_wp2
            go_roundw
            case rel => exact ⟨k + 1, by omega, by go_num, by rw [show ((k + 1 : Nat) : Int) = (k : Int) + 1 from rfl]; exact ⟨K4.out.put ((0, 0, 0, 0) : Int × Int × Int × Int) (k + 1) true⟩⟩
            case measure => simp [intOf]; omega
    · obtain rfl : k = W := by omega
      have hc6 := cz3 K1.out.a6
      have q3 : IntKind.i64.wrap (2 * w) = 2 * w := by rw [i64_w]; exact wsm _ (by omega) (by omega)
      have q4 : IntKind.i64.wrap (2 * w + dw) = 2 * w + dw := by rw [i64_w]; exact wsm _ (by omega) (by omega)
      go_wp2
      go_ret
      exact ⟨rfl, bel K1.out.below⟩
end Go.Proofs.Ytmjmdnpenpdmhaa.P
