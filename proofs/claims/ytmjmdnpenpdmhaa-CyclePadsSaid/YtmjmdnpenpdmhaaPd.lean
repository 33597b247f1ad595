/- A cycle has exactly so many ticks, and its panels fit: the law's own code, walked by hand. -/
import Derived.Test.YtmjmdnpenpdmhaaPe
namespace Go.Proofs.Ytmjmdnpenpdmhaa.P
open Go.RowKit Go.Proofs.YtmjmdnpenpdmhaaW.PrintWords Go.Proofs.YtmjmdnpenpdmhaaW.PrintLast Go.Proofs.YtmjmdnpenpdmhaaW.PrintMore
attribute [local go_sem] cell_same1 cell_some1
set_option linter.unusedVariables false
set_option linter.unusedSimpArgs false
set_option maxHeartbeats 40000000 in
set_option maxRecDepth 100000 in
theorem pads_walk (n : Int) (A1 : Option Addr) (c1 : Nat) (nums : List Int) (w0 : World) (hr1 : Kd.C (Kd.int .i64) w0 A1 nums.length nums) (hc1 : nums.length ≤ c1) :
    Calls Try.prog 5 #[.int .i64 n, .slice A1 nums.length c1] w0 fun e w' => e = .returned (.bool true) ∧ Below w0.heap.size w0 w' := by
  have HB := Aside0.mk (Below.refl w0.heap.size w0)
  obtain ⟨w, dw, rt, l, hm, hr, hl⟩ := made_ok n nums 0
  have hb := cwst_bound hr
  obtain ⟨W, hW⟩ : ∃ W : Nat, cwst w dw rt = W := ⟨(cwst w dw rt).toNat, by omega⟩
  have HM := Aside0.mk hm
  have HK := Aside0.mk (known_true 0)
  have HPN := Aside0.mk (Panels_ok hr l hl hW)
  have HBG := Aside0.mk (show cycle_Begin.f 9 w dw rt true = some (1, 0, 0, 0, 0, false, 0) from CBegin_ok hr true)
  have HRL := Aside0.mk hr
  have HW := Aside0.mk hW
  have HLL := Aside0.mk hl
  have HC1 := Aside0.mk hr1
  have e1 := wrap_worst hr
  rw [hW] at e1
  obtain ⟨pl, hpl⟩ : ∃ pl, pl = cpl w dw rt l 0 false W := ⟨_, rfl⟩
  have hpn : pl.length = W := by rw [hpl, cpl_len]
  rw [← hpl] at HPN
  have HPL := Aside0.mk hpl
  have HPE := Aside0.mk hpn
  have hW600 : W ≤ 600 := by omega
  have hW3 : 3 ≤ W := by omega
  have hwb : 1 ≤ w ∧ w ≤ 20 := ⟨hr.1, hr.2.1⟩
  have hdb : 1 ≤ dw ∧ dw ≤ 50 := ⟨hr.2.2.1, hr.2.2.2.1⟩
  have hrb : 0 ≤ rt ∧ rt ≤ 5 := ⟨hr.2.2.2.2.1, hr.2.2.2.2.2⟩
  rw [wsm (2 * w) (by omega) (by omega), wsm (2 * w + dw) (by omega) (by omega), wsm (2 * w - 1) (by omega) (by omega), wsm (2 * w - 1 + dw) (by omega) (by omega)] at e1
  have E1 := Aside0.mk e1
  clear hm hr hl hb hW hr1 e1 hpl hpn
  go_enter Try.func5, Try.ntmps5
  go_upto_region 4 with (first
    | (go_at_call 4; refine (q_CycleKnown.calls 40 true _ HK.out).mono ?_; rintro e w1 ⟨rfl, hb⟩; replace HC1 := Aside0.mk (Kd.C_below HC1.out (bst (Below.refl _ _) hb)); replace HB := Aside0.mk (bst HB.out hb); clear hb)
    | (go_at_call 23; refine (q_made.calls _ _ _ _ nums _ _ _ _ _ HC1.out hc1 HM.out).mono ?_; rintro e w2 ⟨v7, rfl, hR, hb⟩; replace HB := Aside0.mk (bst HB.out hb); obtain ⟨A7, c7, rfl⟩ := Kd.R_slice hR; have HR7 := Aside0.mk hR; clear hb hR HC1)
    | ((with_reducible refine gate_dst (N := 6) rfl ?_); refine bxe (cs := #[.int .i64 0, .int .i64 0, .int .i64 0]) (t := 23) ?_; intro g6 hg w3 hbox hb; have BK6 := Aside0.mk hbox; have GE6 := Aside0.mk (bge hg HB.out); have GF6 := Aside0.mk (bge hg (Below.refl _ _)); have B7 := Aside0.mk (bst (Below.refl _ _) hb); have C7 := Aside0.mk (Kd.R_reads' HR7.out).2.2; have HL7 := Aside0.mk (Kd.R_reads' HR7.out).2.1; clear HR7; replace HB := Aside0.mk (bst HB.out hb); clear hb hbox hg; have hcz6 := cz3 BK6.out; have hfz6 := blk_frozen BK6.out))
  rw [E1.out]
  go_upto_region 8 with (first
    | (go_at_call 11; (with_reducible refine (cycle_Panels.calls w dw rt A7 c7 l _ _ _ (Kd.C_below C7.out (bel B7.out)) HL7.out HPN.out).mono ?_); rintro e w4 ⟨v9, rfl, hR, hb⟩; replace HB := Aside0.mk (bst HB.out hb); replace B7 := Aside0.mk (bst B7.out hb); replace BK6 := Aside0.mk (show w4.heap[g6]? = some (.cells (rule3 w dw rt) 23) from blk_below (bkt BK6.out) hb); obtain ⟨A9, c9, rfl⟩ := Kd.R_slice hR; have HR9 := Aside0.mk (Kd.R_reads' hR).2.2; replace HR9 := Aside0.mk (show Kd.C (Kd.int .i64) w4 A9 W pl by have h := HR9.out; rw [HPE.out] at h; exact h); rw [HPE.out]; clear hb hR; have hcz6 := cz3 BK6.out)
    | (go_at_call 20; (with_reducible refine (cycle_Begin.calls 9 _ _ _ _ _ _ _ _ _ _ _ _ HBG.out).mono ?_); rintro e w5 ⟨rfl, hb⟩; replace HB := Aside0.mk (bst HB.out hb); replace B7 := Aside0.mk (bst B7.out hb); replace BK6 := Aside0.mk (bkb BK6.out hb); replace HR9 := Aside0.mk (Kd.C_below HR9.out hb); clear hb hcz6)
    | ((with_reducible refine gate_dst (N := 11) rfl ?_); refine bxe (cs := #[.int .i64 0, .int .i64 0, .int .i64 0, .int .i64 0, .int .i64 0, .bool false]) (t := 39) ?_; intro g11 hg w6 hbox hb; have BK11 := Aside0.mk hbox; have GE11 := Aside0.mk (bge hg HB.out); have GF11 := Aside0.mk (bge hg B7.out); have N6b := Aside0.mk (bkl hg BK6.out); have LT9 := Aside0.mk hg; have BB := Aside0.mk hb; replace BK6 := Aside0.mk (bkb BK6.out hb); replace HB := Aside0.mk (bst HB.out hb); replace B7 := Aside0.mk (bst B7.out hb); clear hb hbox hg; have hcz11 := cz6 BK11.out; have hfz11 := blk_frozen BK11.out))
  have GB11 := Aside0.mk (Nat.le_of_eq LT9.out.symm)
  obtain ⟨ad9, rfl, hc9⟩ := (Kd.reads_of_C (d := (0 : Int)) HR9.out).2.2 (by omega)
  refine wp_abs (PL w0 g6 g11 A7 ad9 w dw rt l pl ((1, 0, 0, 0) : Int × Int × Int × Int) 0 false) ⟨bel HB.out, bkt BK6.out, bkt BK11.out, GE11.out, N6b.out, fun j hj => by
      obtain ⟨ad, e, hc⟩ := (Kd.reads_of_C (d := false) C7.out).2.2 (by omega)
      refine ⟨ad, e, cellB (hc j hj) (bel B7.out), ?_⟩
      have h1 := World.block_lt_of_cell? _ _ (hc j hj)
      rw [ab] at h1
      exact Nat.ne_of_lt (Nat.lt_of_lt_of_le h1 GF11.out), fun j hj => cellB (hc9 j (by rw [← HPE.out]; exact hj)) (bel BB.out), by
      have h1 := World.block_lt_of_cell? _ _ (hc9 0 (by omega))
      rw [ab] at h1
      exact Nat.ne_of_lt (Nat.lt_of_lt_of_le h1 GB11.out)⟩ (fun WL hL => ?_)
  have HL := Aside0.mk hL
  clear hL BK6 BK11 HB B7 BB GB11 LT9 HR9 C7 HL7 hcz6 hcz11 hfz6 hfz11 hc9 GF11 GF6 GE6 GE11 N6b E1
  go_wp2
  go_loopw [13, 14] (fun v13 v14 wr => ∃ k : Nat, k ≤ W ∧ v13 = .int .i64 (cst w dw rt l 0 false k).2.1 ∧ v14 = .int .i64 k ∧ Aside0 (PL w0 g6 g11 A7 ad9 w dw rt l pl (cst w dw rt l 0 false k) k false wr)) (fun _ v14 _ => W - (intOf v14).toNat)
  case atStart => exact ⟨0, by omega, rfl, rfl, HL⟩
  case round =>
    obtain ⟨k, hk, rfl, rfl, K1⟩ := hrel
    clear HL
    by_cases hlt : k < W
    · have hkc : (k : Int) < cwst w dw rt := by rw [HW.out]; omega
      have hs := CStep_ok HRL.out l k hkc
      have hf := CLeft_ok HRL.out l k hkc
      have ht := tick_facts HRL.out l k hkc
      have hp : pl.getD k 0 = (cst w dw rt l 0 false (k + 1)).2.1 := by rw [HPL.out]; exact Panel_at l W k hlt
      rw [HW.out] at hf ht
      obtain ⟨q', hq'⟩ : ∃ q', q' = cst w dw rt l 0 false (k + 1) := ⟨_, rfl⟩
      rw [← hq'] at hs hf ht hp
      have HQ' := Aside0.mk hq'
      clear hq'
      obtain ⟨p', x', y', t'⟩ := q'
      obtain ⟨q, hq⟩ : ∃ q, q = cst w dw rt l 0 false k := ⟨_, rfl⟩
      rw [← hq] at hs ht K1 ⊢
      clear hq
      obtain ⟨p, x, y, t⟩ := q
      dsimp only at hs hf ht hp K1 ⊢
      obtain ⟨o, ho⟩ : ∃ o, o = dop p x w := ⟨_, rfl⟩
      rw [← ho] at hs ht
      obtain ⟨b, hb⟩ : ∃ b, b = rdOf false l (k : Int) := ⟨_, rfl⟩
      rw [← hb] at hs
      have HS := Aside0.mk hs
      have HF := Aside0.mk hf
      have HT := Aside0.mk ht
      have HP := Aside0.mk hp
      have HBB := Aside0.mk hb
      clear hs hf ht hp ho hb
      go_upto_region 12 with fail
      have LE1 := Aside0.mk (Nat.le_refl wr.heap.size)
      have B1 := Aside0.mk (Below.refl wr.heap.size wr)
      have NE6 := Aside0.mk (Nat.ne_of_lt (blk_lt K1.out.a6))
      have NE11 := Aside0.mk (Nat.ne_of_lt (blk_lt K1.out.a11))
      have hc11 := cz6 K1.out.a11
      have hc6 := cz3 K1.out.a6
      go_cut [15, 16, 17] from 75 to 91 (fun v15 v16 v17 wc => ∃ g15 : Nat, v15 = .pointer (some ⟨g15, 0, none⟩) ∧ v16 = .bool o ∧ v17 = .int .i64 0 ∧ Aside0 (PL w0 g6 g11 A7 ad9 w dw rt l pl (p, x, y, t) k false wc) ∧ Aside0 (wc.heap[g15]? = some (.cells (cyc6 (p', x', y', t') (k + 1) false) 39)) ∧ Aside0 (g15 ≠ g11))
      case first =>
        --BLK r12
        by_cases hkl : k < l.length
        --BLK r12a
        · as_aux_lemma =>
            obtain ⟨ad, rfl, hcb, hnb⟩ := K1.out.bs k hkl
            have eb : l.getD k false = b := by rw [HBB.out]; rfl
            rw [eb] at hcb
            have CB := Aside0.mk hcb
            have hkz : (k : Int) < (l.length : Int) := by omega
            clear hnb eb
            go_region_held3 (fun W => (W.cell? ⟨g11, 0, none⟩ = some (.int .i64 p) ∧ W.cell? ⟨g11, 1, none⟩ = some (.int .i64 x) ∧ W.cell? ⟨g11, 2, none⟩ = some (.int .i64 y) ∧ W.cell? ⟨g11, 3, none⟩ = some (.int .i64 t) ∧ W.cell? ⟨g11, 4, none⟩ = some (.int .i64 k) ∧ W.cell? ⟨g11, 5, none⟩ = some (.bool false)) ∧ (W.cell? ⟨g6, 0, none⟩ = some (.int .i64 w) ∧ W.cell? ⟨g6, 1, none⟩ = some (.int .i64 dw) ∧ W.cell? ⟨g6, 2, none⟩ = some (.int .i64 rt)) ∧ W.cell? (ad.add k) = some (.bool b)) ((first | exact keepP (K1.out.step (bel B1.out)) (cellB CB.out (bel B1.out)))) ((first
              | (go_at_call 18; (with_reducible refine (cycle_Step.calls 9 _ _ _ _ _ _ _ _ _ _ _ _ _ _ _ _ _ _ _ HS.out).mono ?_); rintro e w1 ⟨rfl, hb⟩; have B1 := Aside0.mk (bst B1.out hb); have LE2 := Aside0.mk (bsz B1.out); (try ((first | have hN := blk_below (blk_new _ _) hb | have hN := blk_below (blk_drew (blk_new _ _)) hb); have HN := Aside0.mk (show w1.heap[wr.heap.size]? = some (.cells (cyc6 (0, 0, 0, 0) 0 false) 39) from hN); clear hN; have hcn := cz6 HN.out; have hfn := blk_frozen HN.out)); clear hb)))
            · go_wp2
              go_meet
              exact ⟨_, rfl, rfl, rfl, ⟨K1.out.step (below_alloc B1.out _)⟩, ⟨blk_new _ _⟩, ⟨Nat.ne_of_gt (blk_lt (K1.out.step (bel B1.out)).a11)⟩⟩
            · go_wp2
              go_meet
              exact ⟨_, rfl, rfl, rfl, ⟨K1.out.step (bel B1.out)⟩, ⟨bkt HN.out⟩, ⟨Nat.ne_of_gt (blk_lt K1.out.a11)⟩⟩
        --KLB r12a
        · as_aux_lemma =>
            have eb : b = false := by rw [HBB.out]; exact rd_out l k (by omega)
            subst eb
            have hkz : (decide ((k : Int) < (l.length : Int))) = false := decide_eq_false (by omega)
            have hkz2 : ((k : Int) < (l.length : Int)) = False := eq_false (by omega)
            clear hkl
            have hD := keepQ (K1.out.step (below_drew1 (Below.refl wr.heap.size wr)))
            have B2 := Aside0.mk (show Below wr.heap.size wr wr.drew from below_drew1 (Below.refl wr.heap.size wr))
            refine wp_region_J (fun W => (W.cell? ⟨g11, 0, none⟩ = some (.int .i64 p) ∧ W.cell? ⟨g11, 1, none⟩ = some (.int .i64 x) ∧ W.cell? ⟨g11, 2, none⟩ = some (.int .i64 y) ∧ W.cell? ⟨g11, 3, none⟩ = some (.int .i64 t) ∧ W.cell? ⟨g11, 4, none⟩ = some (.int .i64 k) ∧ W.cell? ⟨g11, 5, none⟩ = some (.bool false)) ∧ (W.cell? ⟨g6, 0, none⟩ = some (.int .i64 w) ∧ W.cell? ⟨g6, 1, none⟩ = some (.int .i64 dw) ∧ W.cell? ⟨g6, 2, none⟩ = some (.int .i64 rt))) 99 (by kernel_rfl) hD (fun hS => ?_)
            clear hD hc11 hc6
            repeat ((first | refine tk 0 (some 76) ?_ | refine tk 1 (some 77) ?_ | refine tk0 2 (some 78) ?_ | refine tk0 3 (some 79) ?_ | refine tk0 4 (some 80) ?_ | refine tk0 5 (some 81) ?_ | refine tk0 6 (some 82) ?_ | refine tk0 7 (some 83) ?_ | refine tk1 7 (some 83) ?_ | refine tk0 8 (some 84) ?_ | refine tk1 8 (some 84) ?_ | refine tk0 9 (some 85) ?_ | refine tk1 9 (some 85) ?_ | refine tk 10 (some 86) ?_ | refine tk1 10 (some 86) ?_ | refine tk0 11 (some 87) ?_ | refine tk0 13 (some 75) ?_ | refine tk0 14 (some 89) ?_ | refine tk0 15 (some 90) ?_ | refine tk0 16 (some 91) ?_ | refine tk0 19 (some 16) ?_ | refine tk0 20 (some 17) ?_); simp only [Act.put, List.setIfInBounds_toArray, List.set_cons_zero, List.set_cons_succ])
            refine wpAnyJ_two (i := 12) (j := 17) (by decide +kernel) rfl rfl (fun K hK => ?_) (fun K hK => ?_)
            · go_simp
              go_at_call 18
              (with_reducible refine (cycle_Step.calls 9 _ _ _ _ _ _ _ _ _ _ _ _ _ _ _ _ _ _ _ HS.out).mono ?_)
              rintro e w1 ⟨rfl, hb⟩
              replace B2 := Aside0.mk (bst B2.out hb)
              have LE2 := Aside0.mk (bsz B2.out)
              clear hb
              refine hK.out _ _ (fun _ => keepQ (K1.out.step (bel B2.out))) (fun hS => ?_)
              have hS := hS (by decide +kernel)
              clear hK K
              try simp only [Act.put, List.setIfInBounds_toArray, List.set_cons_zero, List.set_cons_succ]
              repeat ((first | refine tk 0 (some 76) ?_ | refine tk 1 (some 77) ?_ | refine tk0 2 (some 78) ?_ | refine tk0 3 (some 79) ?_ | refine tk0 4 (some 80) ?_ | refine tk0 5 (some 81) ?_ | refine tk0 6 (some 82) ?_ | refine tk0 7 (some 83) ?_ | refine tk1 7 (some 83) ?_ | refine tk0 8 (some 84) ?_ | refine tk1 8 (some 84) ?_ | refine tk0 9 (some 85) ?_ | refine tk1 9 (some 85) ?_ | refine tk 10 (some 86) ?_ | refine tk1 10 (some 86) ?_ | refine tk0 11 (some 87) ?_ | refine tk0 13 (some 75) ?_ | refine tk0 14 (some 89) ?_ | refine tk0 15 (some 90) ?_ | refine tk0 16 (some 91) ?_ | refine tk0 19 (some 16) ?_ | refine tk0 20 (some 17) ?_); simp only [Act.put, List.setIfInBounds_toArray, List.set_cons_zero, List.set_cons_succ])
              have NB6 := Aside0.mk (Nat.ne_of_lt (blk_lt (K1.out.step (bel B2.out)).a6))
              have NB11 := Aside0.mk (Nat.ne_of_lt (blk_lt (K1.out.step (bel B2.out)).a11))
              refine wpAnyJ_one (i := 17) (by decide +kernel) rfl (fun K hK => ?_)
              go_simp
              refine hK.out _ _ (fun _ => keepQ (K1.out.step (bel B2.out))) (fun hS => ?_)
              have hS := hS (by decide +kernel)
              clear hK K
              try simp only [Act.put, List.setIfInBounds_toArray, List.set_cons_zero, List.set_cons_succ]
              have hN := blk_new w1 (.cells (cyc6 (0, 0, 0, 0) 0 false) 39)
              have HN := Aside0.mk hN
              have hcn := cz6 hN
              have hfn := blk_frozen hN
              clear hN
              refine wpAnyJ_one (i := 18) (by decide +kernel) rfl (fun K hK => ?_)
              go_simp
              refine hK.out _ _ (fun _ => keepQ (K1.out.step (bel B2.out))) (fun hS => ?_)
              have hS := hS (by decide +kernel)
              clear hK K
              try simp only [Act.put, List.setIfInBounds_toArray, List.set_cons_zero, List.set_cons_succ]
              repeat ((first | refine tk 0 (some 76) ?_ | refine tk 1 (some 77) ?_ | refine tk0 2 (some 78) ?_ | refine tk0 3 (some 79) ?_ | refine tk0 4 (some 80) ?_ | refine tk0 5 (some 81) ?_ | refine tk0 6 (some 82) ?_ | refine tk0 7 (some 83) ?_ | refine tk1 7 (some 83) ?_ | refine tk0 8 (some 84) ?_ | refine tk1 8 (some 84) ?_ | refine tk0 9 (some 85) ?_ | refine tk1 9 (some 85) ?_ | refine tk 10 (some 86) ?_ | refine tk1 10 (some 86) ?_ | refine tk0 11 (some 87) ?_ | refine tk0 13 (some 75) ?_ | refine tk0 14 (some 89) ?_ | refine tk0 15 (some 90) ?_ | refine tk0 16 (some 91) ?_ | refine tk0 19 (some 16) ?_ | refine tk0 20 (some 17) ?_); simp only [Act.put, List.setIfInBounds_toArray, List.set_cons_zero, List.set_cons_succ])
              refine wpAnyJ_done (by decide +kernel) ?_ _
              go_wp2
              go_meet
              exact ⟨_, rfl, rfl, rfl, ⟨K1.out.step (below_alloc B2.out _)⟩, ⟨blk_new _ _⟩, ⟨Ne.symm NB11.out⟩⟩
            · go_simp
              clear B2
              have B2 := Aside0.mk (Below.refl wr.heap.size wr)
              refine hK.out _ _ (fun _ => keepQ (K1.out.step (bel B2.out))) (fun hS => ?_)
              have hS := hS (by decide +kernel)
              clear hK K
              try simp only [Act.put, List.setIfInBounds_toArray, List.set_cons_zero, List.set_cons_succ]
              repeat ((first | refine tk 0 (some 76) ?_ | refine tk 1 (some 77) ?_ | refine tk0 2 (some 78) ?_ | refine tk0 3 (some 79) ?_ | refine tk0 4 (some 80) ?_ | refine tk0 5 (some 81) ?_ | refine tk0 6 (some 82) ?_ | refine tk0 7 (some 83) ?_ | refine tk1 7 (some 83) ?_ | refine tk0 8 (some 84) ?_ | refine tk1 8 (some 84) ?_ | refine tk0 9 (some 85) ?_ | refine tk1 9 (some 85) ?_ | refine tk 10 (some 86) ?_ | refine tk1 10 (some 86) ?_ | refine tk0 11 (some 87) ?_ | refine tk0 13 (some 75) ?_ | refine tk0 14 (some 89) ?_ | refine tk0 15 (some 90) ?_ | refine tk0 16 (some 91) ?_ | refine tk0 19 (some 16) ?_ | refine tk0 20 (some 17) ?_); simp only [Act.put, List.setIfInBounds_toArray, List.set_cons_zero, List.set_cons_succ])
              refine wpAnyJ_one (i := 12) (by decide +kernel) rfl (fun K hK => ?_)
              go_simp
              go_at_call 18
              (with_reducible refine (cycle_Step.calls 9 _ _ _ _ _ _ _ _ _ _ _ _ _ _ _ _ _ _ _ HS.out).mono ?_)
              rintro e w1 ⟨rfl, hb⟩
              replace B2 := Aside0.mk (bst B2.out hb)
              have HN := Aside0.mk (show w1.heap[wr.heap.size]? = some (.cells (cyc6 (0, 0, 0, 0) 0 false) 39) by first | exact blk_below (blk_new _ _) hb | exact blk_below (blk_drew (blk_new _ _)) hb)
              clear hb
              have hcn := cz6 HN.out
              have hfn := blk_frozen HN.out
              refine hK.out _ _ (fun _ => keepQ (K1.out.step (bel B2.out))) (fun hS => ?_)
              have hS := hS (by decide +kernel)
              clear hK K
              try simp only [Act.put, List.setIfInBounds_toArray, List.set_cons_zero, List.set_cons_succ]
              repeat ((first | refine tk 0 (some 76) ?_ | refine tk 1 (some 77) ?_ | refine tk0 2 (some 78) ?_ | refine tk0 3 (some 79) ?_ | refine tk0 4 (some 80) ?_ | refine tk0 5 (some 81) ?_ | refine tk0 6 (some 82) ?_ | refine tk0 7 (some 83) ?_ | refine tk1 7 (some 83) ?_ | refine tk0 8 (some 84) ?_ | refine tk1 8 (some 84) ?_ | refine tk0 9 (some 85) ?_ | refine tk1 9 (some 85) ?_ | refine tk 10 (some 86) ?_ | refine tk1 10 (some 86) ?_ | refine tk0 11 (some 87) ?_ | refine tk0 13 (some 75) ?_ | refine tk0 14 (some 89) ?_ | refine tk0 15 (some 90) ?_ | refine tk0 16 (some 91) ?_ | refine tk0 19 (some 16) ?_ | refine tk0 20 (some 17) ?_); simp only [Act.put, List.setIfInBounds_toArray, List.set_cons_zero, List.set_cons_succ])
              refine wpAnyJ_one (i := 18) (by decide +kernel) rfl (fun K hK => ?_)
              go_simp
              refine hK.out _ _ (fun _ => keepQ (K1.out.step (bel B2.out))) (fun hS => ?_)
              have hS := hS (by decide +kernel)
              clear hK K
              try simp only [Act.put, List.setIfInBounds_toArray, List.set_cons_zero, List.set_cons_succ]
              repeat ((first | refine tk 0 (some 76) ?_ | refine tk 1 (some 77) ?_ | refine tk0 2 (some 78) ?_ | refine tk0 3 (some 79) ?_ | refine tk0 4 (some 80) ?_ | refine tk0 5 (some 81) ?_ | refine tk0 6 (some 82) ?_ | refine tk0 7 (some 83) ?_ | refine tk1 7 (some 83) ?_ | refine tk0 8 (some 84) ?_ | refine tk1 8 (some 84) ?_ | refine tk0 9 (some 85) ?_ | refine tk1 9 (some 85) ?_ | refine tk 10 (some 86) ?_ | refine tk1 10 (some 86) ?_ | refine tk0 11 (some 87) ?_ | refine tk0 13 (some 75) ?_ | refine tk0 14 (some 89) ?_ | refine tk0 15 (some 90) ?_ | refine tk0 16 (some 91) ?_ | refine tk0 19 (some 16) ?_ | refine tk0 20 (some 17) ?_); simp only [Act.put, List.setIfInBounds_toArray, List.set_cons_zero, List.set_cons_succ])
              refine wpAnyJ_done (by decide +kernel) ?_ _
              go_wp2
              go_meet
              exact ⟨_, rfl, rfl, rfl, ⟨K1.out.step (bel B2.out)⟩, ⟨bkt HN.out⟩, ⟨Ne.symm NE11.out⟩⟩
        --KLB r12
      case rest =>
        obtain ⟨g15, rfl, rfl, rfl, K2, H15, N15⟩ := hcut
        clear K1 B1 LE1 NE6 NE11 hc11 hc6 HS HBB
        have hc6 := cz3 K2.out.a6
        have hc15 := cz6 H15.out
        go_upto_region 14 with (first
          | (go_at_call 24; (with_reducible refine (cycle_Left.calls 9 _ _ _ _ _ _ _ _ _ _ _ _ HF.out).mono ?_); rintro e w2 ⟨rfl, hb⟩; replace K2 := Aside0.mk (K2.out.step (bst (Below.refl _ _) hb)); replace H15 := Aside0.mk (bkb H15.out hb); clear hb hc6 hc15; have hc6 := cz3 K2.out.a6; have hc15 := cz6 H15.out))
        have hcp := K2.out.ps k (by rw [HPE.out]; exact hlt)
        rw [HP.out] at hcp
        obtain ⟨i1, i2, i3, i4, i5, i6, i7, i8⟩ := HT.out
        have w1 : IntKind.i64.wrap ((W : Int) - k) = W - k := by rw [i64_w]; exact wsm _ (by omega) (by omega)
        have w2_ : IntKind.i64.wrap ((W : Int) - k - 1) = W - k - 1 := by rw [i64_w]; exact wsm _ (by omega) (by omega)
        have w3_ : IntKind.i64.wrap (x + 1) = x + 1 := by rw [i64_w]; exact wsm _ (by omega) (by omega)
        have w4_ : IntKind.i64.wrap (x - 1) = x - 1 := by rw [i64_w]; exact wsm _ (by omega) (by omega)
        have hcp' : w2.drew.cell? (ad9.add k) = some (.int .i64 x') := hcp
        clear hcp'
        have j1 : ¬ x' < 0 := by omega
        have j2 : ¬ (W : Int) - k - 1 < x' := by omega
        have j3 : ¬ w < x' := by omega
        have j4 : ¬ x + 1 < x' := by omega
        have j5 : ¬ x' < x - 1 := by omega
        have J := Aside0.mk i8
        clear i1 i2 i3 i4 i5 i6 i7 i8
        go_cut [183] from 98 to 182 (fun v183 wc => v183 = .bool false ∧ Aside0 (PL w0 g6 g11 A7 ad9 w dw rt l pl (p, x, y, t) k false wc) ∧ Aside0 (wc.heap[g15]? = some (.cells (cyc6 (p', x', y', t') (k + 1) false) 39)))
        case first =>
          simp only [List.append_eq, List.cons_append, List.nil_append]
          --BLK r14
          as_aux_lemma =>
            refine wp_region_quiet_lit (by kernel_rfl) (by kernel_rfl) ?_
            iterate 14 (go_big_quiet_step (fail))
            as_aux_lemma =>
              iterate 14 (go_big_quiet_step (fail))
              as_aux_lemma =>
                iterate 14 (go_big_quiet_step (fail))
                as_aux_lemma =>
                  iterate 14 (go_big_quiet_step (fail))
                  as_aux_lemma =>
                    iterate 14 (go_big_quiet_step (fail))
                    as_aux_lemma =>
                      repeat (go_big_quiet_step (fail))
                      by_cases d1 : x' = w
                      · have e1 : (x' == w) = true := by rw [d1]; exact beq_self_eq_true w
                        simp only [e1]
                        by_cases d2 : x < w
                        · have i9 : o = true := by rw [J.out, decide_eq_true d1, decide_eq_true d2]; rfl
                          subst i9
                          clear d1 e1
                          repeat (go_big_quiet_step (fail))
                          refine wpQuiet_nil ?_
                          rintro _ ⟨nq, rfl⟩
                          go_wp2
                          go_meet
                          exact ⟨rfl, ⟨K2.out.step (bel (Below.refl _ _))⟩, ⟨bkt H15.out⟩⟩
                        · have i9 : o = false := by rw [J.out, decide_eq_true d1, decide_eq_false d2]; rfl
                          subst i9
                          clear d1 e1
                          repeat (go_big_quiet_step (fail))
                          refine wpQuiet_nil ?_
                          rintro _ ⟨nq, rfl⟩
                          go_wp2
                          go_meet
                          exact ⟨rfl, ⟨K2.out.step (bel (Below.refl _ _))⟩, ⟨bkt H15.out⟩⟩
                      · have e1 : (x' == w) = false := beq_eq_false_iff_ne.2 d1
                        simp only [e1]
                        have i9 : o = false := by rw [J.out, decide_eq_false d1]; rfl
                        subst i9
                        clear d1 e1
                        repeat (go_big_quiet_step (fail))
                        refine wpQuiet_nil ?_
                        rintro _ ⟨nq, rfl⟩
                        go_wp2
                        go_meet
                        exact ⟨rfl, ⟨K2.out.step (bel (Below.refl _ _))⟩, ⟨bkt H15.out⟩⟩
          --KLB r14
        case rest =>
          obtain ⟨rfl, K3, H16⟩ := hcut
          clear K2 H15 hc6 hc15 hcp w1 w2_ w3_ w4_ j1 j2 j3 j4 j5
          go_upto_region 16 with (fail)
          have hc11 := cz6 K3.out.a11
          have K4 := Aside0.mk (K3.out.step (show Below wc.heap.size wc wc.drew from below_drew1 (Below.refl _ _)))
          have H17 := Aside0.mk (blk_drew H16.out)
          have HK4 : Aside0 (k < pl.length) := ⟨by rw [HPE.out]; exact hlt⟩
          have hf11 := blk_frozen K3.out.a11
          go_region_held3 (fun W => (W.cell? ⟨g15, 0, none⟩ = some (.int .i64 p') ∧ W.cell? ⟨g15, 1, none⟩ = some (.int .i64 x') ∧ W.cell? ⟨g15, 2, none⟩ = some (.int .i64 y') ∧ W.cell? ⟨g15, 3, none⟩ = some (.int .i64 t') ∧ W.cell? ⟨g15, 4, none⟩ = some (.int .i64 (k + 1)) ∧ W.cell? ⟨g15, 5, none⟩ = some (.bool false)) ∧ W.cell? (ad9.add k) = some (.int .i64 x')) ((first | with_reducible exact keepS K4.out H17.out HP.out HK4.out | with_reducible exact keepR K3.out H16.out N15.out HP.out HK4.out)) (fail)
          have K5 := Aside0.mk (dput K3.out p' x' y' t' (k + 1) false)
          generalize ((((((wc.setCell ⟨g11, 0, none⟩ (.int .i64 p')).setCell ⟨g11, 1, none⟩ (.int .i64 x')).setCell ⟨g11, 2, none⟩ (.int .i64 y')).setCell ⟨g11, 3, none⟩ (.int .i64 t')).setCell ⟨g11, 4, none⟩ (.int .i64 (k + 1))).setCell ⟨g11, 5, none⟩ (.bool false)).drew = W5 at K5 ⊢
          clear K3 H16 H17 K4 hc11 hf11
          go_wp2
          go_roundw
          case rel => exact ⟨k + 1, by omega, by rw [← HQ'.out], by go_num, by rw [← HQ'.out]; exact K5⟩
          case measure => simp [intOf]; omega
    · obtain rfl : k = W := by omega
      have hs := Step_over HRL.out l k HW.out
      have hz := last_panel HRL.out l k HW.out
      obtain ⟨q, hq⟩ : ∃ q, q = cst w dw rt l 0 false k := ⟨_, rfl⟩
      rw [← hq] at hs hz K1 ⊢
      clear hq
      obtain ⟨p, x, y, t⟩ := q
      dsimp only at hs hz K1 ⊢
      subst hz
      have HS := Aside0.mk hs
      clear hs
      have hc11 := cz6 K1.out.a11
      have hc6 := cz3 K1.out.a6
      have B1 := Aside0.mk (Below.refl wr.heap.size wr)
      go_upto_region 18 with (first
        | (go_at_call 18; (with_reducible refine (cycle_Step.calls 9 _ _ _ _ _ _ _ _ _ _ _ _ _ _ _ _ _ _ _ HS.out).mono ?_); rintro e x1 ⟨rfl, hb⟩; replace B1 := Aside0.mk (bst B1.out hb); clear hb)
        | ((with_reducible refine gate_dst (N := 20) rfl ?_); refine bxe (cs := #[.int .i64 0, .int .i64 0, .int .i64 0, .int .i64 0, .int .i64 0, .bool false]) (t := 39) ?_; intro g20 hg x2 hbox hb; have BK20 := Aside0.mk hbox; have GE20 := Aside0.mk (bge hg B1.out); replace B1 := Aside0.mk (bst B1.out hb); clear hb hbox hg; have hcz20 := cz6 BK20.out; have hfz20 := blk_frozen BK20.out))
      go_wp2
      go_ret
      exact ⟨rfl, below_step K1.out.below (bel B1.out)⟩
end Go.Proofs.Ytmjmdnpenpdmhaa.P
