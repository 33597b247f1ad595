/- Package sensor: which of three readings differs: what it answers, and that the Go code comes to just this. -/
import Derived.Test.YtlkphdcfgaolnaaVd
import Derived.Test.YtlkphdcfgaolnaaE23
namespace Go.Proofs.Ytlkphdcfgaolnaa.P
open Go.RowKit Go.Proofs.YtlkphdcfgaolnaaW.PrintWords Go.Proofs.YtlkphdcfgaolnaaW.PrintLast Go.Proofs.YtlkphdcfgaolnaaW.PrintMore
attribute [local go_sem] cell_same1 cell_some1
set_option linter.unusedVariables false
set_option linter.unusedSimpArgs false

theorem eqR (x y : R3) (d : Nat) (w : World) : (Op.equalIn (d + 2) 23 (.agg #[.bool x.1, .int .i64 x.2.1, .int .i64 x.2.2]) (.agg #[.bool y.1, .int .i64 y.2.1, .int .i64 y.2.2])).run Try.prog w = .ok (decide (x = y)) w := by
  rw [eqA23]
  obtain ⟨a, b, c⟩ := x
  obtain ⟨e, f, g⟩ := y
  congr 1
  rw [Bool.eq_iff_iff]
  simp [Prod.mk.injEq]
/-- Which of three valid readings differs. -/
def oddv (p q bc ab ac ba ca : Bool) : Int := if (q && bc && !ab) = true then 1 else if (p && ac && !ba) = true then 2 else if (p && ab && !ca) = true then 3 else 0
def sensor_Odd.f (a0_0 : Bool) (a0_1 : Int) (a0_2 : Int) (a1_0 : Bool) (a1_1 : Int) (a1_2 : Int) (a2_0 : Bool) (a2_1 : Int) (a2_2 : Int) : Option (Int × Int) :=
  if vchk (a0_0, a0_1, a0_2) (a1_0, a1_1, a1_2) (a2_0, a2_1, a2_2) = 0 then
    some (oddv a0_0 a1_0 (decide (((a1_0, a1_1, a1_2) : R3) = (a2_0, a2_1, a2_2))) (decide (((a0_0, a0_1, a0_2) : R3) = (a1_0, a1_1, a1_2))) (decide (((a0_0, a0_1, a0_2) : R3) = (a2_0, a2_1, a2_2))) (decide (((a1_0, a1_1, a1_2) : R3) = (a0_0, a0_1, a0_2))) (decide (((a2_0, a2_1, a2_2) : R3) = (a0_0, a0_1, a0_2))), 0)
  else some (0, vchk (a0_0, a0_1, a0_2) (a1_0, a1_1, a1_2) (a2_0, a2_1, a2_2))

set_option maxHeartbeats 8000000 in
set_option maxRecDepth 100000 in
theorem sensor_Odd.calls (a0_0 : Bool) (a0_1 : Int) (a0_2 : Int) (a1_0 : Bool) (a1_1 : Int) (a1_2 : Int) (a2_0 : Bool) (a2_1 : Int) (a2_2 : Int) (r1 : Int) (r2 : Int) (w : World) (h : sensor_Odd.f a0_0 a0_1 a0_2 a1_0 a1_1 a1_2 a2_0 a2_1 a2_2 = some (r1, r2)) :
    Calls Try.prog 19 #[.agg #[.bool a0_0, .int .i64 a0_1, .int .i64 a0_2], .agg #[.bool a1_0, .int .i64 a1_1, .int .i64 a1_2], .agg #[.bool a2_0, .int .i64 a2_1, .int .i64 a2_2]] w fun e w' => e = .returned (.tuple #[.int .i64 r1, .int .i64 r2]) ∧ Below w.heap.size w w' := by
  have hu := Try.underlying23
  have HB := Aside0.mk (Below.refl w.heap.size w)
  unfold sensor_Odd.f at h
  have HCH := Aside0.mk (sensor_checked_eq 0 (a0_0, a0_1, a0_2) (a1_0, a1_1, a1_2) (a2_0, a2_1, a2_2))
  obtain ⟨ys, hys⟩ : ∃ ys : List S23, ys = [s3 (a0_0, a0_1, a0_2), s3 (a1_0, a1_1, a1_2), s3 (a2_0, a2_1, a2_2)] := ⟨_, rfl⟩
  rw [← hys] at HCH
  have Ny := Aside0.mk hys
  clear hys
  generalize hc : vchk (a0_0, a0_1, a0_2) (a1_0, a1_1, a1_2) (a2_0, a2_1, a2_2) = c at h HCH
  clear hc
  by_cases c0 : c = 0
  · rw [if_pos c0] at h
    subst c0
    go_enter Try.func19, Try.ntmps19
    go_upto_region 4 with (first
      | ((with_reducible refine gate_dst (N := 3) rfl ?_); refine bxe (cs := #[.bool a0_0, .int .i64 a0_1, .int .i64 a0_2]) (t := 23) ?_; intro g3 hg w1 hbox hb; have BK3 := Aside0.mk hbox; have GE3 := Aside0.mk (bge hg HB.out); replace HB := Aside0.mk (bst HB.out hb); clear hb hbox hg)
      | ((with_reducible refine gate_dst (N := 4) rfl ?_); refine bxe (cs := #[.bool a1_0, .int .i64 a1_1, .int .i64 a1_2]) (t := 23) ?_; intro g4 hg w2 hbox hb; have BK4 := Aside0.mk hbox; have GE4 := Aside0.mk (bge hg HB.out); replace BK3 := Aside0.mk (bkb BK3.out hb); replace HB := Aside0.mk (bst HB.out hb); clear hb hbox hg)
      | ((with_reducible refine gate_dst (N := 5) rfl ?_); refine bxe (cs := #[.bool a2_0, .int .i64 a2_1, .int .i64 a2_2]) (t := 23) ?_; intro g5 hg w3 hbox hb; have BK5 := Aside0.mk hbox; have GE5 := Aside0.mk (bge hg HB.out); replace BK3 := Aside0.mk (bkb BK3.out hb); replace BK4 := Aside0.mk (bkb BK4.out hb); replace HB := Aside0.mk (bst HB.out hb); clear hb hbox hg; have hcz3 := cz3 BK3.out; have hcz4 := cz3 BK4.out; have hcz5 := cz3 BK5.out; have hfz3 := blk_frozen BK3.out; have hfz4 := blk_frozen BK4.out; have hfz5 := blk_frozen BK5.out)
      | ((with_reducible refine gate_dst (N := 12) rfl ?_); refine Kd.R_lit k23 _ 23 ?hg (N := 12) ?hd (xs := [s3 (a0_0, a0_1, a0_2), s3 (a1_0, a1_1, a1_2), s3 (a2_0, a2_1, a2_2)]) (inner := [.bool a0_0, .int .i64 a0_1, .int .i64 a0_2, .bool a1_0, .int .i64 a1_1, .int .i64 a1_2, .bool a2_0, .int .i64 a2_1, .int .i64 a2_2]) (ok := fun _ => True) (okp := fun _ => True) ?hr ?hp (fun _ hk => hk) trivial (Below.refl _ _) (Nat.le_refl _) (by simp) ?_; (case hd => rfl); (case hg => rfl); (case hr => first | (go_simp; done) | (go_simp; rfl)); (case hp => exact (Reps.c3 (show Kd.M k23 _ _ _ (s3 (a0_0, a0_1, a0_2)) [.bool a0_0, .int .i64 a0_1, .int .i64 a0_2] from (k23_mkM _ _ _ (s3 (a0_0, a0_1, a0_2)))) (Reps.c3 (show Kd.M k23 _ _ _ (s3 (a1_0, a1_1, a1_2)) [.bool a1_0, .int .i64 a1_1, .int .i64 a1_2] from (k23_mkM _ _ _ (s3 (a1_0, a1_1, a1_2)))) (Reps.c3 (show Kd.M k23 _ _ _ (s3 (a2_0, a2_1, a2_2)) [.bool a2_0, .int .i64 a2_1, .int .i64 a2_2] from (k23_mkM _ _ _ (s3 (a2_0, a2_1, a2_2)))) (Reps.none _ _))))); intro vs w5 ho hb hg_ hnew_; clear hg_ hnew_; rw [← Ny.out] at ho; obtain ⟨As, cs, es⟩ := Kd.R_slice ho; subst es; have HCs := Aside0.mk (Kd.R_reads' ho).2.2; have HLs := Aside0.mk (Kd.R_reads' ho).2.1; replace BK3 := Aside0.mk (bkb BK3.out hb); replace BK4 := Aside0.mk (bkb BK4.out hb); replace BK5 := Aside0.mk (bkb BK5.out hb); replace HB := Aside0.mk (bst HB.out hb); clear hb ho)
      | (go_at_call 43; refine (sensor_checked.calls (0 + 9) _ _ ys _ _ HCs.out HLs.out HCH.out).mono ?_; rintro e w6 ⟨rfl, hb⟩; replace BK3 := Aside0.mk (bkb BK3.out hb); replace BK4 := Aside0.mk (bkb BK4.out hb); replace BK5 := Aside0.mk (bkb BK5.out hb); replace HB := Aside0.mk (bst HB.out hb); clear HCs HLs; have hcz3 := cz3 BK3.out; have hcz4 := cz3 BK4.out; have hcz5 := cz3 BK5.out; have hfz3 := blk_frozen BK3.out; have hfz4 := blk_frozen BK4.out; have hfz5 := blk_frozen BK5.out))
    have ebc := eqR (a1_0, a1_1, a1_2) (a2_0, a2_1, a2_2)
    have eab := eqR (a0_0, a0_1, a0_2) (a1_0, a1_1, a1_2)
    have eac := eqR (a0_0, a0_1, a0_2) (a2_0, a2_1, a2_2)
    have eba := eqR (a1_0, a1_1, a1_2) (a0_0, a0_1, a0_2)
    have eca := eqR (a2_0, a2_1, a2_2) (a0_0, a0_1, a0_2)
    dsimp only at ebc eab eac eba eca
    generalize decide (((a1_0, a1_1, a1_2) : R3) = (a2_0, a2_1, a2_2)) = bc at h ebc
    generalize decide (((a0_0, a0_1, a0_2) : R3) = (a1_0, a1_1, a1_2)) = ab at h eab
    generalize decide (((a0_0, a0_1, a0_2) : R3) = (a2_0, a2_1, a2_2)) = ac at h eac
    generalize decide (((a1_0, a1_1, a1_2) : R3) = (a0_0, a0_1, a0_2)) = ba at h eba
    generalize decide (((a2_0, a2_1, a2_2) : R3) = (a0_0, a0_1, a0_2)) = ca at h eca
    cases ab with
    | false =>
      rcases (show a1_0 = false ∨ (a1_0 = true ∧ bc = false) ∨ (a1_0 = true ∧ bc = true) by cases a1_0 <;> cases bc <;> simp) with rfl | ⟨rfl, rfl⟩ | ⟨rfl, rfl⟩
      ·
        rcases (show a0_0 = false ∨ (a0_0 = true ∧ ac = false) ∨ (a0_0 = true ∧ ac = true ∧ ba = true) ∨ (a0_0 = true ∧ ac = true ∧ ba = false) by cases a0_0 <;> cases ac <;> cases ba <;> simp) with rfl | ⟨rfl, rfl⟩ | ⟨rfl, rfl, rfl⟩ | ⟨rfl, rfl, rfl⟩
        all_goals
          simp [oddv] at h
          obtain ⟨rfl, rfl⟩ := h
          go_wp2
          go_ret2
          exact ⟨rfl, bel HB.out⟩
      ·
        rcases (show a0_0 = false ∨ (a0_0 = true ∧ ac = false) ∨ (a0_0 = true ∧ ac = true ∧ ba = true) ∨ (a0_0 = true ∧ ac = true ∧ ba = false) by cases a0_0 <;> cases ac <;> cases ba <;> simp) with rfl | ⟨rfl, rfl⟩ | ⟨rfl, rfl, rfl⟩ | ⟨rfl, rfl, rfl⟩
        all_goals
          simp [oddv] at h
          obtain ⟨rfl, rfl⟩ := h
          go_wp2
          go_ret2
          exact ⟨rfl, bel HB.out⟩
      ·
        simp [oddv] at h
        obtain ⟨rfl, rfl⟩ := h
        go_wp2
        go_ret2
        exact ⟨rfl, bel HB.out⟩
    | true =>
      rcases (show a1_0 = false ∨ (a1_0 = true ∧ bc = false) ∨ (a1_0 = true ∧ bc = true) by cases a1_0 <;> cases bc <;> simp) with rfl | ⟨rfl, rfl⟩ | ⟨rfl, rfl⟩
      ·
        cases ca
        all_goals
          rcases (show a0_0 = false ∨ (a0_0 = true ∧ ac = false) ∨ (a0_0 = true ∧ ac = true ∧ ba = true) ∨ (a0_0 = true ∧ ac = true ∧ ba = false) by cases a0_0 <;> cases ac <;> cases ba <;> simp) with rfl | ⟨rfl, rfl⟩ | ⟨rfl, rfl, rfl⟩ | ⟨rfl, rfl, rfl⟩
          all_goals
            simp [oddv] at h
            obtain ⟨rfl, rfl⟩ := h
            go_wp2
            go_ret2
            exact ⟨rfl, bel HB.out⟩
      ·
        cases ca
        all_goals
          rcases (show a0_0 = false ∨ (a0_0 = true ∧ ac = false) ∨ (a0_0 = true ∧ ac = true ∧ ba = true) ∨ (a0_0 = true ∧ ac = true ∧ ba = false) by cases a0_0 <;> cases ac <;> cases ba <;> simp) with rfl | ⟨rfl, rfl⟩ | ⟨rfl, rfl, rfl⟩ | ⟨rfl, rfl, rfl⟩
          all_goals
            simp [oddv] at h
            obtain ⟨rfl, rfl⟩ := h
            go_wp2
            go_ret2
            exact ⟨rfl, bel HB.out⟩
      ·
        cases ca
        all_goals
          rcases (show a0_0 = false ∨ (a0_0 = true ∧ ac = false) ∨ (a0_0 = true ∧ ac = true ∧ ba = true) ∨ (a0_0 = true ∧ ac = true ∧ ba = false) by cases a0_0 <;> cases ac <;> cases ba <;> simp) with rfl | ⟨rfl, rfl⟩ | ⟨rfl, rfl, rfl⟩ | ⟨rfl, rfl, rfl⟩
          all_goals
            simp [oddv] at h
            obtain ⟨rfl, rfl⟩ := h
            go_wp2
            go_ret2
            exact ⟨rfl, bel HB.out⟩
  · rw [if_neg c0] at h
    simp only [Option.some.injEq, Prod.mk.injEq] at h
    obtain ⟨rfl, rfl⟩ := h
    have cb : (c == 0) = false := beq_eq_false_iff_ne.mpr c0
    have cb1 : (c != 0) = true := bne_iff_ne.mpr c0
    go_enter Try.func19, Try.ntmps19
    go_wp2_with (first
      | ((with_reducible refine gate_dst (N := 3) rfl ?_); refine bxe (cs := #[.bool a0_0, .int .i64 a0_1, .int .i64 a0_2]) (t := 23) ?_; intro g3 hg w1 hbox hb; have BK3 := Aside0.mk hbox; have GE3 := Aside0.mk (bge hg HB.out); replace HB := Aside0.mk (bst HB.out hb); clear hb hbox hg)
      | ((with_reducible refine gate_dst (N := 4) rfl ?_); refine bxe (cs := #[.bool a1_0, .int .i64 a1_1, .int .i64 a1_2]) (t := 23) ?_; intro g4 hg w2 hbox hb; have BK4 := Aside0.mk hbox; have GE4 := Aside0.mk (bge hg HB.out); replace BK3 := Aside0.mk (bkb BK3.out hb); replace HB := Aside0.mk (bst HB.out hb); clear hb hbox hg)
      | ((with_reducible refine gate_dst (N := 5) rfl ?_); refine bxe (cs := #[.bool a2_0, .int .i64 a2_1, .int .i64 a2_2]) (t := 23) ?_; intro g5 hg w3 hbox hb; have BK5 := Aside0.mk hbox; have GE5 := Aside0.mk (bge hg HB.out); replace BK3 := Aside0.mk (bkb BK3.out hb); replace BK4 := Aside0.mk (bkb BK4.out hb); replace HB := Aside0.mk (bst HB.out hb); clear hb hbox hg; have hcz3 := cz3 BK3.out; have hcz4 := cz3 BK4.out; have hcz5 := cz3 BK5.out; have hfz3 := blk_frozen BK3.out; have hfz4 := blk_frozen BK4.out; have hfz5 := blk_frozen BK5.out)
      | ((with_reducible refine gate_dst (N := 12) rfl ?_); refine Kd.R_lit k23 _ 23 ?hg (N := 12) ?hd (xs := [s3 (a0_0, a0_1, a0_2), s3 (a1_0, a1_1, a1_2), s3 (a2_0, a2_1, a2_2)]) (inner := [.bool a0_0, .int .i64 a0_1, .int .i64 a0_2, .bool a1_0, .int .i64 a1_1, .int .i64 a1_2, .bool a2_0, .int .i64 a2_1, .int .i64 a2_2]) (ok := fun _ => True) (okp := fun _ => True) ?hr ?hp (fun _ hk => hk) trivial (Below.refl _ _) (Nat.le_refl _) (by simp) ?_; (case hd => rfl); (case hg => rfl); (case hr => first | (go_simp; done) | (go_simp; rfl)); (case hp => exact (Reps.c3 (show Kd.M k23 _ _ _ (s3 (a0_0, a0_1, a0_2)) [.bool a0_0, .int .i64 a0_1, .int .i64 a0_2] from (k23_mkM _ _ _ (s3 (a0_0, a0_1, a0_2)))) (Reps.c3 (show Kd.M k23 _ _ _ (s3 (a1_0, a1_1, a1_2)) [.bool a1_0, .int .i64 a1_1, .int .i64 a1_2] from (k23_mkM _ _ _ (s3 (a1_0, a1_1, a1_2)))) (Reps.c3 (show Kd.M k23 _ _ _ (s3 (a2_0, a2_1, a2_2)) [.bool a2_0, .int .i64 a2_1, .int .i64 a2_2] from (k23_mkM _ _ _ (s3 (a2_0, a2_1, a2_2)))) (Reps.none _ _))))); intro vs w5 ho hb hg_ hnew_; clear hg_ hnew_; rw [← Ny.out] at ho; obtain ⟨As, cs, es⟩ := Kd.R_slice ho; subst es; have HCs := Aside0.mk (Kd.R_reads' ho).2.2; have HLs := Aside0.mk (Kd.R_reads' ho).2.1; replace BK3 := Aside0.mk (bkb BK3.out hb); replace BK4 := Aside0.mk (bkb BK4.out hb); replace BK5 := Aside0.mk (bkb BK5.out hb); replace HB := Aside0.mk (bst HB.out hb); clear hb ho)
      | (go_at_call 43; refine (sensor_checked.calls (0 + 9) _ _ ys _ _ HCs.out HLs.out HCH.out).mono ?_; rintro e w6 ⟨rfl, hb⟩; replace BK3 := Aside0.mk (bkb BK3.out hb); replace BK4 := Aside0.mk (bkb BK4.out hb); replace BK5 := Aside0.mk (bkb BK5.out hb); replace HB := Aside0.mk (bst HB.out hb); clear HCs HLs; have hcz3 := cz3 BK3.out; have hcz4 := cz3 BK4.out; have hcz5 := cz3 BK5.out; have hfz3 := blk_frozen BK3.out; have hfz4 := blk_frozen BK4.out; have hfz5 := blk_frozen BK5.out))
    go_ret2
    exact ⟨rfl, bel HB.out⟩
end Go.Proofs.Ytlkphdcfgaolnaa.P
