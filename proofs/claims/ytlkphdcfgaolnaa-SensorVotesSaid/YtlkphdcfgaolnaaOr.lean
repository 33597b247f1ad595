/- The reference: which of three readings differs, and what they agree on. -/
import Derived.Test.YtlkphdcfgaolnaaOa
import Derived.Test.YtlkphdcfgaolnaaP0tipstaffref12a
import Derived.Test.YtlkphdcfgaolnaaE23
namespace Go.Proofs.Ytlkphdcfgaolnaa.P
open Go.RowKit Go.Proofs.YtlkphdcfgaolnaaW.PrintWords Go.Proofs.YtlkphdcfgaolnaaW.PrintLast Go.Proofs.YtlkphdcfgaolnaaW.PrintMore
attribute [local go_sem] cell_same1 cell_some1
set_option linter.unusedVariables false
set_option linter.unusedSimpArgs false

theorem ref_Check_eq (k : Nat) (o : Bool) (f z : Int) : ref_Check.f (k + 2) o f z = some (vck (o, f, z)) := by
  have hj : ∀ b, ref_Check.j0 (k + 2) b o f z = some (if b = true then 2 else if o = false ∧ ¬ (f = -1 ∧ z = 0) then 3 else 0) := fun b => by
    rw [ref_Check.j0]
    cases b
    · cases o
      · by_cases c1 : f = -1 <;> by_cases c2 : z = 0 <;> simp [ref_failed.f, c1, c2]
      · simp
    · simp
  unfold ref_Check.f vck
  dsimp only
  rw [hj, hj]
  repeat' split
  all_goals first | rfl | (exfalso; omega) | (congr 1; simp_all; done) | (simp_all; omega) | simp_all
theorem ref_three_eq (k : Nat) (a b c : R3) : ref_three.f (k + 2) a.1 a.2.1 a.2.2 b.1 b.2.1 b.2.2 c.1 c.2.1 c.2.2 = some (vchk a b c) := by
  unfold ref_three.f vchk
  rw [ref_Check_eq, ref_Check_eq, ref_Check_eq, Option.bind_some]
  by_cases ca : vck a = 0
  · rw [if_pos ca, if_neg (fun q => q ca), Option.bind_some]
    by_cases cb : vck b = 0
    · rw [if_pos cb, if_neg (fun q => q cb), Option.bind_some]
    · rw [if_neg cb, if_pos cb]
  · rw [if_neg ca, if_pos ca]
def ref_Odd.f (a0_0 : Bool) (a0_1 : Int) (a0_2 : Int) (a1_0 : Bool) (a1_1 : Int) (a1_2 : Int) (a2_0 : Bool) (a2_1 : Int) (a2_2 : Int) : Option (Int × Int) :=
  if vchk (a0_0, a0_1, a0_2) (a1_0, a1_1, a1_2) (a2_0, a2_1, a2_2) = 0 then
    some (oddv a0_0 a1_0 (decide (((a1_0, a1_1, a1_2) : R3) = (a2_0, a2_1, a2_2))) (decide (((a0_0, a0_1, a0_2) : R3) = (a1_0, a1_1, a1_2))) (decide (((a0_0, a0_1, a0_2) : R3) = (a2_0, a2_1, a2_2))) (decide (((a1_0, a1_1, a1_2) : R3) = (a0_0, a0_1, a0_2))) (decide (((a2_0, a2_1, a2_2) : R3) = (a0_0, a0_1, a0_2))), 0)
  else some (0, vchk (a0_0, a0_1, a0_2) (a1_0, a1_1, a1_2) (a2_0, a2_1, a2_2))

set_option maxHeartbeats 8000000 in
set_option maxRecDepth 100000 in
theorem ref_Odd.calls (a0_0 : Bool) (a0_1 : Int) (a0_2 : Int) (a1_0 : Bool) (a1_1 : Int) (a1_2 : Int) (a2_0 : Bool) (a2_1 : Int) (a2_2 : Int) (r1 : Int) (r2 : Int) (w : World) (h : ref_Odd.f a0_0 a0_1 a0_2 a1_0 a1_1 a1_2 a2_0 a2_1 a2_2 = some (r1, r2)) :
    Calls Try.prog 20 #[.agg #[.bool a0_0, .int .i64 a0_1, .int .i64 a0_2], .agg #[.bool a1_0, .int .i64 a1_1, .int .i64 a1_2], .agg #[.bool a2_0, .int .i64 a2_1, .int .i64 a2_2]] w fun e w' => e = .returned (.tuple #[.int .i64 r1, .int .i64 r2]) ∧ Below w.heap.size w w' := by
  have hu := Try.underlying23
  have HB := Aside0.mk (Below.refl w.heap.size w)
  unfold ref_Odd.f at h
  have HCH := Aside0.mk (ref_three_eq 0 (a0_0, a0_1, a0_2) (a1_0, a1_1, a1_2) (a2_0, a2_1, a2_2))
  dsimp only at HCH
  generalize hc : vchk (a0_0, a0_1, a0_2) (a1_0, a1_1, a1_2) (a2_0, a2_1, a2_2) = c at h HCH
  clear hc
  by_cases c0 : c = 0
  · rw [if_pos c0] at h
    subst c0
    go_enter Try.func20, Try.ntmps20
    go_upto_region 4 with (first
      | ((with_reducible refine gate_dst (N := 3) rfl ?_); refine bxe (cs := #[.bool a0_0, .int .i64 a0_1, .int .i64 a0_2]) (t := 23) ?_; intro g3 hg w1 hbox hb; have BK3 := Aside0.mk hbox; have GE3 := Aside0.mk (bge hg HB.out); replace HB := Aside0.mk (bst HB.out hb); clear hb hbox hg)
      | ((with_reducible refine gate_dst (N := 4) rfl ?_); refine bxe (cs := #[.bool a1_0, .int .i64 a1_1, .int .i64 a1_2]) (t := 23) ?_; intro g4 hg w2 hbox hb; have BK4 := Aside0.mk hbox; have GE4 := Aside0.mk (bge hg HB.out); replace BK3 := Aside0.mk (bkb BK3.out hb); replace HB := Aside0.mk (bst HB.out hb); clear hb hbox hg)
      | ((with_reducible refine gate_dst (N := 5) rfl ?_); refine bxe (cs := #[.bool a2_0, .int .i64 a2_1, .int .i64 a2_2]) (t := 23) ?_; intro g5 hg w3 hbox hb; have BK5 := Aside0.mk hbox; have GE5 := Aside0.mk (bge hg HB.out); replace BK3 := Aside0.mk (bkb BK3.out hb); replace BK4 := Aside0.mk (bkb BK4.out hb); replace HB := Aside0.mk (bst HB.out hb); clear hb hbox hg; have hcz3 := cz3 BK3.out; have hcz4 := cz3 BK4.out; have hcz5 := cz3 BK5.out; have hfz3 := blk_frozen BK3.out; have hfz4 := blk_frozen BK4.out; have hfz5 := blk_frozen BK5.out)
      | (go_at_call 46; refine (ref_three.calls (0 + 2) a0_0 a0_1 a0_2 a1_0 a1_1 a1_2 a2_0 a2_1 a2_2 _ _ HCH.out).mono ?_; rintro e w6 ⟨rfl, hb⟩; replace BK3 := Aside0.mk (bkb BK3.out hb); replace BK4 := Aside0.mk (bkb BK4.out hb); replace BK5 := Aside0.mk (bkb BK5.out hb); replace HB := Aside0.mk (bst HB.out hb); have hcz3 := cz3 BK3.out; have hcz4 := cz3 BK4.out; have hcz5 := cz3 BK5.out; have hfz3 := blk_frozen BK3.out; have hfz4 := blk_frozen BK4.out; have hfz5 := blk_frozen BK5.out))
    have ebc := eqR (a1_0, a1_1, a1_2) (a2_0, a2_1, a2_2)
    have eab := eqR (a0_0, a0_1, a0_2) (a1_0, a1_1, a1_2)
    have eac := eqR (a0_0, a0_1, a0_2) (a2_0, a2_1, a2_2)
    have eba := eqR (a1_0, a1_1, a1_2) (a0_0, a0_1, a0_2)
    have eca := eqR (a2_0, a2_1, a2_2) (a0_0, a0_1, a0_2)
    dsimp only at ebc eab eac eba eca
    generalize decide (((a1_0, a1_1, a1_2) : R3) = (a2_0, a2_1, a2_2)) = bc at h ebc
    generalize decide (((a0_0, a0_1, a0_2) : R3) = (a1_0, a1_1, a1_2)) = ab at h eab
    generalize decide (((a0_0, a0_1, a0_2) : R3) = (a2_0, a2_1, a2_2)) = ac at h eac
    generalize decide (((a1_0, a1_1, a1_2) : R3) = (a0_0, a0_1, a0_2)) = ba at h eba
    generalize decide (((a2_0, a2_1, a2_2) : R3) = (a0_0, a0_1, a0_2)) = ca at h eca
    cases ab with
    | false =>
      rcases (show a1_0 = false ∨ (a1_0 = true ∧ bc = false) ∨ (a1_0 = true ∧ bc = true) by cases a1_0 <;> cases bc <;> simp) with rfl | ⟨rfl, rfl⟩ | ⟨rfl, rfl⟩
      ·
        rcases (show a0_0 = false ∨ (a0_0 = true ∧ ac = false) ∨ (a0_0 = true ∧ ac = true ∧ ba = true) ∨ (a0_0 = true ∧ ac = true ∧ ba = false) by cases a0_0 <;> cases ac <;> cases ba <;> simp) with rfl | ⟨rfl, rfl⟩ | ⟨rfl, rfl, rfl⟩ | ⟨rfl, rfl, rfl⟩
        all_goals
          simp [oddv] at h
          obtain ⟨rfl, rfl⟩ := h
          go_wp2
          go_ret2
          exact ⟨rfl, bel HB.out⟩
      ·
        rcases (show a0_0 = false ∨ (a0_0 = true ∧ ac = false) ∨ (a0_0 = true ∧ ac = true ∧ ba = true) ∨ (a0_0 = true ∧ ac = true ∧ ba = false) by cases a0_0 <;> cases ac <;> cases ba <;> simp) with rfl | ⟨rfl, rfl⟩ | ⟨rfl, rfl, rfl⟩ | ⟨rfl, rfl, rfl⟩
        all_goals
          simp [oddv] at h
          obtain ⟨rfl, rfl⟩ := h
          go_wp2
          go_ret2
          exact ⟨rfl, bel HB.out⟩
      ·
        simp [oddv] at h
        obtain ⟨rfl, rfl⟩ := h
        go_wp2
        go_ret2
        exact ⟨rfl, bel HB.out⟩
    | true =>
      rcases (show a1_0 = false ∨ (a1_0 = true ∧ bc = false) ∨ (a1_0 = true ∧ bc = true) by cases a1_0 <;> cases bc <;> simp) with rfl | ⟨rfl, rfl⟩ | ⟨rfl, rfl⟩
      ·
        cases ca
        all_goals
          rcases (show a0_0 = false ∨ (a0_0 = true ∧ ac = false) ∨ (a0_0 = true ∧ ac = true ∧ ba = true) ∨ (a0_0 = true ∧ ac = true ∧ ba = false) by cases a0_0 <;> cases ac <;> cases ba <;> simp) with rfl | ⟨rfl, rfl⟩ | ⟨rfl, rfl, rfl⟩ | ⟨rfl, rfl, rfl⟩
          all_goals
            simp [oddv] at h
            obtain ⟨rfl, rfl⟩ := h
            go_wp2
            go_ret2
            exact ⟨rfl, bel HB.out⟩
      ·
        cases ca
        all_goals
          rcases (show a0_0 = false ∨ (a0_0 = true ∧ ac = false) ∨ (a0_0 = true ∧ ac = true ∧ ba = true) ∨ (a0_0 = true ∧ ac = true ∧ ba = false) by cases a0_0 <;> cases ac <;> cases ba <;> simp) with rfl | ⟨rfl, rfl⟩ | ⟨rfl, rfl, rfl⟩ | ⟨rfl, rfl, rfl⟩
          all_goals
            simp [oddv] at h
            obtain ⟨rfl, rfl⟩ := h
            go_wp2
            go_ret2
            exact ⟨rfl, bel HB.out⟩
      ·
        cases ca
        all_goals
          rcases (show a0_0 = false ∨ (a0_0 = true ∧ ac = false) ∨ (a0_0 = true ∧ ac = true ∧ ba = true) ∨ (a0_0 = true ∧ ac = true ∧ ba = false) by cases a0_0 <;> cases ac <;> cases ba <;> simp) with rfl | ⟨rfl, rfl⟩ | ⟨rfl, rfl, rfl⟩ | ⟨rfl, rfl, rfl⟩
          all_goals
            simp [oddv] at h
            obtain ⟨rfl, rfl⟩ := h
            go_wp2
            go_ret2
            exact ⟨rfl, bel HB.out⟩
  · rw [if_neg c0] at h
    simp only [Option.some.injEq, Prod.mk.injEq] at h
    obtain ⟨rfl, rfl⟩ := h
    have cb : (c == 0) = false := beq_eq_false_iff_ne.mpr c0
    have cb1 : (c != 0) = true := bne_iff_ne.mpr c0
    go_enter Try.func20, Try.ntmps20
    go_wp2_with (first
      | ((with_reducible refine gate_dst (N := 3) rfl ?_); refine bxe (cs := #[.bool a0_0, .int .i64 a0_1, .int .i64 a0_2]) (t := 23) ?_; intro g3 hg w1 hbox hb; have BK3 := Aside0.mk hbox; have GE3 := Aside0.mk (bge hg HB.out); replace HB := Aside0.mk (bst HB.out hb); clear hb hbox hg)
      | ((with_reducible refine gate_dst (N := 4) rfl ?_); refine bxe (cs := #[.bool a1_0, .int .i64 a1_1, .int .i64 a1_2]) (t := 23) ?_; intro g4 hg w2 hbox hb; have BK4 := Aside0.mk hbox; have GE4 := Aside0.mk (bge hg HB.out); replace BK3 := Aside0.mk (bkb BK3.out hb); replace HB := Aside0.mk (bst HB.out hb); clear hb hbox hg)
      | ((with_reducible refine gate_dst (N := 5) rfl ?_); refine bxe (cs := #[.bool a2_0, .int .i64 a2_1, .int .i64 a2_2]) (t := 23) ?_; intro g5 hg w3 hbox hb; have BK5 := Aside0.mk hbox; have GE5 := Aside0.mk (bge hg HB.out); replace BK3 := Aside0.mk (bkb BK3.out hb); replace BK4 := Aside0.mk (bkb BK4.out hb); replace HB := Aside0.mk (bst HB.out hb); clear hb hbox hg; have hcz3 := cz3 BK3.out; have hcz4 := cz3 BK4.out; have hcz5 := cz3 BK5.out; have hfz3 := blk_frozen BK3.out; have hfz4 := blk_frozen BK4.out; have hfz5 := blk_frozen BK5.out)
      | (go_at_call 46; refine (ref_three.calls (0 + 2) a0_0 a0_1 a0_2 a1_0 a1_1 a1_2 a2_0 a2_1 a2_2 _ _ HCH.out).mono ?_; rintro e w6 ⟨rfl, hb⟩; replace BK3 := Aside0.mk (bkb BK3.out hb); replace BK4 := Aside0.mk (bkb BK4.out hb); replace BK5 := Aside0.mk (bkb BK5.out hb); replace HB := Aside0.mk (bst HB.out hb); have hcz3 := cz3 BK3.out; have hcz4 := cz3 BK4.out; have hcz5 := cz3 BK5.out; have hfz3 := blk_frozen BK3.out; have hfz4 := blk_frozen BK4.out; have hfz5 := blk_frozen BK5.out))
    go_ret2
    exact ⟨rfl, bel HB.out⟩
end Go.Proofs.Ytlkphdcfgaolnaa.P
