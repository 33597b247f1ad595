/- The reference: what three readings agree on. -/
import Derived.Test.YtlkphdcfgaolnaaOr
namespace Go.Proofs.Ytlkphdcfgaolnaa.P
open Go.RowKit Go.Proofs.YtlkphdcfgaolnaaW.PrintWords Go.Proofs.YtlkphdcfgaolnaaW.PrintLast Go.Proofs.YtlkphdcfgaolnaaW.PrintMore
attribute [local go_sem] cell_same1 cell_some1
set_option linter.unusedVariables false
set_option linter.unusedSimpArgs false

def vresB (a b c : R3) (ab ac bc : Bool) : R3 :=
  if (a.1 && (ab || ac)) = true then a else if (b.1 && bc) = true then b else if (a.1 && (!b.1 && !c.1)) = true then a else if (b.1 && (!a.1 && !c.1)) = true then b else if (c.1 && (!a.1 && !b.1)) = true then c else (false, -1, 0)
theorem vres_bool (a b c : R3) : vres a b c = vresB a b c (decide (a = b)) (decide (a = c)) (decide (b = c)) := by
  unfold vres vresB
  simp only [Bool.and_eq_true, Bool.or_eq_true, decide_eq_true_eq, Bool.not_eq_true']
def ref_Vote.f (a0_0 : Bool) (a0_1 : Int) (a0_2 : Int) (a1_0 : Bool) (a1_1 : Int) (a1_2 : Int) (a2_0 : Bool) (a2_1 : Int) (a2_2 : Int) : Option (Bool × Int × Int × Int) :=
  if vchk (a0_0, a0_1, a0_2) (a1_0, a1_1, a1_2) (a2_0, a2_1, a2_2) = 0 then
    some ((vres (a0_0, a0_1, a0_2) (a1_0, a1_1, a1_2) (a2_0, a2_1, a2_2)).1, (vres (a0_0, a0_1, a0_2) (a1_0, a1_1, a1_2) (a2_0, a2_1, a2_2)).2.1, (vres (a0_0, a0_1, a0_2) (a1_0, a1_1, a1_2) (a2_0, a2_1, a2_2)).2.2, 0)
  else some (false, 0, 0, vchk (a0_0, a0_1, a0_2) (a1_0, a1_1, a1_2) (a2_0, a2_1, a2_2))

set_option maxHeartbeats 8000000 in
set_option maxRecDepth 100000 in
theorem ref_Vote.calls (a0_0 : Bool) (a0_1 : Int) (a0_2 : Int) (a1_0 : Bool) (a1_1 : Int) (a1_2 : Int) (a2_0 : Bool) (a2_1 : Int) (a2_2 : Int) (r1 : Bool) (r2 : Int) (r3 : Int) (r4 : Int) (w : World) (h : ref_Vote.f a0_0 a0_1 a0_2 a1_0 a1_1 a1_2 a2_0 a2_1 a2_2 = some (r1, r2, r3, r4)) :
    Calls Try.prog 18 #[.agg #[.bool a0_0, .int .i64 a0_1, .int .i64 a0_2], .agg #[.bool a1_0, .int .i64 a1_1, .int .i64 a1_2], .agg #[.bool a2_0, .int .i64 a2_1, .int .i64 a2_2]] w fun e w' => e = .returned (.tuple #[.agg #[.bool r1, .int .i64 r2, .int .i64 r3], .int .i64 r4]) ∧ Below w.heap.size w w' := by
  have hu := Try.underlying23
  have HB := Aside0.mk (Below.refl w.heap.size w)
  unfold ref_Vote.f at h
  have HCH := Aside0.mk (ref_three_eq 0 (a0_0, a0_1, a0_2) (a1_0, a1_1, a1_2) (a2_0, a2_1, a2_2))
  dsimp only at HCH
  generalize hc : vchk (a0_0, a0_1, a0_2) (a1_0, a1_1, a1_2) (a2_0, a2_1, a2_2) = c at h HCH
  clear hc
  by_cases c0 : c = 0
  · rw [if_pos c0, vres_bool] at h
    subst c0
    go_enter Try.func18, Try.ntmps18
    go_upto_region 4 with (first
      | ((with_reducible refine gate_dst (N := 3) rfl ?_); refine bxe (cs := #[.bool a0_0, .int .i64 a0_1, .int .i64 a0_2]) (t := 23) ?_; intro g3 hg w3 hbox hb; have BK3 := Aside0.mk hbox; have GE3 := Aside0.mk (bge hg HB.out); replace HB := Aside0.mk (bst HB.out hb); clear hb hbox hg)
      | ((with_reducible refine gate_dst (N := 4) rfl ?_); refine bxe (cs := #[.bool a1_0, .int .i64 a1_1, .int .i64 a1_2]) (t := 23) ?_; intro g4 hg w4 hbox hb; have BK4 := Aside0.mk hbox; have GE4 := Aside0.mk (bge hg HB.out); replace BK3 := Aside0.mk (bkb BK3.out hb); replace HB := Aside0.mk (bst HB.out hb); clear hb hbox hg)
      | ((with_reducible refine gate_dst (N := 5) rfl ?_); refine bxe (cs := #[.bool a2_0, .int .i64 a2_1, .int .i64 a2_2]) (t := 23) ?_; intro g5 hg w5 hbox hb; have BK5 := Aside0.mk hbox; have GE5 := Aside0.mk (bge hg HB.out); replace BK3 := Aside0.mk (bkb BK3.out hb); replace BK4 := Aside0.mk (bkb BK4.out hb); replace HB := Aside0.mk (bst HB.out hb); clear hb hbox hg)
      | ((with_reducible refine gate_dst (N := 6) rfl ?_); refine bxe (cs := #[.bool false, .int .i64 0, .int .i64 0]) (t := 23) ?_; intro g6 hg w6 hbox hb; have BK6 := Aside0.mk hbox; have GE6 := Aside0.mk (bge hg HB.out); replace BK3 := Aside0.mk (bkb BK3.out hb); replace BK4 := Aside0.mk (bkb BK4.out hb); replace BK5 := Aside0.mk (bkb BK5.out hb); replace HB := Aside0.mk (bst HB.out hb); clear hb hbox hg; have hcz3 := cz3 BK3.out; have hcz4 := cz3 BK4.out; have hcz5 := cz3 BK5.out; have hfz3 := blk_frozen BK3.out; have hfz4 := blk_frozen BK4.out; have hfz5 := blk_frozen BK5.out)
      | (go_at_call 46; refine (ref_three.calls (0 + 2) a0_0 a0_1 a0_2 a1_0 a1_1 a1_2 a2_0 a2_1 a2_2 _ _ HCH.out).mono ?_; rintro e w7 ⟨rfl, hb⟩; replace BK3 := Aside0.mk (bkb BK3.out hb); replace BK4 := Aside0.mk (bkb BK4.out hb); replace BK5 := Aside0.mk (bkb BK5.out hb); replace BK6 := Aside0.mk (bkb BK6.out hb); replace HB := Aside0.mk (bst HB.out hb); have hcz3 := cz3 BK3.out; have hcz4 := cz3 BK4.out; have hcz5 := cz3 BK5.out; have hcz6 := cz3 BK6.out; have hfz3 := blk_frozen BK3.out; have hfz4 := blk_frozen BK4.out; have hfz5 := blk_frozen BK5.out; have hfz6 := blk_frozen BK6.out))
    have ebc := eqR (a1_0, a1_1, a1_2) (a2_0, a2_1, a2_2)
    have eab := eqR (a0_0, a0_1, a0_2) (a1_0, a1_1, a1_2)
    have eac := eqR (a0_0, a0_1, a0_2) (a2_0, a2_1, a2_2)
    dsimp only at ebc eab eac
    generalize decide (((a1_0, a1_1, a1_2) : R3) = (a2_0, a2_1, a2_2)) = bc at h ebc
    generalize decide (((a0_0, a0_1, a0_2) : R3) = (a1_0, a1_1, a1_2)) = ab at h eab
    generalize decide (((a0_0, a0_1, a0_2) : R3) = (a2_0, a2_1, a2_2)) = ac at h eac
    cases a0_0 with
    | false =>
      cases a1_0 with
      | false =>
        cases a2_0 with
        | false =>
          simp [vresB] at h
          obtain ⟨rfl, rfl, rfl, rfl⟩ := h
          go_wp2_with (go_at_call 41; refine (ref_failed.calls false (-1) 0 _ rfl).mono ?_; rintro e w8 ⟨rfl, hb⟩; replace BK6 := Aside0.mk (bkb BK6.out hb); replace HB := Aside0.mk (bst HB.out hb); have hcz6 := cz3 BK6.out; have hfz6 := blk_frozen BK6.out)
          refine bodyPost_ret (results_ct rfl _ _ g6 23 #[.bool false, .int .i64 (-1), .int .i64 0] (0, 0) _ rfl (bkt BK6.out) Try.underlying23 rfl (by kernel_rfl)) rfl ?_
          exact ⟨rfl, bel HB.out⟩
        | true =>
          simp [vresB] at h
          obtain ⟨rfl, rfl, rfl, rfl⟩ := h
          go_wp2
          refine bodyPost_ret (results_ct rfl _ _ g6 23 #[.bool true, .int .i64 a2_1, .int .i64 a2_2] (0, 0) _ rfl (bkt BK6.out) Try.underlying23 rfl (by kernel_rfl)) rfl ?_
          exact ⟨rfl, bel HB.out⟩
      | true =>
        cases bc with
        | true =>
          simp [vresB] at h
          obtain ⟨rfl, rfl, rfl, rfl⟩ := h
          go_wp2
          refine bodyPost_ret (results_ct rfl _ _ g6 23 #[.bool true, .int .i64 a1_1, .int .i64 a1_2] (0, 0) _ rfl (bkt BK6.out) Try.underlying23 rfl (by kernel_rfl)) rfl ?_
          exact ⟨rfl, bel HB.out⟩
        | false =>
          cases a2_0 with
          | false =>
            simp [vresB] at h
            obtain ⟨rfl, rfl, rfl, rfl⟩ := h
            go_wp2
            refine bodyPost_ret (results_ct rfl _ _ g6 23 #[.bool true, .int .i64 a1_1, .int .i64 a1_2] (0, 0) _ rfl (bkt BK6.out) Try.underlying23 rfl (by kernel_rfl)) rfl ?_
            exact ⟨rfl, bel HB.out⟩
          | true =>
            simp [vresB] at h
            obtain ⟨rfl, rfl, rfl, rfl⟩ := h
            go_wp2_with (go_at_call 41; refine (ref_failed.calls false (-1) 0 _ rfl).mono ?_; rintro e w8 ⟨rfl, hb⟩; replace BK6 := Aside0.mk (bkb BK6.out hb); replace HB := Aside0.mk (bst HB.out hb); have hcz6 := cz3 BK6.out; have hfz6 := blk_frozen BK6.out)
            refine bodyPost_ret (results_ct rfl _ _ g6 23 #[.bool false, .int .i64 (-1), .int .i64 0] (0, 0) _ rfl (bkt BK6.out) Try.underlying23 rfl (by kernel_rfl)) rfl ?_
            exact ⟨rfl, bel HB.out⟩
    | true =>
      cases ab with
      | true =>
        simp [vresB] at h
        obtain ⟨rfl, rfl, rfl, rfl⟩ := h
        go_wp2
        refine bodyPost_ret (results_ct rfl _ _ g6 23 #[.bool true, .int .i64 a0_1, .int .i64 a0_2] (0, 0) _ rfl (bkt BK6.out) Try.underlying23 rfl (by kernel_rfl)) rfl ?_
        exact ⟨rfl, bel HB.out⟩
      | false =>
        cases ac with
        | true =>
          simp [vresB] at h
          obtain ⟨rfl, rfl, rfl, rfl⟩ := h
          go_wp2
          refine bodyPost_ret (results_ct rfl _ _ g6 23 #[.bool true, .int .i64 a0_1, .int .i64 a0_2] (0, 0) _ rfl (bkt BK6.out) Try.underlying23 rfl (by kernel_rfl)) rfl ?_
          exact ⟨rfl, bel HB.out⟩
        | false =>
          cases a1_0 with
          | false =>
            cases a2_0 with
            | false =>
              simp [vresB] at h
              obtain ⟨rfl, rfl, rfl, rfl⟩ := h
              go_wp2
              refine bodyPost_ret (results_ct rfl _ _ g6 23 #[.bool true, .int .i64 a0_1, .int .i64 a0_2] (0, 0) _ rfl (bkt BK6.out) Try.underlying23 rfl (by kernel_rfl)) rfl ?_
              exact ⟨rfl, bel HB.out⟩
            | true =>
              simp [vresB] at h
              obtain ⟨rfl, rfl, rfl, rfl⟩ := h
              go_wp2_with (go_at_call 41; refine (ref_failed.calls false (-1) 0 _ rfl).mono ?_; rintro e w8 ⟨rfl, hb⟩; replace BK6 := Aside0.mk (bkb BK6.out hb); replace HB := Aside0.mk (bst HB.out hb); have hcz6 := cz3 BK6.out; have hfz6 := blk_frozen BK6.out)
              refine bodyPost_ret (results_ct rfl _ _ g6 23 #[.bool false, .int .i64 (-1), .int .i64 0] (0, 0) _ rfl (bkt BK6.out) Try.underlying23 rfl (by kernel_rfl)) rfl ?_
              exact ⟨rfl, bel HB.out⟩
          | true =>
            cases bc with
            | true =>
              simp [vresB] at h
              obtain ⟨rfl, rfl, rfl, rfl⟩ := h
              go_wp2
              refine bodyPost_ret (results_ct rfl _ _ g6 23 #[.bool true, .int .i64 a1_1, .int .i64 a1_2] (0, 0) _ rfl (bkt BK6.out) Try.underlying23 rfl (by kernel_rfl)) rfl ?_
              exact ⟨rfl, bel HB.out⟩
            | false =>
              cases a2_0 with
              | false =>
                simp [vresB] at h
                obtain ⟨rfl, rfl, rfl, rfl⟩ := h
                go_wp2_with (go_at_call 41; refine (ref_failed.calls false (-1) 0 _ rfl).mono ?_; rintro e w8 ⟨rfl, hb⟩; replace BK6 := Aside0.mk (bkb BK6.out hb); replace HB := Aside0.mk (bst HB.out hb); have hcz6 := cz3 BK6.out; have hfz6 := blk_frozen BK6.out)
                refine bodyPost_ret (results_ct rfl _ _ g6 23 #[.bool false, .int .i64 (-1), .int .i64 0] (0, 0) _ rfl (bkt BK6.out) Try.underlying23 rfl (by kernel_rfl)) rfl ?_
                exact ⟨rfl, bel HB.out⟩
              | true =>
                simp [vresB] at h
                obtain ⟨rfl, rfl, rfl, rfl⟩ := h
                go_wp2_with (go_at_call 41; refine (ref_failed.calls false (-1) 0 _ rfl).mono ?_; rintro e w8 ⟨rfl, hb⟩; replace BK6 := Aside0.mk (bkb BK6.out hb); replace HB := Aside0.mk (bst HB.out hb); have hcz6 := cz3 BK6.out; have hfz6 := blk_frozen BK6.out)
                refine bodyPost_ret (results_ct rfl _ _ g6 23 #[.bool false, .int .i64 (-1), .int .i64 0] (0, 0) _ rfl (bkt BK6.out) Try.underlying23 rfl (by kernel_rfl)) rfl ?_
                exact ⟨rfl, bel HB.out⟩
  · rw [if_neg c0] at h
    simp only [Option.some.injEq, Prod.mk.injEq] at h
    obtain ⟨rfl, rfl, rfl, rfl⟩ := h
    have cb : (c == 0) = false := beq_eq_false_iff_ne.mpr c0
    have cb1 : (c != 0) = true := bne_iff_ne.mpr c0
    go_enter Try.func18, Try.ntmps18
    go_wp2_with (first
      | ((with_reducible refine gate_dst (N := 3) rfl ?_); refine bxe (cs := #[.bool a0_0, .int .i64 a0_1, .int .i64 a0_2]) (t := 23) ?_; intro g3 hg w3 hbox hb; have BK3 := Aside0.mk hbox; have GE3 := Aside0.mk (bge hg HB.out); replace HB := Aside0.mk (bst HB.out hb); clear hb hbox hg)
      | ((with_reducible refine gate_dst (N := 4) rfl ?_); refine bxe (cs := #[.bool a1_0, .int .i64 a1_1, .int .i64 a1_2]) (t := 23) ?_; intro g4 hg w4 hbox hb; have BK4 := Aside0.mk hbox; have GE4 := Aside0.mk (bge hg HB.out); replace BK3 := Aside0.mk (bkb BK3.out hb); replace HB := Aside0.mk (bst HB.out hb); clear hb hbox hg)
      | ((with_reducible refine gate_dst (N := 5) rfl ?_); refine bxe (cs := #[.bool a2_0, .int .i64 a2_1, .int .i64 a2_2]) (t := 23) ?_; intro g5 hg w5 hbox hb; have BK5 := Aside0.mk hbox; have GE5 := Aside0.mk (bge hg HB.out); replace BK3 := Aside0.mk (bkb BK3.out hb); replace BK4 := Aside0.mk (bkb BK4.out hb); replace HB := Aside0.mk (bst HB.out hb); clear hb hbox hg)
      | ((with_reducible refine gate_dst (N := 6) rfl ?_); refine bxe (cs := #[.bool false, .int .i64 0, .int .i64 0]) (t := 23) ?_; intro g6 hg w6 hbox hb; have BK6 := Aside0.mk hbox; have GE6 := Aside0.mk (bge hg HB.out); replace BK3 := Aside0.mk (bkb BK3.out hb); replace BK4 := Aside0.mk (bkb BK4.out hb); replace BK5 := Aside0.mk (bkb BK5.out hb); replace HB := Aside0.mk (bst HB.out hb); clear hb hbox hg; have hcz3 := cz3 BK3.out; have hcz4 := cz3 BK4.out; have hcz5 := cz3 BK5.out; have hfz3 := blk_frozen BK3.out; have hfz4 := blk_frozen BK4.out; have hfz5 := blk_frozen BK5.out)
      | (go_at_call 46; refine (ref_three.calls (0 + 2) a0_0 a0_1 a0_2 a1_0 a1_1 a1_2 a2_0 a2_1 a2_2 _ _ HCH.out).mono ?_; rintro e w7 ⟨rfl, hb⟩; replace BK3 := Aside0.mk (bkb BK3.out hb); replace BK4 := Aside0.mk (bkb BK4.out hb); replace BK5 := Aside0.mk (bkb BK5.out hb); replace BK6 := Aside0.mk (bkb BK6.out hb); replace HB := Aside0.mk (bst HB.out hb); have hcz3 := cz3 BK3.out; have hcz4 := cz3 BK4.out; have hcz5 := cz3 BK5.out; have hcz6 := cz3 BK6.out; have hfz3 := blk_frozen BK3.out; have hfz4 := blk_frozen BK4.out; have hfz5 := blk_frozen BK5.out; have hfz6 := blk_frozen BK6.out))
    refine bodyPost_ret (results_ct rfl _ _ g6 23 #[.bool false, .int .i64 0, .int .i64 0] (0, 0) _ rfl (bkt BK6.out) Try.underlying23 rfl (by kernel_rfl)) rfl ?_
    exact ⟨rfl, bel HB.out⟩
end Go.Proofs.Ytlkphdcfgaolnaa.P
