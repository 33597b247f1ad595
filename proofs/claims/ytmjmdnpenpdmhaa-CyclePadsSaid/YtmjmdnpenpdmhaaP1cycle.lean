-- Printed by wip/myprint.py of this repo (over the kit's printer). Not trusted: Lean checks it.
import Derived.Test.YtmjmdnpenpdmhaaP0
import Derived.Test.YtmjmdnpenpdmhaaP1door
namespace Go.Proofs.Ytmjmdnpenpdmhaa.P
open Go.RowKit Go.Proofs.YtmjmdnpenpdmhaaW.PrintWords Go.Proofs.YtmjmdnpenpdmhaaW.PrintLast Go.Proofs.YtmjmdnpenpdmhaaW.PrintMore
attribute [local go_sem] cell_same1 cell_some1
attribute [local go_sem] max2_int min2_int max_two min_two max_three min_three max_four min_four   -- for this text's walks alone
set_option linter.unusedVariables false
set_option linter.unusedSimpArgs false

/-! ### cycle_tick: function 35 -/
def cycle_tick.f (k : Nat) (a0_0 : Int) (a0_1 : Int) (a0_2 : Int) (a0_3 : Int) (a0_4 : Int) (a0_5 : Bool) (a1_0 : Int) (a1_1 : Int) (a1_2 : Int) (a2 : Bool) : Option (Int × Int × Int × Int × Int × Bool × Bool) := (door_Step.f k a0_0 a0_1 a0_2 a0_3 a1_0 a1_1 a1_2 a2).bind fun bt163 => (some (bt163.1, bt163.2.1, bt163.2.2.1, bt163.2.2.2.1, wrap64 (a0_4 + 1), a0_5, bt163.2.2.2.2.1))
theorem cycle_tick.mono : ∀ a0 a1 a2 a3 a4 a5 a6 a7 a8 a9 k, LeO (cycle_tick.f k a0 a1 a2 a3 a4 a5 a6 a7 a8 a9) (cycle_tick.f (k + 1) a0 a1 a2 a3 a4 a5 a6 a7 a8 a9) := by
  intro a0 a1 a2 a3 a4 a5 a6 a7 a8 a9 k
  unfold cycle_tick.f
  repeat' first
      | (with_reducible exact door_Step.mono _ _ _ _ _ _ _ _ _)
      | (with_reducible exact LeO.refl _)
      | (with_reducible exact LeO.none _)
      | (with_reducible refine LeO.ite ?_ ?_)
      | (with_reducible refine LeO.bind ?_ (fun _ => ?_))
      | exact door_Step.mono _ _ _ _ _ _ _ _ _
      | exact LeO.none _
      | refine LeO.ite ?_ ?_
      | refine LeO.bind ?_ (fun _ => ?_)
set_option maxHeartbeats 8000000 in
set_option maxRecDepth 100000 in
theorem cycle_tick.calls (k : Nat) (a0_0 : Int) (a0_1 : Int) (a0_2 : Int) (a0_3 : Int) (a0_4 : Int) (a0_5 : Bool) (a1_0 : Int) (a1_1 : Int) (a1_2 : Int) (a2 : Bool) (r1 : Int) (r2 : Int) (r3 : Int) (r4 : Int) (r5 : Int) (r6 : Bool) (r7 : Bool) (w : World) (h : cycle_tick.f k a0_0 a0_1 a0_2 a0_3 a0_4 a0_5 a1_0 a1_1 a1_2 a2 = some (r1, r2, r3, r4, r5, r6, r7)) :
    Calls Try.prog 35 #[.agg #[.int .i64 a0_0, .int .i64 a0_1, .int .i64 a0_2, .int .i64 a0_3, .int .i64 a0_4, .bool a0_5], .agg #[.int .i64 a1_0, .int .i64 a1_1, .int .i64 a1_2], .bool a2] w fun e w' => e = .returned (.tuple #[.agg #[.int .i64 r1, .int .i64 r2, .int .i64 r3, .int .i64 r4, .int .i64 r5, .bool r6], .bool r7]) ∧ Below w.heap.size w w' := by
  have hu39 := Try.underlying39
  have hu23 := Try.underlying23
  have hu37 := Try.underlying37
  have HB := Aside0.mk (Below.refl w.heap.size w)
  have H : ((door_Step.f k a0_0 a0_1 a0_2 a0_3 a1_0 a1_1 a1_2 a2).bind fun bt163 => (some (bt163.1, bt163.2.1, bt163.2.2.1, bt163.2.2.2.1, wrap64 (a0_4 + 1), a0_5, bt163.2.2.2.2.1))) = some (r1, r2, r3, r4, r5, r6, r7) := h
  clear h
  replace H := Option.bind_eq_some_iff.mp H
  obtain ⟨⟨t163, t164, t165, t166, t167, t168⟩, A40, H⟩ := H
  replace H : (some (t163, t164, t165, t166, wrap64 (a0_4 + 1), a0_5, t167)) = some (r1, r2, r3, r4, r5, r6, r7) := H
  have A4 := Aside0.mk A40
  clear A40
  simp only [Option.some.injEq, Prod.mk.injEq] at H
  obtain ⟨rfl, rfl, rfl, rfl, rfl, rfl, rfl⟩ := H
  go_enter Try.func35, Try.ntmps35
  go_wp2_with (first | ((with_reducible refine gate_dst (N := 3) rfl ?_); refine bxe (cs := #[.int .i64 a0_0, .int .i64 a0_1, .int .i64 a0_2, .int .i64 a0_3, .int .i64 a0_4, .bool a0_5]) (t := 39) ?_; intro gb160 hg w5 hbox hb; have BK160 := Aside0.mk (hbox); have GW160 := Aside0.mk (bge hg HB.out); have GE160 := Aside0.mk (bge hg HB.out); replace HB := Aside0.mk (bst HB.out hb); clear hb hbox hg) | ((with_reducible refine gate_dst (N := 4) rfl ?_); refine bxe (cs := #[.int .i64 a1_0, .int .i64 a1_1, .int .i64 a1_2]) (t := 23) ?_; intro gb161 hg w6 hbox hb; have BK161 := Aside0.mk (hbox); have GW161 := Aside0.mk (bge hg HB.out); have GE161 := Aside0.mk (bge hg HB.out); have NB160_161 := Aside0.mk ((bkl hg BK160.out)); have NB161_160 := Aside0.mk ((bkg hg BK160.out)); replace BK160 := Aside0.mk (bkb BK160.out hb); replace HB := Aside0.mk (bst HB.out hb); clear hb hbox hg) | ((with_reducible refine gate_dst (N := 6) rfl ?_); refine bxe (cs := #[.int .i64 0, .int .i64 0, .int .i64 0, .int .i64 0, .int .i64 0, .bool false]) (t := 39) ?_; intro gb162 hg w7 hbox hb; have BK162 := Aside0.mk (hbox); have GW162 := Aside0.mk (bge hg HB.out); have GE162 := Aside0.mk (bge hg HB.out); have NB160_162 := Aside0.mk ((bkl hg BK160.out)); have NB162_160 := Aside0.mk ((bkg hg BK160.out)); have NB161_162 := Aside0.mk ((bkl hg BK161.out)); have NB162_161 := Aside0.mk ((bkg hg BK161.out)); replace BK160 := Aside0.mk (bkb BK160.out hb); replace BK161 := Aside0.mk (bkb BK161.out hb); replace HB := Aside0.mk (bst HB.out hb); clear hb hbox hg; have hnb8 := NB160_161.out; have hnc8 := NB161_160.out; have hnb9 := NB160_162.out; have hnc9 := NB162_160.out; have hcz10_0 := cz6 BK160.out; have hfz10_0 := blk_frozen BK160.out; have hnb11 := NB161_162.out; have hnc11 := NB162_161.out; have hcz12_0 := cz3 BK161.out; have hfz12_0 := blk_frozen BK161.out) | ((with_reducible refine gate_callee (f := 52) rfl ?_); refine gsl (some 16) Try.func52 #[.agg #[.int .i64 a0_0, .int .i64 a0_1, .int .i64 a0_2, .int .i64 a0_3], .agg #[.int .i64 a1_0, .int .i64 a1_1, .int .i64 a1_2], .bool a2] ?_; (with_reducible refine (door_Step.calls k a0_0 a0_1 a0_2 a0_3 a1_0 a1_1 a1_2 a2 t163 t164 t165 t166 t167 t168 _ A4.out).mono ?_); rintro e w13 ⟨rfl, hb⟩; refine ⟨_, rfl, ?_⟩; replace BK160 := Aside0.mk (bkb BK160.out hb); replace BK161 := Aside0.mk (bkb BK161.out hb); replace BK162 := Aside0.mk (bkb BK162.out hb); replace HB := Aside0.mk (bst HB.out hb); (try clear hb); (try clear hb2); (try clear hk); (try clear hi)) | ((with_reducible refine gate_dst (N := 8) rfl ?_); refine bxe (cs := #[.int .i64 0, .int .i64 0, .int .i64 0, .int .i64 0]) (t := 37) ?_; intro gb169 hg w14 hbox hb; have BK169 := Aside0.mk (hbox); have GW169 := Aside0.mk (bge hg HB.out); have GE169 := Aside0.mk (bge hg HB.out); have NB160_169 := Aside0.mk ((bkl hg BK160.out)); have NB169_160 := Aside0.mk ((bkg hg BK160.out)); have NB161_169 := Aside0.mk ((bkl hg BK161.out)); have NB169_161 := Aside0.mk ((bkg hg BK161.out)); have NB162_169 := Aside0.mk ((bkl hg BK162.out)); have NB169_162 := Aside0.mk ((bkg hg BK162.out)); replace BK160 := Aside0.mk (bkb BK160.out hb); replace BK161 := Aside0.mk (bkb BK161.out hb); replace BK162 := Aside0.mk (bkb BK162.out hb); replace HB := Aside0.mk (bst HB.out hb); clear hb hbox hg; have hnb15 := NB169_160.out; have hnc15 := NB160_169.out; have hnb16 := NB169_161.out; have hnc16 := NB161_169.out; have hnb17 := NB169_162.out; have hnc17 := NB162_169.out; have hcz18_0 := cz4 BK169.out; have hfz18_0 := blk_frozen BK169.out; have hcz19_0 := cz6 BK160.out; have hfz19_0 := blk_frozen BK160.out; have hcz20_0 := cz6 BK162.out; have hfz20_0 := blk_frozen BK162.out))
  refine bodyPost_ret (results_ct rfl _ _ gb162 39 #[.int .i64 t163, .int .i64 t164, .int .i64 t165, .int .i64 t166, .int .i64 (wrap64 (a0_4 + 1)), .bool a0_5] (0, 0) _ rfl (bkt BK162.out) Try.underlying39 rfl (by kernel_rfl)) rfl ?_
  exact bfin (bel HB.out)

-- NOT PRINTED: function 49 (cycle_run_tick)

end Go.Proofs.Ytmjmdnpenpdmhaa.P
