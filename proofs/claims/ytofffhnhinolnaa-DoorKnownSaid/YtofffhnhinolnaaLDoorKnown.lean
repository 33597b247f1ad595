/- The chapter's examples: the machine's side, walked with the values at hand. No condition. -/
import Derived.Test.YtofffhnhinolnaaP2tipstafflaw18
import Derived.Test.YtofffhnhinolnaaP1tipstafflaw18
import Derived.Test.YtofffhnhinolnaaP0tipstaffkit
import Derived.Test.YtofffhnhinolnaaP0doora
import Derived.Test.YtofffhnhinolnaaE23
import Derived.Test.YtofffhnhinolnaaRb
import Derived.Deep.RegionHeld3
namespace Go.Proofs.Ytofffhnhinolnaa.P
open Go.RowKit Go.Proofs.YtofffhnhinolnaaW.PrintWords Go.Proofs.YtofffhnhinolnaaW.PrintLast Go.Proofs.YtofffhnhinolnaaW.PrintMore
set_option linter.unusedVariables false
set_option linter.unusedSimpArgs false
attribute [local go_sem high] eqA23

theorem wp_abs {P : Program} {c : Code} {Q : Exit → Act → World → Prop} {a : Act} {w : World} (M : World → Prop) (h : M w) (hK : ∀ w', M w' → c.wp P Q a w') : c.wp P Q a w := hK w h

structure KM1 (w : World) (g : Nat) (a0 a1 a2 a3 : Int) (W : World) : Prop where
  below : Below w.heap.size w W
  lo : w.heap.size ≤ g
  at_ : W.heap[g]? = some (.cells #[.int .i64 a0, .int .i64 a1, .int .i64 a2, .int .i64 a3] 23)
theorem KM1.step {w W W2 : World} {g : Nat} {a0 a1 a2 a3 : Int} (h : KM1 w g a0 a1 a2 a3 W) (hb : Below W.heap.size W W2) : KM1 w g a0 a1 a2 a3 W2 := ⟨below_step h.below hb, h.lo, blk_below h.at_ hb⟩
theorem KM1.cells {w W : World} {g : Nat} {a0 a1 a2 a3 : Int} (h : KM1 w g a0 a1 a2 a3 W) : W.cell? ⟨g, 0, none⟩ = some (.int .i64 a0) ∧ W.cell? ⟨g, 1, none⟩ = some (.int .i64 a1) ∧ W.cell? ⟨g, 2, none⟩ = some (.int .i64 a2) ∧ W.cell? ⟨g, 3, none⟩ = some (.int .i64 a3) :=
  ⟨(blk_cell h.at_ 0).trans rfl, (blk_cell h.at_ 1).trans rfl, (blk_cell h.at_ 2).trans rfl, (blk_cell h.at_ 3).trans rfl⟩
structure KM2 (w : World) (g g2 : Nat) (W : World) : Prop where
  a : KM1 w g 5 2 0 0 W
  b : KM1 w g2 0 0 0 0 W
theorem KM2.step {w W W2 : World} {g g2 : Nat} (h : KM2 w g g2 W) (hb : Below W.heap.size W W2) : KM2 w g g2 W2 := ⟨h.a.step hb, h.b.step hb⟩
theorem KM2.alloc {w W : World} {g g2 : Nat} (h : KM2 w g g2 W) (o : Obj) : KM2 w g g2 (W.alloc o) := h.step (below_alloc (Below.refl _ _) o)
structure KM3 (w : World) (g g2 g3 : Nat) (v : Value) (W : World) : Prop where
  a : KM1 w g 5 2 0 0 W
  b : KM1 w g2 0 0 0 0 W
  c : KM1 w g3 0 0 0 0 W
  r : Kd.R (Kd.int .i64) 3 W w.heap.size (fun _ => True) v [1]
theorem KM3.cells {w W : World} {g g2 g3 : Nat} {v : Value} (h : KM3 w g g2 g3 v W) : W.cell? ⟨g, 0, none⟩ = some (.int .i64 5) ∧ W.cell? ⟨g, 1, none⟩ = some (.int .i64 2) ∧ W.cell? ⟨g, 2, none⟩ = some (.int .i64 0) ∧ W.cell? ⟨g, 3, none⟩ = some (.int .i64 0) ∧ W.cell? ⟨g2, 0, none⟩ = some (.int .i64 0) ∧ W.cell? ⟨g2, 1, none⟩ = some (.int .i64 0) ∧ W.cell? ⟨g2, 2, none⟩ = some (.int .i64 0) ∧ W.cell? ⟨g2, 3, none⟩ = some (.int .i64 0) ∧ W.cell? ⟨g3, 0, none⟩ = some (.int .i64 0) ∧ W.cell? ⟨g3, 1, none⟩ = some (.int .i64 0) ∧ W.cell? ⟨g3, 2, none⟩ = some (.int .i64 0) ∧ W.cell? ⟨g3, 3, none⟩ = some (.int .i64 0) :=
  ⟨h.a.cells.1, h.a.cells.2.1, h.a.cells.2.2.1, h.a.cells.2.2.2, h.b.cells.1, h.b.cells.2.1, h.b.cells.2.2.1, h.b.cells.2.2.2, h.c.cells.1, h.c.cells.2.1, h.c.cells.2.2.1, h.c.cells.2.2.2⟩
theorem KM3.step {w W W2 : World} {g g2 g3 : Nat} {v : Value} (h : KM3 w g g2 g3 v W) (hb : Below W.heap.size W W2) : KM3 w g g2 g3 v W2 := ⟨h.a.step hb, h.b.step hb, h.c.step hb, Kd.R_below h.r hb⟩
structure K8 (w : World) (g g2 g8 : Nat) (W : World) : Prop where
  m : KM2 w g g2 W
  c : KM1 w g8 0 0 0 0 W
  n1 : g ≠ g8
  n2 : g2 ≠ g8
theorem K8.step {w W W2 : World} {g g2 g8 : Nat} (h : K8 w g g2 g8 W) (hb : Below W.heap.size W W2) : K8 w g g2 g8 W2 := ⟨h.m.step hb, h.c.step hb, h.n1, h.n2⟩
theorem K8.alloc {w W : World} {g g2 g8 : Nat} (h : K8 w g g2 g8 W) (o : Obj) : K8 w g g2 g8 (W.alloc o) := h.step (below_alloc (Below.refl _ _) o)
theorem KM2.drew {w W : World} {g g2 : Nat} (h : KM2 w g g2 W) : KM2 w g g2 W.drew := h.step ((Below.refl _ W).drew)
theorem K8.drew {w W : World} {g g2 g8 : Nat} (h : K8 w g g2 g8 W) : K8 w g g2 g8 W.drew := h.step ((Below.refl _ W).drew)
theorem K8.new {w W : World} {g g2 : Nat} (h : KM2 w g g2 W) : K8 w g g2 W.heap.size (W.alloc (.cells #[.int .i64 0, .int .i64 0, .int .i64 0, .int .i64 0] 23)) := ⟨h.alloc _, ⟨below_alloc h.a.below _, below_size h.a.below, blk_new _ _⟩, Nat.ne_of_lt (blk_lt h.a.at_), Nat.ne_of_lt (blk_lt h.b.at_)⟩
theorem K8.done {w W : World} {g g2 g8 : Nat} {v : Value} (h : K8 w g g2 g8 W) (hr : Kd.R (Kd.int .i64) 3 W w.heap.size (fun _ => True) v [1]) : KM3 w g g2 g8 v W := ⟨h.m.a, h.m.b, h.c, hr⟩
theorem K8.store {w W : World} {g g2 g8 : Nat} (h : K8 w g g2 g8 W) : K8 w g g2 g8 ((((W.setCell ⟨g8, 0, none⟩ (.int .i64 0)).setCell ⟨g8, 1, none⟩ (.int .i64 0)).setCell ⟨g8, 2, none⟩ (.int .i64 0)).setCell ⟨g8, 3, none⟩ (.int .i64 0)) := by
  have hk := kept_store W g8 (.int .i64 0) (.int .i64 0) (.int .i64 0) (.int .i64 0)
  have hb := below_store h.c.below h.c.lo (.int .i64 0) (.int .i64 0) (.int .i64 0) (.int .i64 0)
  exact ⟨⟨⟨hb, h.m.a.lo, blk_kept h.m.a.at_ hk h.n1⟩, ⟨hb, h.m.b.lo, blk_kept h.m.b.at_ hk h.n2⟩⟩, ⟨hb, h.c.lo, blk_store h.c.at_ _ _ _ _⟩, h.n1, h.n2⟩
structure K9 (w : World) (g g2 g8 : Nat) (v : Value) (W : World) : Prop where
  k : K8 w g g2 g8 W
  r : Kd.R (Kd.int .i64) 3 W w.heap.size (fun j => j ≠ g8) v [1]
theorem K8.stepR {w W W2 : World} {g g2 g8 : Nat} {v : Value} (h : K8 w g g2 g8 W) (hb : Below W.heap.size W W2) (hr : Kd.R (Kd.int .i64) 3 W2 W.heap.size (fun _ => True) v [1]) : K9 w g g2 g8 v W2 := by
  have hlt := blk_lt h.c.at_
  exact ⟨h.step hb, Kd.R_mono (Kd.R_bound (Kd.R_lower hr (Nat.le_refl _))) (fun _ hk => by have := hk.2.1; omega) |> fun x => Kd.R_lower x (below_size h.c.below)⟩
theorem K9.done {w W : World} {g g2 g8 : Nat} {v : Value} (h : K9 w g g2 g8 v W) : KM3 w g g2 g8 v ((((W.setCell ⟨g8, 0, none⟩ (.int .i64 0)).setCell ⟨g8, 1, none⟩ (.int .i64 0)).setCell ⟨g8, 2, none⟩ (.int .i64 0)).setCell ⟨g8, 3, none⟩ (.int .i64 0)) :=
  K8.done h.k.store (Kd.R_mono (Kd.R_kept h.r (kept_store W g8 _ _ _ _) (fun _ h => h)) (fun _ _ => trivial))
theorem rowI {W : World} {g : Nat} (h : W.heap[g]? = some (.cells #[.int .i64 1] 3)) : Kd.C (Kd.int .i64) W (some ⟨g, 0, none⟩) 1 [1] :=
  (Kd.R_reads' (base := 0) (ok := fun _ => True) (c := 1) (Kd.R_of_own (enc := Value.int .i64) (h1 := fun _ => rfl) (xs := [1]) ⟨rfl, .inr ⟨g, 1, _, rfl, Nat.zero_le _, h, Nat.le_refl _, by decide, rfl, rfl⟩⟩ (fun _ _ => trivial))).2.2
theorem rowC {W : World} {g : Nat} (h : W.heap[g]? = some (.cells #[.bool false, .bool false, .bool false, .bool false, .bool false, .bool false, .bool false] 4)) : Kd.C Kd.bool W (some ⟨g, 0, none⟩) 7 [false, false, false, false, false, false, false] :=
  (Kd.R_reads' (base := 0) (ok := fun _ => True) (c := 7) (Kd.R_of_own (enc := Value.bool) (h1 := fun _ => rfl) (xs := [false, false, false, false, false, false, false]) ⟨rfl, .inr ⟨g, 7, _, rfl, Nat.zero_le _, h, Nat.le_refl _, by decide, rfl, rfl⟩⟩ (fun _ _ => trivial))).2.2

set_option maxHeartbeats 8000000 in
set_option maxRecDepth 100000 in
theorem known_calls (w : World) : Calls Try.prog 8 #[] w fun e w' => e = .returned (.bool true) ∧ Below w.heap.size w w' := by
  have K1 : door_Worst.f 2 3 0 = some (7, 0) := by decide +kernel
  have K2 : q_rule.f = some (2, 3, 1) := by decide +kernel
  have K3 : door_Open.f 20 0 0 0 0 2 3 1 = some (1, 0, 0, 0, 0) := by decide +kernel
  have K4 : door_Open.f 20 1 0 0 0 2 3 1 = some (0, 0, 0, 0, 9) := by decide +kernel
  have B1 : q_becomes.f 20 2 2 1 0 false 3 2 0 0 false = some true := by decide +kernel
  have B2 : q_becomes.f 20 3 2 0 0 false 3 1 0 0 false = some true := by decide +kernel
  have B3 : q_becomes.f 20 3 1 0 0 false 0 0 0 0 false = some true := by decide +kernel
  have B4 : q_becomes.f 20 3 2 0 0 true 2 2 3 1 false = some true := by decide +kernel
  have B5 : q_becomes.f 20 3 1 0 1 true 0 0 0 0 false = some true := by decide +kernel
  have B6 : q_becomes.f 20 3 2 0 1 true 4 1 0 1 false = some true := by decide +kernel
  have F1 : door_Force.f 20 2 2 3 1 2 3 1 = some (5, 2, 0, 0, 0) := by decide +kernel
  have F2 : door_Force.f 20 1 0 0 0 2 3 1 = some (0, 0, 0, 0, 0) := by decide +kernel
  have R1 : door_Run.f 1 0 0 0 2 3 1 [false, false, false, false, false, false, false] = some (0, 0, 0, 0, [1], 0) := by decide +kernel
  have S1 : kit_SameInts.f 20 [1] [1] = some true := by decide +kernel
  have T1 : q_rests.f 1 0 0 0 7 13 = some true := by decide +kernel
  have T2 : q_rests.f 3 2 0 1 2 2 = some true := by decide +kernel
  have T3 : q_rests.f 0 0 0 0 0 0 = some true := by decide +kernel
  have T4 : q_awake.f 20 = some true := by decide +kernel
  have hmk : ∀ W : World, (Instr.makeSlice 40 (.int .i64 7) (.int .i64 7)).run Try.prog W = .ok (.slice (some ⟨W.heap.size, 0, none⟩) 7 7) (W.alloc (.cells #[.bool false, .bool false, .bool false, .bool false, .bool false, .bool false, .bool false] 4)) := fun W => by
    obtain ⟨i4, hi4, z0, z1, z2⟩ := info_parts info4
    have := run_makeSlice (P := Try.prog) (w := W) 40 4 i4 (.bool false) Try.underlying40 hi4 z0 .i64 .i64 7 7 (by decide) (by decide) (by rw [z1]; decide) (by rw [z2]; decide) (by decide)
    rw [z1, show madeCells (Value.bool false).cells (Int.toNat 7 * 1) = #[.bool false, .bool false, .bool false, .bool false, .bool false, .bool false, .bool false] from by kernel_rfl] at this
    exact this
  have HB := Aside0.mk (Below.refl w.heap.size w)
  go_enter Try.func8, Try.ntmps8
  go_upto_region 3 with (first
    | (go_at_call 20; refine (door_Worst.calls 2 3 0 7 0 _ K1).mono ?_; rintro e w1 ⟨rfl, hb⟩; have HB := Aside0.mk (below_step HB.out hb); clear hb)
    | (go_at_call 29; refine (q_rule.calls 2 3 1 _ K2).mono ?_; rintro e w2 ⟨rfl, hb⟩; have HB := Aside0.mk (below_step HB.out hb); clear hb)
    | (go_at_call 15; refine (door_Open.calls 20 0 0 0 0 2 3 1 1 0 0 0 0 _ K3).mono ?_; rintro e w3 ⟨rfl, hb⟩; have HB := Aside0.mk (below_step HB.out hb); clear hb))
  have L0 := below_size HB.out
  refine wp_abs (KM1 w w3.heap.size 1 0 0 0) ⟨below_alloc HB.out _, L0, blk_new _ _⟩ (fun v0 h0 => ?_)
  have HM := Aside0.mk h0
  generalize w3.heap.size = g3 at h0 HM ⊢
  clear HB h0 L0
  go_upto_region 4 with (first
    | (go_at_call 30; with_reducible refine (q_d.calls 1 0 0 0 1 0 0 0 _ rfl).mono ?_; rintro e v1 ⟨rfl, hb⟩; have HM := Aside0.mk (HM.out.step hb); clear hb)
    | (go_at_call 29; refine (q_rule.calls 2 3 1 _ K2).mono ?_; rintro e v2 ⟨rfl, hb⟩; have HM := Aside0.mk (HM.out.step hb); clear hb)
    | (go_at_call 15; refine (door_Open.calls 20 1 0 0 0 2 3 1 0 0 0 0 9 _ K4).mono ?_; rintro e v3 ⟨rfl, hb⟩; have HM := Aside0.mk (HM.out.step hb); clear hb))
  refine wp_abs (KM1 w g3 1 0 0 0) (HM.out.step (below_alloc (Below.refl _ _) _)) (fun u0 h0 => ?_)
  clear HM
  have c0 : u0.cell? ⟨g3, 0, none⟩ = some (.int .i64 1) := (blk_cell h0.at_ 0).trans rfl
  have c1 : u0.cell? ⟨g3, 1, none⟩ = some (.int .i64 0) := (blk_cell h0.at_ 1).trans rfl
  have c2 : u0.cell? ⟨g3, 2, none⟩ = some (.int .i64 0) := (blk_cell h0.at_ 2).trans rfl
  have c3 : u0.cell? ⟨g3, 3, none⟩ = some (.int .i64 0) := (blk_cell h0.at_ 3).trans rfl
  have HM := Aside0.mk (h0.step ((Below.refl _ u0).drew))
  clear h0
  go_region_held3 (fun w' => w'.cell? ⟨g3, 0, none⟩ = some (.int .i64 1) ∧ w'.cell? ⟨g3, 1, none⟩ = some (.int .i64 0) ∧ w'.cell? ⟨g3, 2, none⟩ = some (.int .i64 0) ∧ w'.cell? ⟨g3, 3, none⟩ = some (.int .i64 0)) ((first | exact ⟨c0, c1, c2, c3⟩ | exact HM.out.cells)) ((first
    | (go_at_call 30; with_reducible refine (q_d.calls 1 0 0 0 1 0 0 0 _ rfl).mono ?_; rintro e u1 ⟨rfl, hb⟩; have HM := Aside0.mk (HM.out.step hb); clear hb)))
  clear c0 c1 c2 c3
  go_upto_region 8 with (first
    | (go_at_call 30; with_reducible refine (q_d.calls 2 2 1 0 2 2 1 0 _ rfl).mono ?_; rintro e u2 ⟨rfl, hb⟩; have HM := Aside0.mk (HM.out.step hb); clear hb)
    | (go_at_call 30; with_reducible refine (q_d.calls 3 2 0 0 3 2 0 0 _ rfl).mono ?_; rintro e u2 ⟨rfl, hb⟩; have HM := Aside0.mk (HM.out.step hb); clear hb)
    | (go_at_call 30; with_reducible refine (q_d.calls 3 1 0 0 3 1 0 0 _ rfl).mono ?_; rintro e u2 ⟨rfl, hb⟩; have HM := Aside0.mk (HM.out.step hb); clear hb)
    | (go_at_call 30; with_reducible refine (q_d.calls 2 2 3 1 2 2 3 1 _ rfl).mono ?_; rintro e u2 ⟨rfl, hb⟩; have HM := Aside0.mk (HM.out.step hb); clear hb)
    | (go_at_call 30; with_reducible refine (q_d.calls 3 1 0 1 3 1 0 1 _ rfl).mono ?_; rintro e u2 ⟨rfl, hb⟩; have HM := Aside0.mk (HM.out.step hb); clear hb)
    | (go_at_call 30; with_reducible refine (q_d.calls 3 2 0 1 3 2 0 1 _ rfl).mono ?_; rintro e u2 ⟨rfl, hb⟩; have HM := Aside0.mk (HM.out.step hb); clear hb)
    | (go_at_call 30; with_reducible refine (q_d.calls 4 1 0 1 4 1 0 1 _ rfl).mono ?_; rintro e u2 ⟨rfl, hb⟩; have HM := Aside0.mk (HM.out.step hb); clear hb)
    | (go_at_call 31; with_reducible refine (q_becomes.calls 20 2 2 1 0 false 3 2 0 0 false true _ B1).mono ?_; rintro e u2 ⟨rfl, hb⟩; have HM := Aside0.mk (HM.out.step hb); clear hb)
    | (go_at_call 31; with_reducible refine (q_becomes.calls 20 3 2 0 0 false 3 1 0 0 false true _ B2).mono ?_; rintro e u2 ⟨rfl, hb⟩; have HM := Aside0.mk (HM.out.step hb); clear hb)
    | (go_at_call 31; with_reducible refine (q_becomes.calls 20 3 1 0 0 false 0 0 0 0 false true _ B3).mono ?_; rintro e u2 ⟨rfl, hb⟩; have HM := Aside0.mk (HM.out.step hb); clear hb)
    | (go_at_call 31; with_reducible refine (q_becomes.calls 20 3 2 0 0 true 2 2 3 1 false true _ B4).mono ?_; rintro e u2 ⟨rfl, hb⟩; have HM := Aside0.mk (HM.out.step hb); clear hb)
    | (go_at_call 31; with_reducible refine (q_becomes.calls 20 3 1 0 1 true 0 0 0 0 false true _ B5).mono ?_; rintro e u2 ⟨rfl, hb⟩; have HM := Aside0.mk (HM.out.step hb); clear hb)
    | (go_at_call 31; with_reducible refine (q_becomes.calls 20 3 2 0 1 true 4 1 0 1 false true _ B6).mono ?_; rintro e u2 ⟨rfl, hb⟩; have HM := Aside0.mk (HM.out.step hb); clear hb))
  go_upto_region 9 with (first
    | (go_at_call 30; with_reducible refine (q_d.calls 2 2 3 1 2 2 3 1 _ rfl).mono ?_; rintro e u3 ⟨rfl, hb⟩; have HM := Aside0.mk (HM.out.step hb); clear hb)
    | (go_at_call 29; refine (q_rule.calls 2 3 1 _ K2).mono ?_; rintro e u4 ⟨rfl, hb⟩; have HM := Aside0.mk (HM.out.step hb); clear hb)
    | (go_at_call 17; refine (door_Force.calls 20 2 2 3 1 2 3 1 5 2 0 0 0 _ F1).mono ?_; rintro e u5 ⟨rfl, hb⟩; have h0 := HM.out.step hb; obtain ⟨c0, c1, c2, c3⟩ := h0.cells; have f0 := blk_frozen h0.at_ 0; have f1 := blk_frozen h0.at_ 1; have f2 := blk_frozen h0.at_ 2; have f3 := blk_frozen h0.at_ 3; have HM := Aside0.mk h0; clear hb h0))
  refine wp_abs (KM1 w g3 5 2 0 0) ⟨below_store HM.out.below HM.out.lo _ _ _ _, HM.out.lo, blk_store HM.out.at_ _ _ _ _⟩ (fun v6 h0 => ?_)
  have HM := Aside0.mk h0
  clear h0 c0 c1 c2 c3 f0 f1 f2 f3
  go_upto_region 10 with (first
    | (go_at_call 30; with_reducible refine (q_d.calls 1 0 0 0 1 0 0 0 _ rfl).mono ?_; rintro e u6 ⟨rfl, hb⟩; have HM := Aside0.mk (HM.out.step hb); clear hb)
    | (go_at_call 29; refine (q_rule.calls 2 3 1 _ K2).mono ?_; rintro e u7 ⟨rfl, hb⟩; have HM := Aside0.mk (HM.out.step hb); clear hb)
    | (go_at_call 17; refine (door_Force.calls 20 1 0 0 0 2 3 1 0 0 0 0 0 _ F2).mono ?_; rintro e u8 ⟨rfl, hb⟩; have HM := Aside0.mk (HM.out.step hb); clear hb))
  refine wp_abs (KM2 w g3 u8.heap.size) ⟨HM.out.step (below_alloc (Below.refl _ _) _), ⟨below_alloc HM.out.below _, below_size HM.out.below, blk_new _ _⟩⟩ (fun y0 h0 => ?_)
  have HM := Aside0.mk h0
  generalize u8.heap.size = g7 at h0 HM ⊢
  clear h0
  go_cut [6, 8, 9] from 92 to 100 (fun v6 v8 v9 wc => v6 = .int .i64 0 ∧ ∃ g8, v8 = .pointer (some ⟨g8, 0, none⟩) ∧ KM3 w g3 g7 g8 v9 wc)
  case first =>
    have HMr := Aside0.mk (KM2.drew (KM2.alloc HM.out (.cells #[.bool false, .bool false, .bool false, .bool false, .bool false, .bool false, .bool false] 4)))
    have H8a := Aside0.mk (K8.drew (K8.new HM.out))
    have H8b := Aside0.mk (K8.drew (K8.alloc (K8.new HM.out) (.cells #[.bool false, .bool false, .bool false, .bool false, .bool false, .bool false, .bool false] 4)))
    have H8c := Aside0.mk (K8.drew (K8.new (KM2.alloc HM.out (.cells #[.bool false, .bool false, .bool false, .bool false, .bool false, .bool false, .bool false] 4))))
    have HM := Aside0.mk (HM.out.step ((Below.refl _ y0).drew))
    go_region_held3 (fun _ => True) (exact trivial) ((first
      | (go_at_call 30; with_reducible refine (q_d.calls 1 0 0 0 1 0 0 0 _ rfl).mono ?_; rintro e y1 ⟨rfl, hb⟩; (first | have H8 := Aside0.mk (K8.step H8.out hb) | have H8 := Aside0.mk (K8.step (K8.alloc H8.out (.cells #[.bool false, .bool false, .bool false, .bool false, .bool false, .bool false, .bool false] 4)) hb) | have H8 := Aside0.mk (K8.step (K8.alloc (K8.new HM.out) (.cells #[.bool false, .bool false, .bool false, .bool false, .bool false, .bool false, .bool false] 4)) hb) | have H8 := Aside0.mk (K8.step (K8.new (KM2.alloc HM.out (.cells #[.bool false, .bool false, .bool false, .bool false, .bool false, .bool false, .bool false] 4))) hb) | have H8 := Aside0.mk (K8.step (K8.new HM.out) hb) | have HM := Aside0.mk (KM2.step HM.out hb) | have HM := Aside0.mk (KM2.step (KM2.alloc HM.out (.cells #[.bool false, .bool false, .bool false, .bool false, .bool false, .bool false, .bool false] 4)) hb) | have H8 := Aside0.mk (K8.step H8a.out hb) | have H8 := Aside0.mk (K8.step H8b.out hb) | have H8 := Aside0.mk (K8.step H8c.out hb) | have HM := Aside0.mk (KM2.step HMr.out hb)); (try simp only [World.size_alloc] at H8); (first | have HR := Aside0.mk (blk_below HR.out hb) | have HR := Aside0.mk (blk_below (blk_alloc HR.out _) hb) | have HR := Aside0.mk (blk_below (blk_alloc (blk_new _ (.cells #[.bool false, .bool false, .bool false, .bool false, .bool false, .bool false, .bool false] 4)) (.cells #[.int .i64 0, .int .i64 0, .int .i64 0, .int .i64 0] 23)) hb) | have HR := Aside0.mk (blk_below (blk_new _ (.cells #[.bool false, .bool false, .bool false, .bool false, .bool false, .bool false, .bool false] 4)) hb) | have HR := Aside0.mk (blk_below (blk_drew (blk_new _ (.cells #[.bool false, .bool false, .bool false, .bool false, .bool false, .bool false, .bool false] 4))) hb) | have HR := Aside0.mk (blk_below (blk_drew (blk_alloc (blk_new _ (.cells #[.bool false, .bool false, .bool false, .bool false, .bool false, .bool false, .bool false] 4)) (.cells #[.int .i64 0, .int .i64 0, .int .i64 0, .int .i64 0] 23))) hb) | skip); (try simp only [World.size_alloc] at HR); clear hb)
      | (go_at_call 29; refine (q_rule.calls 2 3 1 _ K2).mono ?_; rintro e y2 ⟨rfl, hb⟩; (first | have H8 := Aside0.mk (K8.step H8.out hb) | have H8 := Aside0.mk (K8.step (K8.alloc H8.out (.cells #[.bool false, .bool false, .bool false, .bool false, .bool false, .bool false, .bool false] 4)) hb) | have H8 := Aside0.mk (K8.step (K8.alloc (K8.new HM.out) (.cells #[.bool false, .bool false, .bool false, .bool false, .bool false, .bool false, .bool false] 4)) hb) | have H8 := Aside0.mk (K8.step (K8.new (KM2.alloc HM.out (.cells #[.bool false, .bool false, .bool false, .bool false, .bool false, .bool false, .bool false] 4))) hb) | have H8 := Aside0.mk (K8.step (K8.new HM.out) hb) | have HM := Aside0.mk (KM2.step HM.out hb) | have HM := Aside0.mk (KM2.step (KM2.alloc HM.out (.cells #[.bool false, .bool false, .bool false, .bool false, .bool false, .bool false, .bool false] 4)) hb) | have H8 := Aside0.mk (K8.step H8a.out hb) | have H8 := Aside0.mk (K8.step H8b.out hb) | have H8 := Aside0.mk (K8.step H8c.out hb) | have HM := Aside0.mk (KM2.step HMr.out hb)); (try simp only [World.size_alloc] at H8); (first | have HR := Aside0.mk (blk_below HR.out hb) | have HR := Aside0.mk (blk_below (blk_alloc HR.out _) hb) | have HR := Aside0.mk (blk_below (blk_alloc (blk_new _ (.cells #[.bool false, .bool false, .bool false, .bool false, .bool false, .bool false, .bool false] 4)) (.cells #[.int .i64 0, .int .i64 0, .int .i64 0, .int .i64 0] 23)) hb) | have HR := Aside0.mk (blk_below (blk_new _ (.cells #[.bool false, .bool false, .bool false, .bool false, .bool false, .bool false, .bool false] 4)) hb) | have HR := Aside0.mk (blk_below (blk_drew (blk_new _ (.cells #[.bool false, .bool false, .bool false, .bool false, .bool false, .bool false, .bool false] 4))) hb) | have HR := Aside0.mk (blk_below (blk_drew (blk_alloc (blk_new _ (.cells #[.bool false, .bool false, .bool false, .bool false, .bool false, .bool false, .bool false] 4)) (.cells #[.int .i64 0, .int .i64 0, .int .i64 0, .int .i64 0] 23))) hb) | skip); (try simp only [World.size_alloc] at HR); clear hb)
      | (go_at_call 24; refine (door_Run.calls 1 0 0 0 2 3 1 _ 7 [false, false, false, false, false, false, false] 0 0 0 0 [1] 0 _ (rowC (by first | exact HR.out | exact blk_alloc HR.out _ | exact blk_new _ _ | exact blk_alloc (blk_new _ _) _ | exact blk_newN _ _ (by simp))) (by decide) R1).mono ?_; rintro e y3 ⟨v9, rfl, hR, hb⟩; (first | have H9 := Aside0.mk (K8.stepR H8.out hb hR) | have H9 := Aside0.mk (K8.stepR (K8.alloc H8.out (.cells #[.bool false, .bool false, .bool false, .bool false, .bool false, .bool false, .bool false] 4)) hb hR) | have H9 := Aside0.mk (K8.stepR (K8.alloc (K8.new HM.out) (.cells #[.bool false, .bool false, .bool false, .bool false, .bool false, .bool false, .bool false] 4)) hb hR) | have H9 := Aside0.mk (K8.stepR (K8.new (KM2.alloc HM.out (.cells #[.bool false, .bool false, .bool false, .bool false, .bool false, .bool false, .bool false] 4))) hb hR) | have H9 := Aside0.mk (K8.stepR (K8.new HM.out) hb hR) | (have HO := Aside0.mk (Kd.R_lower (base' := w.heap.size) hR (by have := below_size HM.out.a.below; simp; omega)); have HM := Aside0.mk (KM2.step HM.out hb)) | (have HO := Aside0.mk (Kd.R_lower (base' := w.heap.size) hR (by have := below_size HM.out.a.below; simp; omega)); have HM := Aside0.mk (KM2.step (KM2.alloc HM.out (.cells #[.bool false, .bool false, .bool false, .bool false, .bool false, .bool false, .bool false] 4)) hb))); (try simp only [World.size_alloc] at H9); clear hb; try (obtain ⟨c0, c1, c2, c3⟩ := H9.out.k.c.cells; have f0 := blk_frozen H9.out.k.c.at_ 0; have f1 := blk_frozen H9.out.k.c.at_ 1; have f2 := blk_frozen H9.out.k.c.at_ 2; have f3 := blk_frozen H9.out.k.c.at_ 3))))
    all_goals
      go_wp2
      go_meet
      first
        | exact ⟨rfl, _, rfl, H9.out.done⟩
        | exact ⟨rfl, _, rfl, K8.done (K8.new HM.out) (Kd.R_alloc HO.out _)⟩
  case rest =>
    obtain ⟨rfl, g8, rfl, h0⟩ := hcut
    obtain ⟨A9, c9, rfl⟩ := Kd.R_slice h0.r
    obtain ⟨a0, a1, a2, a3⟩ := h0.a.cells
    obtain ⟨b0, b1, b2, b3⟩ := h0.b.cells
    obtain ⟨c0, c1, c2, c3⟩ := h0.c.cells
    have HM := Aside0.mk (h0.step ((Below.refl _ wc).drew))
    clear h0
    go_upto_region 11 with fail
    go_region_held3 (fun w' => w'.cell? ⟨g3, 0, none⟩ = some (.int .i64 5) ∧ w'.cell? ⟨g3, 1, none⟩ = some (.int .i64 2) ∧ w'.cell? ⟨g3, 2, none⟩ = some (.int .i64 0) ∧ w'.cell? ⟨g3, 3, none⟩ = some (.int .i64 0) ∧ w'.cell? ⟨g7, 0, none⟩ = some (.int .i64 0) ∧ w'.cell? ⟨g7, 1, none⟩ = some (.int .i64 0) ∧ w'.cell? ⟨g7, 2, none⟩ = some (.int .i64 0) ∧ w'.cell? ⟨g7, 3, none⟩ = some (.int .i64 0) ∧ w'.cell? ⟨g8, 0, none⟩ = some (.int .i64 0) ∧ w'.cell? ⟨g8, 1, none⟩ = some (.int .i64 0) ∧ w'.cell? ⟨g8, 2, none⟩ = some (.int .i64 0) ∧ w'.cell? ⟨g8, 3, none⟩ = some (.int .i64 0)) ((first | exact ⟨a0, a1, a2, a3, b0, b1, b2, b3, c0, c1, c2, c3⟩ | exact HM.out.cells | exact (HM.out.step (below_alloc (Below.refl _ _) _)).cells)) ((first
      | (go_at_call 30; with_reducible refine (q_d.calls 5 2 0 0 5 2 0 0 _ rfl).mono ?_; rintro e z1 ⟨rfl, hb⟩; have HM := Aside0.mk (HM.out.step hb); clear hb)
      | (go_at_call 30; with_reducible refine (q_d.calls 1 0 0 0 1 0 0 0 _ rfl).mono ?_; rintro e z1 ⟨rfl, hb⟩; have HM := Aside0.mk (HM.out.step hb); clear hb)
      | (go_at_call 30; with_reducible refine (q_d.calls 3 2 0 1 3 2 0 1 _ rfl).mono ?_; rintro e z1 ⟨rfl, hb⟩; have HM := Aside0.mk (HM.out.step hb); clear hb)
      | (go_at_call 32; with_reducible refine (q_rests.calls 1 0 0 0 7 13 true _ T1).mono ?_; rintro e z1 ⟨rfl, hb⟩; have HM := Aside0.mk (HM.out.step hb); clear hb)
      | (go_at_call 32; with_reducible refine (q_rests.calls 3 2 0 1 2 2 true _ T2).mono ?_; rintro e z1 ⟨rfl, hb⟩; have HM := Aside0.mk (HM.out.step hb); clear hb)
      | (go_at_call 32; with_reducible refine (q_rests.calls 0 0 0 0 0 0 true _ T3).mono ?_; rintro e z1 ⟨rfl, hb⟩; have HM := Aside0.mk (HM.out.step hb); clear hb)
      | (go_at_call 19; with_reducible refine (q_awake.calls 20 true _ T4).mono ?_; rintro e z1 ⟨rfl, hb⟩; have HM := Aside0.mk (HM.out.step hb); clear hb)
      | (go_at_call 26; refine (kit_SameInts.calls 20 A9 c9 [1] (some _) 1 [1] true _ ?s1 ?s2 ?s3 ?s4 S1).mono ?_; (case s1 => exact Kd.C_alloc (Kd.R_reads' HM.out.r).2.2 _); (case s2 => exact (Kd.R_reads' HM.out.r).2.1); (case s3 => exact rowI (blk_new _ _)); (case s4 => decide); rintro e z2 ⟨rfl, hd⟩; have hb := hd.below; have HM := Aside0.mk ((HM.out.step (below_alloc (Below.refl _ _) _)).step hb); clear hb hd)))
    all_goals
      go_wp2
      exact bodyPost_ret (v := .bool true) (by simp [results, Try.results8, go_sem]) rfl ⟨rfl, HM.out.a.below⟩

/-- Nothing is left to be shown in plain Lean. -/
def q_DoorKnown.Pure : Prop := True
theorem q_DoorKnown.walk (P : q_DoorKnown.Pure) (w : World) : Calls Try.prog 8 #[] w fun e w' => e = .returned (.bool true) ∧ Below w.heap.size w w' := known_calls w
end Go.Proofs.Ytofffhnhinolnaa.P
