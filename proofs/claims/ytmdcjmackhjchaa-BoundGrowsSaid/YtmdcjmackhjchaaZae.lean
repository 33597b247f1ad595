import Derived.Test.YtmdcjmackhjchaaZad
import Derived.Deep.RegionHeld3
section
/- config.fields: where the whole numbers of a configuration lie, and their bounds: walked by hand. -/
namespace Go.Proofs.Ytmdcjmackhjchaa.P
open Go.RowKit Go.Proofs.YtmdcjmackhjchaaW.PrintWords Go.Proofs.YtmdcjmackhjchaaW.PrintLast Go.Proofs.YtmdcjmackhjchaaW.PrintMore
attribute [local go_sem] cell_same1 cell_some1
set_option linter.unusedVariables false
set_option linter.unusedSimpArgs false

abbrev fld (s : Array UInt8) (g o : Nat) (lo hi : Int) : List Value := [.string ⟨s⟩, .pointer (some ⟨g, o, none⟩), .int .i64 lo, .int .i64 hi]
/-- What config.fields returns: the rows' cells. -/
abbrev fcells (g : Nat) (e : Int) : List Value :=
 fld #[102, 108, 111, 111, 114, 115] g 0 2 64 ++ fld #[99, 97, 114, 115] g 2 1 8 ++ fld #[115, 112, 101, 101, 100] g 3 1 20 ++ fld #[98, 114, 97, 107, 101] g 4 0 5 ++ fld #[116, 111, 108] g 5 0 20 ++
 fld #[119, 105, 100, 116, 104] g 6 1 20 ++ fld #[100, 119, 101, 108, 108] g 7 1 50 ++ fld #[114, 101, 116, 114, 105, 101, 115] g 8 0 5 ++ fld #[101, 109, 112, 116, 121] g 9 0 10000 ++ fld #[102, 117, 108, 108] g 10 (IntKind.i64.wrap (e + 1)) 10000 ++
 fld #[116, 114, 105, 112, 115] g 11 1 16 ++ fld #[115, 108, 111, 116, 115] g 12 1 24 ++ fld #[108, 105, 102, 101] g 24 1 100000

theorem put_size (a : Act) (d : Nat) (v : Value) : (Act.put a (some d) v).tmps.size = a.tmps.size := by simp [Act.put]
theorem put_defers (a : Act) (d : Nat) (v : Value) : (Act.put a (some d) v).defers = a.defers := rfl
theorem put_at {a : Act} {d : Nat} {v : Value} (h : d < a.tmps.size) : (Act.put a (some d) v).tmps[d]? = some v := by simp [Act.put, Array.getElem?_setIfInBounds, h]
theorem put_off {a : Act} {d k : Nat} {v : Value} (h : d ≠ k) : (Act.put a (some d) v).tmps[k]? = a.tmps[k]? := by simp [Act.put, Array.getElem?_setIfInBounds, h]

theorem Below_setCells {n : Nat} {w W : World} (h : Below n w W) {g : Nat} (hg : n ≤ g) : ∀ (vs : List Value) (o : Nat), Below n w (W.setCells g o vs) := by
 intro vs
 induction vs generalizing W with
 | nil => intro o; exact h
 | cons v r ih => intro o; exact ih (h.setCell hg _) (o + 1)

set_option maxHeartbeats 8000000 in
set_option maxRecDepth 100000 in
/-- What follows the region. -/
theorem fields_end {Post : Ending → World → Prop} (b : Act) (W : World) (r : Nat) (h3 : b.tmps[3]? = some (.pointer (some ⟨r, 0, none⟩))) (hs : b.tmps.size = 63) (hd : b.defers = []) (h : Post (.returned (.slice (some ⟨r, 0, none⟩) 13 13)) W) :
  Code.wp Try.prog ((Code.region 2 #[{ dst := some 62, op := Op.slice 74 (Operand.tmp 3) none none none, type := 61, pos := "config.go:27", after := #[], guard := none }, { dst := some 2, op := Op.assign (Operand.tmp 62), type := 61, pos := "config.go:27", after := #[{ on := 0, ground := Ground.data }, { on := 0, ground := Ground.phase }], guard := none }] false).seq Code.ret)
   (bodyPost Try.prog Try.f30 Post) b W := by
 have HS := Aside0.mk hs
 have HD := Aside0.mk hd
 have HP := Aside0.mk h
 have hu74 := Try.underlying74
 clear hs hd h
 go_wp2
 ·have hs := HS.out
  refine bodyPost_ret ?_ HD.out HP.out
  simp [results, Try.results30, go_sem, hs]
 ·exact absurd (show 62 < b.tmps.size by rw [HS.out]; decide) h

set_option maxHeartbeats 8000000 in
set_option maxRecDepth 100000 in
theorem fields_calls (c : Cfg) (g : Nat) (w : World) (hg : w.heap[g]? = some (.cells c.cells 29)) :
  Calls Try.prog 30 #[.pointer (some ⟨g, 0, none⟩)] w fun e w' => ∃ r : Nat, e = .returned (.slice (some ⟨r, 0, none⟩) 13 13) ∧ w.heap.size ≤ r ∧ w'.heap[r]? = some (.cells (fcells g c.empty).toArray 74) ∧ Below w.heap.size w w' := by
 have HG := Aside0.mk hg
 go_enter Try.func30, Try.ntmps30
 go_upto_region 1 with fail
 rename_i Q1 K1 hK1
 have h9 : w.drew.cell? ⟨g, 9, none⟩ = some (.int .i64 c.empty) := (blk_cell (blk_drew hg) 9).trans rfl
 refine wp_region_J (fun W => W.cell? ⟨g, 9, none⟩ = some (.int .i64 c.empty)) 99 (by kernel_rfl) h9 (fun hS => ?_)
 generalize hA : Act.mk _ _ = a0
 have sz : Aside0 (a0.tmps.size = 63) := ⟨by rw [← hA]; rfl⟩
 have ddz : Aside0 (a0.defers = []) := ⟨by rw [← hA]⟩
 have fz_0 : a0.tmps[0]? = some (.pointer (some ⟨g, 0, none⟩)) := by rw [← hA]; rfl
 clear hA
 refine wpAnyJ_take (i := 0) (d := some 4) (v := .pointer (some ⟨g, 0, none⟩)) rfl (by kernel_rfl) (by kernel_rfl) (by decide +kernel) (by decide +kernel) (by decide +kernel) (by decide) (by decide +kernel) (fun _ _ _ h => h) (Or.inl ⟨by rfl, by (intro w hSw; (try dsimp only at hSw); go_simp; first | done | exact rfl)⟩) hS ?_
 generalize hb : Act.put _ _ _ = b0
 have s0 : Aside0 (b0.tmps.size = 63) := ⟨by rw [← hb]; exact (put_size _ _ _).trans sz.out⟩
 have dd0 : Aside0 (b0.defers = []) := ⟨by rw [← hb]; exact (put_defers _ _ _).trans ddz.out⟩
 have f0_0 : b0.tmps[0]? = some (.pointer (some ⟨g, 0, none⟩)) := by rw [← hb]; exact (put_off (by decide)).trans fz_0
 have f0_4 : b0.tmps[4]? = some (.pointer (some ⟨g, 0, none⟩)) := by rw [← hb]; exact put_at (by rw [sz.out]; decide)
 clear hb fz_0 sz ddz
 refine wpAnyJ_take (i := 1) (d := some 5) (v := .pointer (some ⟨g, 0, none⟩)) rfl (by kernel_rfl) (by kernel_rfl) (by decide +kernel) (by decide +kernel) (by decide +kernel) (by decide) (by decide +kernel) (fun _ _ _ h => h) (Or.inl ⟨by rfl, by (intro w hSw; (try dsimp only at hSw); go_simp; first | done | exact rfl)⟩) hS ?_
 generalize hb : Act.put _ _ _ = b1
 have s1 : Aside0 (b1.tmps.size = 63) := ⟨by rw [← hb]; exact (put_size _ _ _).trans s0.out⟩
 have dd1 : Aside0 (b1.defers = []) := ⟨by rw [← hb]; exact (put_defers _ _ _).trans dd0.out⟩
 have f1_0 : b1.tmps[0]? = some (.pointer (some ⟨g, 0, none⟩)) := by rw [← hb]; exact (put_off (by decide)).trans f0_0
 have f1_5 : b1.tmps[5]? = some (.pointer (some ⟨g, 0, none⟩)) := by rw [← hb]; exact put_at (by rw [s0.out]; decide)
 clear hb f0_0 f0_4 s0 dd0
 refine wpAnyJ_take (i := 2) (d := some 6) (v := .pointer (some ⟨g, 0, none⟩)) rfl (by kernel_rfl) (by kernel_rfl) (by decide +kernel) (by decide +kernel) (by decide +kernel) (by decide) (by decide +kernel) (fun _ _ _ h => h) (Or.inl ⟨by rfl, by (intro w hSw; (try dsimp only at hSw); go_simp; first | done | exact rfl)⟩) hS ?_
 generalize hb : Act.put _ _ _ = b2
 have s2 : Aside0 (b2.tmps.size = 63) := ⟨by rw [← hb]; exact (put_size _ _ _).trans s1.out⟩
 have dd2 : Aside0 (b2.defers = []) := ⟨by rw [← hb]; exact (put_defers _ _ _).trans dd1.out⟩
 have f2_0 : b2.tmps[0]? = some (.pointer (some ⟨g, 0, none⟩)) := by rw [← hb]; exact (put_off (by decide)).trans f1_0
 have f2_6 : b2.tmps[6]? = some (.pointer (some ⟨g, 0, none⟩)) := by rw [← hb]; exact put_at (by rw [s1.out]; decide)
 clear hb f1_0 f1_5 s1 dd1
 refine wpAnyJ_take (i := 3) (d := some 7) (v := .agg #[.string ⟨#[102, 108, 111, 111, 114, 115]⟩, .pointer (some ⟨g, 0, none⟩), .int .i64 2, .int .i64 64]) rfl (by kernel_rfl) (by kernel_rfl) (by decide +kernel) (by decide +kernel) (by decide +kernel) (by decide) (by decide +kernel) (fun _ _ _ h => h) (Or.inl ⟨by rfl, by (intro w hSw; (try dsimp only at hSw); go_simp; first | done | exact rfl)⟩) hS ?_
 generalize hb : Act.put _ _ _ = b3
 have s3 : Aside0 (b3.tmps.size = 63) := ⟨by rw [← hb]; exact (put_size _ _ _).trans s2.out⟩
 have dd3 : Aside0 (b3.defers = []) := ⟨by rw [← hb]; exact (put_defers _ _ _).trans dd2.out⟩
 have f3_0 : b3.tmps[0]? = some (.pointer (some ⟨g, 0, none⟩)) := by rw [← hb]; exact (put_off (by decide)).trans f2_0
 have f3_7 : b3.tmps[7]? = some (.agg #[.string ⟨#[102, 108, 111, 111, 114, 115]⟩, .pointer (some ⟨g, 0, none⟩), .int .i64 2, .int .i64 64]) := by rw [← hb]; exact put_at (by rw [s2.out]; decide)
 clear hb f2_0 f2_6 s2 dd2
 refine wpAnyJ_take (i := 4) (d := some 8) (v := .pointer (some ⟨g, 0, none⟩)) rfl (by kernel_rfl) (by kernel_rfl) (by decide +kernel) (by decide +kernel) (by decide +kernel) (by decide) (by decide +kernel) (fun _ _ _ h => h) (Or.inl ⟨by rfl, by (intro w hSw; (try dsimp only at hSw); go_simp; first | done | exact rfl)⟩) hS ?_
 generalize hb : Act.put _ _ _ = b4
 have s4 : Aside0 (b4.tmps.size = 63) := ⟨by rw [← hb]; exact (put_size _ _ _).trans s3.out⟩
 have dd4 : Aside0 (b4.defers = []) := ⟨by rw [← hb]; exact (put_defers _ _ _).trans dd3.out⟩
 have f4_0 : b4.tmps[0]? = some (.pointer (some ⟨g, 0, none⟩)) := by rw [← hb]; exact (put_off (by decide)).trans f3_0
 have f4_7 : b4.tmps[7]? = some (.agg #[.string ⟨#[102, 108, 111, 111, 114, 115]⟩, .pointer (some ⟨g, 0, none⟩), .int .i64 2, .int .i64 64]) := by rw [← hb]; exact (put_off (by decide)).trans f3_7
 have f4_8 : b4.tmps[8]? = some (.pointer (some ⟨g, 0, none⟩)) := by rw [← hb]; exact put_at (by rw [s3.out]; decide)
 clear hb f3_0 f3_7 s3 dd3
 refine wpAnyJ_take (i := 5) (d := some 9) (v := .pointer (some ⟨g, 0, none⟩)) rfl (by kernel_rfl) (by kernel_rfl) (by decide +kernel) (by decide +kernel) (by decide +kernel) (by decide) (by decide +kernel) (fun _ _ _ h => h) (Or.inl ⟨by rfl, by (intro w hSw; (try dsimp only at hSw); go_simp; first | done | exact rfl)⟩) hS ?_
 generalize hb : Act.put _ _ _ = b5
 have s5 : Aside0 (b5.tmps.size = 63) := ⟨by rw [← hb]; exact (put_size _ _ _).trans s4.out⟩
 have dd5 : Aside0 (b5.defers = []) := ⟨by rw [← hb]; exact (put_defers _ _ _).trans dd4.out⟩
 have f5_0 : b5.tmps[0]? = some (.pointer (some ⟨g, 0, none⟩)) := by rw [← hb]; exact (put_off (by decide)).trans f4_0
 have f5_7 : b5.tmps[7]? = some (.agg #[.string ⟨#[102, 108, 111, 111, 114, 115]⟩, .pointer (some ⟨g, 0, none⟩), .int .i64 2, .int .i64 64]) := by rw [← hb]; exact (put_off (by decide)).trans f4_7
 have f5_9 : b5.tmps[9]? = some (.pointer (some ⟨g, 0, none⟩)) := by rw [← hb]; exact put_at (by rw [s4.out]; decide)
 clear hb f4_0 f4_7 f4_8 s4 dd4
 refine wpAnyJ_take (i := 6) (d := some 10) (v := .pointer (some ⟨g, 2, none⟩)) rfl (by kernel_rfl) (by kernel_rfl) (by decide +kernel) (by decide +kernel) (by decide +kernel) (by decide) (by decide +kernel) (fun _ _ _ h => h) (Or.inl ⟨by rfl, by (intro w hSw; (try dsimp only at hSw); go_simp; first | done | exact rfl)⟩) hS ?_
 generalize hb : Act.put _ _ _ = b6
 have s6 : Aside0 (b6.tmps.size = 63) := ⟨by rw [← hb]; exact (put_size _ _ _).trans s5.out⟩
 have dd6 : Aside0 (b6.defers = []) := ⟨by rw [← hb]; exact (put_defers _ _ _).trans dd5.out⟩
 have f6_0 : b6.tmps[0]? = some (.pointer (some ⟨g, 0, none⟩)) := by rw [← hb]; exact (put_off (by decide)).trans f5_0
 have f6_7 : b6.tmps[7]? = some (.agg #[.string ⟨#[102, 108, 111, 111, 114, 115]⟩, .pointer (some ⟨g, 0, none⟩), .int .i64 2, .int .i64 64]) := by rw [← hb]; exact (put_off (by decide)).trans f5_7
 have f6_10 : b6.tmps[10]? = some (.pointer (some ⟨g, 2, none⟩)) := by rw [← hb]; exact put_at (by rw [s5.out]; decide)
 clear hb f5_0 f5_7 f5_9 s5 dd5
 refine wpAnyJ_take (i := 7) (d := some 11) (v := .agg #[.string ⟨#[99, 97, 114, 115]⟩, .pointer (some ⟨g, 2, none⟩), .int .i64 1, .int .i64 8]) rfl (by kernel_rfl) (by kernel_rfl) (by decide +kernel) (by decide +kernel) (by decide +kernel) (by decide) (by decide +kernel) (fun _ _ _ h => h) (Or.inl ⟨by rfl, by (intro w hSw; (try dsimp only at hSw); go_simp; first | done | exact rfl)⟩) hS ?_
 generalize hb : Act.put _ _ _ = b7
 have s7 : Aside0 (b7.tmps.size = 63) := ⟨by rw [← hb]; exact (put_size _ _ _).trans s6.out⟩
 have dd7 : Aside0 (b7.defers = []) := ⟨by rw [← hb]; exact (put_defers _ _ _).trans dd6.out⟩
 have f7_0 : b7.tmps[0]? = some (.pointer (some ⟨g, 0, none⟩)) := by rw [← hb]; exact (put_off (by decide)).trans f6_0
 have f7_7 : b7.tmps[7]? = some (.agg #[.string ⟨#[102, 108, 111, 111, 114, 115]⟩, .pointer (some ⟨g, 0, none⟩), .int .i64 2, .int .i64 64]) := by rw [← hb]; exact (put_off (by decide)).trans f6_7
 have f7_11 : b7.tmps[11]? = some (.agg #[.string ⟨#[99, 97, 114, 115]⟩, .pointer (some ⟨g, 2, none⟩), .int .i64 1, .int .i64 8]) := by rw [← hb]; exact put_at (by rw [s6.out]; decide)
 clear hb f6_0 f6_7 f6_10 s6 dd6
 refine wpAnyJ_take (i := 8) (d := some 12) (v := .pointer (some ⟨g, 0, none⟩)) rfl (by kernel_rfl) (by kernel_rfl) (by decide +kernel) (by decide +kernel) (by decide +kernel) (by decide) (by decide +kernel) (fun _ _ _ h => h) (Or.inl ⟨by rfl, by (intro w hSw; (try dsimp only at hSw); go_simp; first | done | exact rfl)⟩) hS ?_
 generalize hb : Act.put _ _ _ = b8
 have s8 : Aside0 (b8.tmps.size = 63) := ⟨by rw [← hb]; exact (put_size _ _ _).trans s7.out⟩
 have dd8 : Aside0 (b8.defers = []) := ⟨by rw [← hb]; exact (put_defers _ _ _).trans dd7.out⟩
 have f8_0 : b8.tmps[0]? = some (.pointer (some ⟨g, 0, none⟩)) := by rw [← hb]; exact (put_off (by decide)).trans f7_0
 have f8_7 : b8.tmps[7]? = some (.agg #[.string ⟨#[102, 108, 111, 111, 114, 115]⟩, .pointer (some ⟨g, 0, none⟩), .int .i64 2, .int .i64 64]) := by rw [← hb]; exact (put_off (by decide)).trans f7_7
 have f8_11 : b8.tmps[11]? = some (.agg #[.string ⟨#[99, 97, 114, 115]⟩, .pointer (some ⟨g, 2, none⟩), .int .i64 1, .int .i64 8]) := by rw [← hb]; exact (put_off (by decide)).trans f7_11
 have f8_12 : b8.tmps[12]? = some (.pointer (some ⟨g, 0, none⟩)) := by rw [← hb]; exact put_at (by rw [s7.out]; decide)
 clear hb f7_0 f7_7 f7_11 s7 dd7
 refine wpAnyJ_take (i := 9) (d := some 13) (v := .pointer (some ⟨g, 0, none⟩)) rfl (by kernel_rfl) (by kernel_rfl) (by decide +kernel) (by decide +kernel) (by decide +kernel) (by decide) (by decide +kernel) (fun _ _ _ h => h) (Or.inl ⟨by rfl, by (intro w hSw; (try dsimp only at hSw); go_simp; first | done | exact rfl)⟩) hS ?_
 generalize hb : Act.put _ _ _ = b9
 have s9 : Aside0 (b9.tmps.size = 63) := ⟨by rw [← hb]; exact (put_size _ _ _).trans s8.out⟩
 have dd9 : Aside0 (b9.defers = []) := ⟨by rw [← hb]; exact (put_defers _ _ _).trans dd8.out⟩
 have f9_0 : b9.tmps[0]? = some (.pointer (some ⟨g, 0, none⟩)) := by rw [← hb]; exact (put_off (by decide)).trans f8_0
 have f9_7 : b9.tmps[7]? = some (.agg #[.string ⟨#[102, 108, 111, 111, 114, 115]⟩, .pointer (some ⟨g, 0, none⟩), .int .i64 2, .int .i64 64]) := by rw [← hb]; exact (put_off (by decide)).trans f8_7
 have f9_11 : b9.tmps[11]? = some (.agg #[.string ⟨#[99, 97, 114, 115]⟩, .pointer (some ⟨g, 2, none⟩), .int .i64 1, .int .i64 8]) := by rw [← hb]; exact (put_off (by decide)).trans f8_11
 have f9_13 : b9.tmps[13]? = some (.pointer (some ⟨g, 0, none⟩)) := by rw [← hb]; exact put_at (by rw [s8.out]; decide)
 clear hb f8_0 f8_7 f8_11 f8_12 s8 dd8
 refine wpAnyJ_take (i := 10) (d := some 14) (v := .pointer (some ⟨g, 3, none⟩)) rfl (by kernel_rfl) (by kernel_rfl) (by decide +kernel) (by decide +kernel) (by decide +kernel) (by decide) (by decide +kernel) (fun _ _ _ h => h) (Or.inl ⟨by rfl, by (intro w hSw; (try dsimp only at hSw); go_simp; first | done | exact rfl)⟩) hS ?_
 generalize hb : Act.put _ _ _ = b10
 have s10 : Aside0 (b10.tmps.size = 63) := ⟨by rw [← hb]; exact (put_size _ _ _).trans s9.out⟩
 have dd10 : Aside0 (b10.defers = []) := ⟨by rw [← hb]; exact (put_defers _ _ _).trans dd9.out⟩
 have f10_0 : b10.tmps[0]? = some (.pointer (some ⟨g, 0, none⟩)) := by rw [← hb]; exact (put_off (by decide)).trans f9_0
 have f10_7 : b10.tmps[7]? = some (.agg #[.string ⟨#[102, 108, 111, 111, 114, 115]⟩, .pointer (some ⟨g, 0, none⟩), .int .i64 2, .int .i64 64]) := by rw [← hb]; exact (put_off (by decide)).trans f9_7
 have f10_11 : b10.tmps[11]? = some (.agg #[.string ⟨#[99, 97, 114, 115]⟩, .pointer (some ⟨g, 2, none⟩), .int .i64 1, .int .i64 8]) := by rw [← hb]; exact (put_off (by decide)).trans f9_11
 have f10_14 : b10.tmps[14]? = some (.pointer (some ⟨g, 3, none⟩)) := by rw [← hb]; exact put_at (by rw [s9.out]; decide)
 clear hb f9_0 f9_7 f9_11 f9_13 s9 dd9
 refine wpAnyJ_take (i := 11) (d := some 15) (v := .agg #[.string ⟨#[115, 112, 101, 101, 100]⟩, .pointer (some ⟨g, 3, none⟩), .int .i64 1, .int .i64 20]) rfl (by kernel_rfl) (by kernel_rfl) (by decide +kernel) (by decide +kernel) (by decide +kernel) (by decide) (by decide +kernel) (fun _ _ _ h => h) (Or.inl ⟨by rfl, by (intro w hSw; (try dsimp only at hSw); go_simp; first | done | exact rfl)⟩) hS ?_
 generalize hb : Act.put _ _ _ = b11
 have s11 : Aside0 (b11.tmps.size = 63) := ⟨by rw [← hb]; exact (put_size _ _ _).trans s10.out⟩
 have dd11 : Aside0 (b11.defers = []) := ⟨by rw [← hb]; exact (put_defers _ _ _).trans dd10.out⟩
 have f11_0 : b11.tmps[0]? = some (.pointer (some ⟨g, 0, none⟩)) := by rw [← hb]; exact (put_off (by decide)).trans f10_0
 have f11_7 : b11.tmps[7]? = some (.agg #[.string ⟨#[102, 108, 111, 111, 114, 115]⟩, .pointer (some ⟨g, 0, none⟩), .int .i64 2, .int .i64 64]) := by rw [← hb]; exact (put_off (by decide)).trans f10_7
 have f11_11 : b11.tmps[11]? = some (.agg #[.string ⟨#[99, 97, 114, 115]⟩, .pointer (some ⟨g, 2, none⟩), .int .i64 1, .int .i64 8]) := by rw [← hb]; exact (put_off (by decide)).trans f10_11
 have f11_15 : b11.tmps[15]? = some (.agg #[.string ⟨#[115, 112, 101, 101, 100]⟩, .pointer (some ⟨g, 3, none⟩), .int .i64 1, .int .i64 20]) := by rw [← hb]; exact put_at (by rw [s10.out]; decide)
 clear hb f10_0 f10_7 f10_11 f10_14 s10 dd10
 refine wpAnyJ_take (i := 12) (d := some 16) (v := .pointer (some ⟨g, 0, none⟩)) rfl (by kernel_rfl) (by kernel_rfl) (by decide +kernel) (by decide +kernel) (by decide +kernel) (by decide) (by decide +kernel) (fun _ _ _ h => h) (Or.inl ⟨by rfl, by (intro w hSw; (try dsimp only at hSw); go_simp; first | done | exact rfl)⟩) hS ?_
 generalize hb : Act.put _ _ _ = b12
 have s12 : Aside0 (b12.tmps.size = 63) := ⟨by rw [← hb]; exact (put_size _ _ _).trans s11.out⟩
 have dd12 : Aside0 (b12.defers = []) := ⟨by rw [← hb]; exact (put_defers _ _ _).trans dd11.out⟩
 have f12_0 : b12.tmps[0]? = some (.pointer (some ⟨g, 0, none⟩)) := by rw [← hb]; exact (put_off (by decide)).trans f11_0
 have f12_7 : b12.tmps[7]? = some (.agg #[.string ⟨#[102, 108, 111, 111, 114, 115]⟩, .pointer (some ⟨g, 0, none⟩), .int .i64 2, .int .i64 64]) := by rw [← hb]; exact (put_off (by decide)).trans f11_7
 have f12_11 : b12.tmps[11]? = some (.agg #[.string ⟨#[99, 97, 114, 115]⟩, .pointer (some ⟨g, 2, none⟩), .int .i64 1, .int .i64 8]) := by rw [← hb]; exact (put_off (by decide)).trans f11_11
 have f12_15 : b12.tmps[15]? = some (.agg #[.string ⟨#[115, 112, 101, 101, 100]⟩, .pointer (some ⟨g, 3, none⟩), .int .i64 1, .int .i64 20]) := by rw [← hb]; exact (put_off (by decide)).trans f11_15
 have f12_16 : b12.tmps[16]? = some (.pointer (some ⟨g, 0, none⟩)) := by rw [← hb]; exact put_at (by rw [s11.out]; decide)
 clear hb f11_0 f11_7 f11_11 f11_15 s11 dd11
 refine wpAnyJ_take (i := 13) (d := some 17) (v := .pointer (some ⟨g, 0, none⟩)) rfl (by kernel_rfl) (by kernel_rfl) (by decide +kernel) (by decide +kernel) (by decide +kernel) (by decide) (by decide +kernel) (fun _ _ _ h => h) (Or.inl ⟨by rfl, by (intro w hSw; (try dsimp only at hSw); go_simp; first | done | exact rfl)⟩) hS ?_
 generalize hb : Act.put _ _ _ = b13
 have s13 : Aside0 (b13.tmps.size = 63) := ⟨by rw [← hb]; exact (put_size _ _ _).trans s12.out⟩
 have dd13 : Aside0 (b13.defers = []) := ⟨by rw [← hb]; exact (put_defers _ _ _).trans dd12.out⟩
 have f13_0 : b13.tmps[0]? = some (.pointer (some ⟨g, 0, none⟩)) := by rw [← hb]; exact (put_off (by decide)).trans f12_0
 have f13_7 : b13.tmps[7]? = some (.agg #[.string ⟨#[102, 108, 111, 111, 114, 115]⟩, .pointer (some ⟨g, 0, none⟩), .int .i64 2, .int .i64 64]) := by rw [← hb]; exact (put_off (by decide)).trans f12_7
 have f13_11 : b13.tmps[11]? = some (.agg #[.string ⟨#[99, 97, 114, 115]⟩, .pointer (some ⟨g, 2, none⟩), .int .i64 1, .int .i64 8]) := by rw [← hb]; exact (put_off (by decide)).trans f12_11
 have f13_15 : b13.tmps[15]? = some (.agg #[.string ⟨#[115, 112, 101, 101, 100]⟩, .pointer (some ⟨g, 3, none⟩), .int .i64 1, .int .i64 20]) := by rw [← hb]; exact (put_off (by decide)).trans f12_15
 have f13_17 : b13.tmps[17]? = some (.pointer (some ⟨g, 0, none⟩)) := by rw [← hb]; exact put_at (by rw [s12.out]; decide)
 clear hb f12_0 f12_7 f12_11 f12_15 f12_16 s12 dd12
 refine wpAnyJ_take (i := 14) (d := some 18) (v := .pointer (some ⟨g, 4, none⟩)) rfl (by kernel_rfl) (by kernel_rfl) (by decide +kernel) (by decide +kernel) (by decide +kernel) (by decide) (by decide +kernel) (fun _ _ _ h => h) (Or.inl ⟨by rfl, by (intro w hSw; (try dsimp only at hSw); go_simp; first | done | exact rfl)⟩) hS ?_
 generalize hb : Act.put _ _ _ = b14
 have s14 : Aside0 (b14.tmps.size = 63) := ⟨by rw [← hb]; exact (put_size _ _ _).trans s13.out⟩
 have dd14 : Aside0 (b14.defers = []) := ⟨by rw [← hb]; exact (put_defers _ _ _).trans dd13.out⟩
 have f14_0 : b14.tmps[0]? = some (.pointer (some ⟨g, 0, none⟩)) := by rw [← hb]; exact (put_off (by decide)).trans f13_0
 have f14_7 : b14.tmps[7]? = some (.agg #[.string ⟨#[102, 108, 111, 111, 114, 115]⟩, .pointer (some ⟨g, 0, none⟩), .int .i64 2, .int .i64 64]) := by rw [← hb]; exact (put_off (by decide)).trans f13_7
 have f14_11 : b14.tmps[11]? = some (.agg #[.string ⟨#[99, 97, 114, 115]⟩, .pointer (some ⟨g, 2, none⟩), .int .i64 1, .int .i64 8]) := by rw [← hb]; exact (put_off (by decide)).trans f13_11
 have f14_15 : b14.tmps[15]? = some (.agg #[.string ⟨#[115, 112, 101, 101, 100]⟩, .pointer (some ⟨g, 3, none⟩), .int .i64 1, .int .i64 20]) := by rw [← hb]; exact (put_off (by decide)).trans f13_15
 have f14_18 : b14.tmps[18]? = some (.pointer (some ⟨g, 4, none⟩)) := by rw [← hb]; exact put_at (by rw [s13.out]; decide)
 clear hb f13_0 f13_7 f13_11 f13_15 f13_17 s13 dd13
 refine wpAnyJ_take (i := 15) (d := some 19) (v := .agg #[.string ⟨#[98, 114, 97, 107, 101]⟩, .pointer (some ⟨g, 4, none⟩), .int .i64 0, .int .i64 5]) rfl (by kernel_rfl) (by kernel_rfl) (by decide +kernel) (by decide +kernel) (by decide +kernel) (by decide) (by decide +kernel) (fun _ _ _ h => h) (Or.inl ⟨by rfl, by (intro w hSw; (try dsimp only at hSw); go_simp; first | done | exact rfl)⟩) hS ?_
 generalize hb : Act.put _ _ _ = b15
 have s15 : Aside0 (b15.tmps.size = 63) := ⟨by rw [← hb]; exact (put_size _ _ _).trans s14.out⟩
 have dd15 : Aside0 (b15.defers = []) := ⟨by rw [← hb]; exact (put_defers _ _ _).trans dd14.out⟩
 have f15_0 : b15.tmps[0]? = some (.pointer (some ⟨g, 0, none⟩)) := by rw [← hb]; exact (put_off (by decide)).trans f14_0
 have f15_7 : b15.tmps[7]? = some (.agg #[.string ⟨#[102, 108, 111, 111, 114, 115]⟩, .pointer (some ⟨g, 0, none⟩), .int .i64 2, .int .i64 64]) := by rw [← hb]; exact (put_off (by decide)).trans f14_7
 have f15_11 : b15.tmps[11]? = some (.agg #[.string ⟨#[99, 97, 114, 115]⟩, .pointer (some ⟨g, 2, none⟩), .int .i64 1, .int .i64 8]) := by rw [← hb]; exact (put_off (by decide)).trans f14_11
 have f15_15 : b15.tmps[15]? = some (.agg #[.string ⟨#[115, 112, 101, 101, 100]⟩, .pointer (some ⟨g, 3, none⟩), .int .i64 1, .int .i64 20]) := by rw [← hb]; exact (put_off (by decide)).trans f14_15
 have f15_19 : b15.tmps[19]? = some (.agg #[.string ⟨#[98, 114, 97, 107, 101]⟩, .pointer (some ⟨g, 4, none⟩), .int .i64 0, .int .i64 5]) := by rw [← hb]; exact put_at (by rw [s14.out]; decide)
 clear hb f14_0 f14_7 f14_11 f14_15 f14_18 s14 dd14
 refine wpAnyJ_take (i := 16) (d := some 20) (v := .pointer (some ⟨g, 0, none⟩)) rfl (by kernel_rfl) (by kernel_rfl) (by decide +kernel) (by decide +kernel) (by decide +kernel) (by decide) (by decide +kernel) (fun _ _ _ h => h) (Or.inl ⟨by rfl, by (intro w hSw; (try dsimp only at hSw); go_simp; first | done | exact rfl)⟩) hS ?_
 generalize hb : Act.put _ _ _ = b16
 have s16 : Aside0 (b16.tmps.size = 63) := ⟨by rw [← hb]; exact (put_size _ _ _).trans s15.out⟩
 have dd16 : Aside0 (b16.defers = []) := ⟨by rw [← hb]; exact (put_defers _ _ _).trans dd15.out⟩
 have f16_0 : b16.tmps[0]? = some (.pointer (some ⟨g, 0, none⟩)) := by rw [← hb]; exact (put_off (by decide)).trans f15_0
 have f16_7 : b16.tmps[7]? = some (.agg #[.string ⟨#[102, 108, 111, 111, 114, 115]⟩, .pointer (some ⟨g, 0, none⟩), .int .i64 2, .int .i64 64]) := by rw [← hb]; exact (put_off (by decide)).trans f15_7
 have f16_11 : b16.tmps[11]? = some (.agg #[.string ⟨#[99, 97, 114, 115]⟩, .pointer (some ⟨g, 2, none⟩), .int .i64 1, .int .i64 8]) := by rw [← hb]; exact (put_off (by decide)).trans f15_11
 have f16_15 : b16.tmps[15]? = some (.agg #[.string ⟨#[115, 112, 101, 101, 100]⟩, .pointer (some ⟨g, 3, none⟩), .int .i64 1, .int .i64 20]) := by rw [← hb]; exact (put_off (by decide)).trans f15_15
 have f16_19 : b16.tmps[19]? = some (.agg #[.string ⟨#[98, 114, 97, 107, 101]⟩, .pointer (some ⟨g, 4, none⟩), .int .i64 0, .int .i64 5]) := by rw [← hb]; exact (put_off (by decide)).trans f15_19
 have f16_20 : b16.tmps[20]? = some (.pointer (some ⟨g, 0, none⟩)) := by rw [← hb]; exact put_at (by rw [s15.out]; decide)
 clear hb f15_0 f15_7 f15_11 f15_15 f15_19 s15 dd15
 refine wpAnyJ_take (i := 17) (d := some 21) (v := .pointer (some ⟨g, 0, none⟩)) rfl (by kernel_rfl) (by kernel_rfl) (by decide +kernel) (by decide +kernel) (by decide +kernel) (by decide) (by decide +kernel) (fun _ _ _ h => h) (Or.inl ⟨by rfl, by (intro w hSw; (try dsimp only at hSw); go_simp; first | done | exact rfl)⟩) hS ?_
 generalize hb : Act.put _ _ _ = b17
 have s17 : Aside0 (b17.tmps.size = 63) := ⟨by rw [← hb]; exact (put_size _ _ _).trans s16.out⟩
 have dd17 : Aside0 (b17.defers = []) := ⟨by rw [← hb]; exact (put_defers _ _ _).trans dd16.out⟩
 have f17_0 : b17.tmps[0]? = some (.pointer (some ⟨g, 0, none⟩)) := by rw [← hb]; exact (put_off (by decide)).trans f16_0
 have f17_7 : b17.tmps[7]? = some (.agg #[.string ⟨#[102, 108, 111, 111, 114, 115]⟩, .pointer (some ⟨g, 0, none⟩), .int .i64 2, .int .i64 64]) := by rw [← hb]; exact (put_off (by decide)).trans f16_7
 have f17_11 : b17.tmps[11]? = some (.agg #[.string ⟨#[99, 97, 114, 115]⟩, .pointer (some ⟨g, 2, none⟩), .int .i64 1, .int .i64 8]) := by rw [← hb]; exact (put_off (by decide)).trans f16_11
 have f17_15 : b17.tmps[15]? = some (.agg #[.string ⟨#[115, 112, 101, 101, 100]⟩, .pointer (some ⟨g, 3, none⟩), .int .i64 1, .int .i64 20]) := by rw [← hb]; exact (put_off (by decide)).trans f16_15
 have f17_19 : b17.tmps[19]? = some (.agg #[.string ⟨#[98, 114, 97, 107, 101]⟩, .pointer (some ⟨g, 4, none⟩), .int .i64 0, .int .i64 5]) := by rw [← hb]; exact (put_off (by decide)).trans f16_19
 have f17_21 : b17.tmps[21]? = some (.pointer (some ⟨g, 0, none⟩)) := by rw [← hb]; exact put_at (by rw [s16.out]; decide)
 clear hb f16_0 f16_7 f16_11 f16_15 f16_19 f16_20 s16 dd16
 refine wpAnyJ_take (i := 18) (d := some 22) (v := .pointer (some ⟨g, 5, none⟩)) rfl (by kernel_rfl) (by kernel_rfl) (by decide +kernel) (by decide +kernel) (by decide +kernel) (by decide) (by decide +kernel) (fun _ _ _ h => h) (Or.inl ⟨by rfl, by (intro w hSw; (try dsimp only at hSw); go_simp; first | done | exact rfl)⟩) hS ?_
 generalize hb : Act.put _ _ _ = b18
 have s18 : Aside0 (b18.tmps.size = 63) := ⟨by rw [← hb]; exact (put_size _ _ _).trans s17.out⟩
 have dd18 : Aside0 (b18.defers = []) := ⟨by rw [← hb]; exact (put_defers _ _ _).trans dd17.out⟩
 have f18_0 : b18.tmps[0]? = some (.pointer (some ⟨g, 0, none⟩)) := by rw [← hb]; exact (put_off (by decide)).trans f17_0
 have f18_7 : b18.tmps[7]? = some (.agg #[.string ⟨#[102, 108, 111, 111, 114, 115]⟩, .pointer (some ⟨g, 0, none⟩), .int .i64 2, .int .i64 64]) := by rw [← hb]; exact (put_off (by decide)).trans f17_7
 have f18_11 : b18.tmps[11]? = some (.agg #[.string ⟨#[99, 97, 114, 115]⟩, .pointer (some ⟨g, 2, none⟩), .int .i64 1, .int .i64 8]) := by rw [← hb]; exact (put_off (by decide)).trans f17_11
 have f18_15 : b18.tmps[15]? = some (.agg #[.string ⟨#[115, 112, 101, 101, 100]⟩, .pointer (some ⟨g, 3, none⟩), .int .i64 1, .int .i64 20]) := by rw [← hb]; exact (put_off (by decide)).trans f17_15
 have f18_19 : b18.tmps[19]? = some (.agg #[.string ⟨#[98, 114, 97, 107, 101]⟩, .pointer (some ⟨g, 4, none⟩), .int .i64 0, .int .i64 5]) := by rw [← hb]; exact (put_off (by decide)).trans f17_19
 have f18_22 : b18.tmps[22]? = some (.pointer (some ⟨g, 5, none⟩)) := by rw [← hb]; exact put_at (by rw [s17.out]; decide)
 clear hb f17_0 f17_7 f17_11 f17_15 f17_19 f17_21 s17 dd17
 refine wpAnyJ_take (i := 19) (d := some 23) (v := .agg #[.string ⟨#[116, 111, 108]⟩, .pointer (some ⟨g, 5, none⟩), .int .i64 0, .int .i64 20]) rfl (by kernel_rfl) (by kernel_rfl) (by decide +kernel) (by decide +kernel) (by decide +kernel) (by decide) (by decide +kernel) (fun _ _ _ h => h) (Or.inl ⟨by rfl, by (intro w hSw; (try dsimp only at hSw); go_simp; first | done | exact rfl)⟩) hS ?_
 generalize hb : Act.put _ _ _ = b19
 have s19 : Aside0 (b19.tmps.size = 63) := ⟨by rw [← hb]; exact (put_size _ _ _).trans s18.out⟩
 have dd19 : Aside0 (b19.defers = []) := ⟨by rw [← hb]; exact (put_defers _ _ _).trans dd18.out⟩
 have f19_0 : b19.tmps[0]? = some (.pointer (some ⟨g, 0, none⟩)) := by rw [← hb]; exact (put_off (by decide)).trans f18_0
 have f19_7 : b19.tmps[7]? = some (.agg #[.string ⟨#[102, 108, 111, 111, 114, 115]⟩, .pointer (some ⟨g, 0, none⟩), .int .i64 2, .int .i64 64]) := by rw [← hb]; exact (put_off (by decide)).trans f18_7
 have f19_11 : b19.tmps[11]? = some (.agg #[.string ⟨#[99, 97, 114, 115]⟩, .pointer (some ⟨g, 2, none⟩), .int .i64 1, .int .i64 8]) := by rw [← hb]; exact (put_off (by decide)).trans f18_11
 have f19_15 : b19.tmps[15]? = some (.agg #[.string ⟨#[115, 112, 101, 101, 100]⟩, .pointer (some ⟨g, 3, none⟩), .int .i64 1, .int .i64 20]) := by rw [← hb]; exact (put_off (by decide)).trans f18_15
 have f19_19 : b19.tmps[19]? = some (.agg #[.string ⟨#[98, 114, 97, 107, 101]⟩, .pointer (some ⟨g, 4, none⟩), .int .i64 0, .int .i64 5]) := by rw [← hb]; exact (put_off (by decide)).trans f18_19
 have f19_23 : b19.tmps[23]? = some (.agg #[.string ⟨#[116, 111, 108]⟩, .pointer (some ⟨g, 5, none⟩), .int .i64 0, .int .i64 20]) := by rw [← hb]; exact put_at (by rw [s18.out]; decide)
 clear hb f18_0 f18_7 f18_11 f18_15 f18_19 f18_22 s18 dd18
 refine wpAnyJ_take (i := 20) (d := some 24) (v := .pointer (some ⟨g, 0, none⟩)) rfl (by kernel_rfl) (by kernel_rfl) (by decide +kernel) (by decide +kernel) (by decide +kernel) (by decide) (by decide +kernel) (fun _ _ _ h => h) (Or.inl ⟨by rfl, by (intro w hSw; (try dsimp only at hSw); go_simp; first | done | exact rfl)⟩) hS ?_
 generalize hb : Act.put _ _ _ = b20
 have s20 : Aside0 (b20.tmps.size = 63) := ⟨by rw [← hb]; exact (put_size _ _ _).trans s19.out⟩
 have dd20 : Aside0 (b20.defers = []) := ⟨by rw [← hb]; exact (put_defers _ _ _).trans dd19.out⟩
 have f20_0 : b20.tmps[0]? = some (.pointer (some ⟨g, 0, none⟩)) := by rw [← hb]; exact (put_off (by decide)).trans f19_0
 have f20_7 : b20.tmps[7]? = some (.agg #[.string ⟨#[102, 108, 111, 111, 114, 115]⟩, .pointer (some ⟨g, 0, none⟩), .int .i64 2, .int .i64 64]) := by rw [← hb]; exact (put_off (by decide)).trans f19_7
 have f20_11 : b20.tmps[11]? = some (.agg #[.string ⟨#[99, 97, 114, 115]⟩, .pointer (some ⟨g, 2, none⟩), .int .i64 1, .int .i64 8]) := by rw [← hb]; exact (put_off (by decide)).trans f19_11
 have f20_15 : b20.tmps[15]? = some (.agg #[.string ⟨#[115, 112, 101, 101, 100]⟩, .pointer (some ⟨g, 3, none⟩), .int .i64 1, .int .i64 20]) := by rw [← hb]; exact (put_off (by decide)).trans f19_15
 have f20_19 : b20.tmps[19]? = some (.agg #[.string ⟨#[98, 114, 97, 107, 101]⟩, .pointer (some ⟨g, 4, none⟩), .int .i64 0, .int .i64 5]) := by rw [← hb]; exact (put_off (by decide)).trans f19_19
 have f20_23 : b20.tmps[23]? = some (.agg #[.string ⟨#[116, 111, 108]⟩, .pointer (some ⟨g, 5, none⟩), .int .i64 0, .int .i64 20]) := by rw [← hb]; exact (put_off (by decide)).trans f19_23
 have f20_24 : b20.tmps[24]? = some (.pointer (some ⟨g, 0, none⟩)) := by rw [← hb]; exact put_at (by rw [s19.out]; decide)
 clear hb f19_0 f19_7 f19_11 f19_15 f19_19 f19_23 s19 dd19
 refine wpAnyJ_take (i := 21) (d := some 25) (v := .pointer (some ⟨g, 0, none⟩)) rfl (by kernel_rfl) (by kernel_rfl) (by decide +kernel) (by decide +kernel) (by decide +kernel) (by decide) (by decide +kernel) (fun _ _ _ h => h) (Or.inl ⟨by rfl, by (intro w hSw; (try dsimp only at hSw); go_simp; first | done | exact rfl)⟩) hS ?_
 generalize hb : Act.put _ _ _ = b21
 have s21 : Aside0 (b21.tmps.size = 63) := ⟨by rw [← hb]; exact (put_size _ _ _).trans s20.out⟩
 have dd21 : Aside0 (b21.defers = []) := ⟨by rw [← hb]; exact (put_defers _ _ _).trans dd20.out⟩
 have f21_0 : b21.tmps[0]? = some (.pointer (some ⟨g, 0, none⟩)) := by rw [← hb]; exact (put_off (by decide)).trans f20_0
 have f21_7 : b21.tmps[7]? = some (.agg #[.string ⟨#[102, 108, 111, 111, 114, 115]⟩, .pointer (some ⟨g, 0, none⟩), .int .i64 2, .int .i64 64]) := by rw [← hb]; exact (put_off (by decide)).trans f20_7
 have f21_11 : b21.tmps[11]? = some (.agg #[.string ⟨#[99, 97, 114, 115]⟩, .pointer (some ⟨g, 2, none⟩), .int .i64 1, .int .i64 8]) := by rw [← hb]; exact (put_off (by decide)).trans f20_11
 have f21_15 : b21.tmps[15]? = some (.agg #[.string ⟨#[115, 112, 101, 101, 100]⟩, .pointer (some ⟨g, 3, none⟩), .int .i64 1, .int .i64 20]) := by rw [← hb]; exact (put_off (by decide)).trans f20_15
 have f21_19 : b21.tmps[19]? = some (.agg #[.string ⟨#[98, 114, 97, 107, 101]⟩, .pointer (some ⟨g, 4, none⟩), .int .i64 0, .int .i64 5]) := by rw [← hb]; exact (put_off (by decide)).trans f20_19
 have f21_23 : b21.tmps[23]? = some (.agg #[.string ⟨#[116, 111, 108]⟩, .pointer (some ⟨g, 5, none⟩), .int .i64 0, .int .i64 20]) := by rw [← hb]; exact (put_off (by decide)).trans f20_23
 have f21_25 : b21.tmps[25]? = some (.pointer (some ⟨g, 0, none⟩)) := by rw [← hb]; exact put_at (by rw [s20.out]; decide)
 clear hb f20_0 f20_7 f20_11 f20_15 f20_19 f20_23 f20_24 s20 dd20
 refine wpAnyJ_take (i := 22) (d := some 26) (v := .pointer (some ⟨g, 6, none⟩)) rfl (by kernel_rfl) (by kernel_rfl) (by decide +kernel) (by decide +kernel) (by decide +kernel) (by decide) (by decide +kernel) (fun _ _ _ h => h) (Or.inl ⟨by rfl, by (intro w hSw; (try dsimp only at hSw); go_simp; first | done | exact rfl)⟩) hS ?_
 generalize hb : Act.put _ _ _ = b22
 have s22 : Aside0 (b22.tmps.size = 63) := ⟨by rw [← hb]; exact (put_size _ _ _).trans s21.out⟩
 have dd22 : Aside0 (b22.defers = []) := ⟨by rw [← hb]; exact (put_defers _ _ _).trans dd21.out⟩
 have f22_0 : b22.tmps[0]? = some (.pointer (some ⟨g, 0, none⟩)) := by rw [← hb]; exact (put_off (by decide)).trans f21_0
 have f22_7 : b22.tmps[7]? = some (.agg #[.string ⟨#[102, 108, 111, 111, 114, 115]⟩, .pointer (some ⟨g, 0, none⟩), .int .i64 2, .int .i64 64]) := by rw [← hb]; exact (put_off (by decide)).trans f21_7
 have f22_11 : b22.tmps[11]? = some (.agg #[.string ⟨#[99, 97, 114, 115]⟩, .pointer (some ⟨g, 2, none⟩), .int .i64 1, .int .i64 8]) := by rw [← hb]; exact (put_off (by decide)).trans f21_11
 have f22_15 : b22.tmps[15]? = some (.agg #[.string ⟨#[115, 112, 101, 101, 100]⟩, .pointer (some ⟨g, 3, none⟩), .int .i64 1, .int .i64 20]) := by rw [← hb]; exact (put_off (by decide)).trans f21_15
 have f22_19 : b22.tmps[19]? = some (.agg #[.string ⟨#[98, 114, 97, 107, 101]⟩, .pointer (some ⟨g, 4, none⟩), .int .i64 0, .int .i64 5]) := by rw [← hb]; exact (put_off (by decide)).trans f21_19
 have f22_23 : b22.tmps[23]? = some (.agg #[.string ⟨#[116, 111, 108]⟩, .pointer (some ⟨g, 5, none⟩), .int .i64 0, .int .i64 20]) := by rw [← hb]; exact (put_off (by decide)).trans f21_23
 have f22_26 : b22.tmps[26]? = some (.pointer (some ⟨g, 6, none⟩)) := by rw [← hb]; exact put_at (by rw [s21.out]; decide)
 clear hb f21_0 f21_7 f21_11 f21_15 f21_19 f21_23 f21_25 s21 dd21
 refine wpAnyJ_take (i := 23) (d := some 27) (v := .agg #[.string ⟨#[119, 105, 100, 116, 104]⟩, .pointer (some ⟨g, 6, none⟩), .int .i64 1, .int .i64 20]) rfl (by kernel_rfl) (by kernel_rfl) (by decide +kernel) (by decide +kernel) (by decide +kernel) (by decide) (by decide +kernel) (fun _ _ _ h => h) (Or.inl ⟨by rfl, by (intro w hSw; (try dsimp only at hSw); go_simp; first | done | exact rfl)⟩) hS ?_
 generalize hb : Act.put _ _ _ = b23
 have s23 : Aside0 (b23.tmps.size = 63) := ⟨by rw [← hb]; exact (put_size _ _ _).trans s22.out⟩
 have dd23 : Aside0 (b23.defers = []) := ⟨by rw [← hb]; exact (put_defers _ _ _).trans dd22.out⟩
 have f23_0 : b23.tmps[0]? = some (.pointer (some ⟨g, 0, none⟩)) := by rw [← hb]; exact (put_off (by decide)).trans f22_0
 have f23_7 : b23.tmps[7]? = some (.agg #[.string ⟨#[102, 108, 111, 111, 114, 115]⟩, .pointer (some ⟨g, 0, none⟩), .int .i64 2, .int .i64 64]) := by rw [← hb]; exact (put_off (by decide)).trans f22_7
 have f23_11 : b23.tmps[11]? = some (.agg #[.string ⟨#[99, 97, 114, 115]⟩, .pointer (some ⟨g, 2, none⟩), .int .i64 1, .int .i64 8]) := by rw [← hb]; exact (put_off (by decide)).trans f22_11
 have f23_15 : b23.tmps[15]? = some (.agg #[.string ⟨#[115, 112, 101, 101, 100]⟩, .pointer (some ⟨g, 3, none⟩), .int .i64 1, .int .i64 20]) := by rw [← hb]; exact (put_off (by decide)).trans f22_15
 have f23_19 : b23.tmps[19]? = some (.agg #[.string ⟨#[98, 114, 97, 107, 101]⟩, .pointer (some ⟨g, 4, none⟩), .int .i64 0, .int .i64 5]) := by rw [← hb]; exact (put_off (by decide)).trans f22_19
 have f23_23 : b23.tmps[23]? = some (.agg #[.string ⟨#[116, 111, 108]⟩, .pointer (some ⟨g, 5, none⟩), .int .i64 0, .int .i64 20]) := by rw [← hb]; exact (put_off (by decide)).trans f22_23
 have f23_27 : b23.tmps[27]? = some (.agg #[.string ⟨#[119, 105, 100, 116, 104]⟩, .pointer (some ⟨g, 6, none⟩), .int .i64 1, .int .i64 20]) := by rw [← hb]; exact put_at (by rw [s22.out]; decide)
 clear hb f22_0 f22_7 f22_11 f22_15 f22_19 f22_23 f22_26 s22 dd22
 refine wpAnyJ_take (i := 24) (d := some 28) (v := .pointer (some ⟨g, 0, none⟩)) rfl (by kernel_rfl) (by kernel_rfl) (by decide +kernel) (by decide +kernel) (by decide +kernel) (by decide) (by decide +kernel) (fun _ _ _ h => h) (Or.inl ⟨by rfl, by (intro w hSw; (try dsimp only at hSw); go_simp; first | done | exact rfl)⟩) hS ?_
 generalize hb : Act.put _ _ _ = b24
 have s24 : Aside0 (b24.tmps.size = 63) := ⟨by rw [← hb]; exact (put_size _ _ _).trans s23.out⟩
 have dd24 : Aside0 (b24.defers = []) := ⟨by rw [← hb]; exact (put_defers _ _ _).trans dd23.out⟩
 have f24_0 : b24.tmps[0]? = some (.pointer (some ⟨g, 0, none⟩)) := by rw [← hb]; exact (put_off (by decide)).trans f23_0
 have f24_7 : b24.tmps[7]? = some (.agg #[.string ⟨#[102, 108, 111, 111, 114, 115]⟩, .pointer (some ⟨g, 0, none⟩), .int .i64 2, .int .i64 64]) := by rw [← hb]; exact (put_off (by decide)).trans f23_7
 have f24_11 : b24.tmps[11]? = some (.agg #[.string ⟨#[99, 97, 114, 115]⟩, .pointer (some ⟨g, 2, none⟩), .int .i64 1, .int .i64 8]) := by rw [← hb]; exact (put_off (by decide)).trans f23_11
 have f24_15 : b24.tmps[15]? = some (.agg #[.string ⟨#[115, 112, 101, 101, 100]⟩, .pointer (some ⟨g, 3, none⟩), .int .i64 1, .int .i64 20]) := by rw [← hb]; exact (put_off (by decide)).trans f23_15
 have f24_19 : b24.tmps[19]? = some (.agg #[.string ⟨#[98, 114, 97, 107, 101]⟩, .pointer (some ⟨g, 4, none⟩), .int .i64 0, .int .i64 5]) := by rw [← hb]; exact (put_off (by decide)).trans f23_19
 have f24_23 : b24.tmps[23]? = some (.agg #[.string ⟨#[116, 111, 108]⟩, .pointer (some ⟨g, 5, none⟩), .int .i64 0, .int .i64 20]) := by rw [← hb]; exact (put_off (by decide)).trans f23_23
 have f24_27 : b24.tmps[27]? = some (.agg #[.string ⟨#[119, 105, 100, 116, 104]⟩, .pointer (some ⟨g, 6, none⟩), .int .i64 1, .int .i64 20]) := by rw [← hb]; exact (put_off (by decide)).trans f23_27
 have f24_28 : b24.tmps[28]? = some (.pointer (some ⟨g, 0, none⟩)) := by rw [← hb]; exact put_at (by rw [s23.out]; decide)
 clear hb f23_0 f23_7 f23_11 f23_15 f23_19 f23_23 f23_27 s23 dd23
 refine wpAnyJ_take (i := 25) (d := some 29) (v := .pointer (some ⟨g, 0, none⟩)) rfl (by kernel_rfl) (by kernel_rfl) (by decide +kernel) (by decide +kernel) (by decide +kernel) (by decide) (by decide +kernel) (fun _ _ _ h => h) (Or.inl ⟨by rfl, by (intro w hSw; (try dsimp only at hSw); go_simp; first | done | exact rfl)⟩) hS ?_
 generalize hb : Act.put _ _ _ = b25
 have s25 : Aside0 (b25.tmps.size = 63) := ⟨by rw [← hb]; exact (put_size _ _ _).trans s24.out⟩
 have dd25 : Aside0 (b25.defers = []) := ⟨by rw [← hb]; exact (put_defers _ _ _).trans dd24.out⟩
 have f25_0 : b25.tmps[0]? = some (.pointer (some ⟨g, 0, none⟩)) := by rw [← hb]; exact (put_off (by decide)).trans f24_0
 have f25_7 : b25.tmps[7]? = some (.agg #[.string ⟨#[102, 108, 111, 111, 114, 115]⟩, .pointer (some ⟨g, 0, none⟩), .int .i64 2, .int .i64 64]) := by rw [← hb]; exact (put_off (by decide)).trans f24_7
 have f25_11 : b25.tmps[11]? = some (.agg #[.string ⟨#[99, 97, 114, 115]⟩, .pointer (some ⟨g, 2, none⟩), .int .i64 1, .int .i64 8]) := by rw [← hb]; exact (put_off (by decide)).trans f24_11
 have f25_15 : b25.tmps[15]? = some (.agg #[.string ⟨#[115, 112, 101, 101, 100]⟩, .pointer (some ⟨g, 3, none⟩), .int .i64 1, .int .i64 20]) := by rw [← hb]; exact (put_off (by decide)).trans f24_15
 have f25_19 : b25.tmps[19]? = some (.agg #[.string ⟨#[98, 114, 97, 107, 101]⟩, .pointer (some ⟨g, 4, none⟩), .int .i64 0, .int .i64 5]) := by rw [← hb]; exact (put_off (by decide)).trans f24_19
 have f25_23 : b25.tmps[23]? = some (.agg #[.string ⟨#[116, 111, 108]⟩, .pointer (some ⟨g, 5, none⟩), .int .i64 0, .int .i64 20]) := by rw [← hb]; exact (put_off (by decide)).trans f24_23
 have f25_27 : b25.tmps[27]? = some (.agg #[.string ⟨#[119, 105, 100, 116, 104]⟩, .pointer (some ⟨g, 6, none⟩), .int .i64 1, .int .i64 20]) := by rw [← hb]; exact (put_off (by decide)).trans f24_27
 have f25_29 : b25.tmps[29]? = some (.pointer (some ⟨g, 0, none⟩)) := by rw [← hb]; exact put_at (by rw [s24.out]; decide)
 clear hb f24_0 f24_7 f24_11 f24_15 f24_19 f24_23 f24_27 f24_28 s24 dd24
 refine wpAnyJ_take (i := 26) (d := some 30) (v := .pointer (some ⟨g, 7, none⟩)) rfl (by kernel_rfl) (by kernel_rfl) (by decide +kernel) (by decide +kernel) (by decide +kernel) (by decide) (by decide +kernel) (fun _ _ _ h => h) (Or.inl ⟨by rfl, by (intro w hSw; (try dsimp only at hSw); go_simp; first | done | exact rfl)⟩) hS ?_
 generalize hb : Act.put _ _ _ = b26
 have s26 : Aside0 (b26.tmps.size = 63) := ⟨by rw [← hb]; exact (put_size _ _ _).trans s25.out⟩
 have dd26 : Aside0 (b26.defers = []) := ⟨by rw [← hb]; exact (put_defers _ _ _).trans dd25.out⟩
 have f26_0 : b26.tmps[0]? = some (.pointer (some ⟨g, 0, none⟩)) := by rw [← hb]; exact (put_off (by decide)).trans f25_0
 have f26_7 : b26.tmps[7]? = some (.agg #[.string ⟨#[102, 108, 111, 111, 114, 115]⟩, .pointer (some ⟨g, 0, none⟩), .int .i64 2, .int .i64 64]) := by rw [← hb]; exact (put_off (by decide)).trans f25_7
 have f26_11 : b26.tmps[11]? = some (.agg #[.string ⟨#[99, 97, 114, 115]⟩, .pointer (some ⟨g, 2, none⟩), .int .i64 1, .int .i64 8]) := by rw [← hb]; exact (put_off (by decide)).trans f25_11
 have f26_15 : b26.tmps[15]? = some (.agg #[.string ⟨#[115, 112, 101, 101, 100]⟩, .pointer (some ⟨g, 3, none⟩), .int .i64 1, .int .i64 20]) := by rw [← hb]; exact (put_off (by decide)).trans f25_15
 have f26_19 : b26.tmps[19]? = some (.agg #[.string ⟨#[98, 114, 97, 107, 101]⟩, .pointer (some ⟨g, 4, none⟩), .int .i64 0, .int .i64 5]) := by rw [← hb]; exact (put_off (by decide)).trans f25_19
 have f26_23 : b26.tmps[23]? = some (.agg #[.string ⟨#[116, 111, 108]⟩, .pointer (some ⟨g, 5, none⟩), .int .i64 0, .int .i64 20]) := by rw [← hb]; exact (put_off (by decide)).trans f25_23
 have f26_27 : b26.tmps[27]? = some (.agg #[.string ⟨#[119, 105, 100, 116, 104]⟩, .pointer (some ⟨g, 6, none⟩), .int .i64 1, .int .i64 20]) := by rw [← hb]; exact (put_off (by decide)).trans f25_27
 have f26_30 : b26.tmps[30]? = some (.pointer (some ⟨g, 7, none⟩)) := by rw [← hb]; exact put_at (by rw [s25.out]; decide)
 clear hb f25_0 f25_7 f25_11 f25_15 f25_19 f25_23 f25_27 f25_29 s25 dd25
 refine wpAnyJ_take (i := 27) (d := some 31) (v := .agg #[.string ⟨#[100, 119, 101, 108, 108]⟩, .pointer (some ⟨g, 7, none⟩), .int .i64 1, .int .i64 50]) rfl (by kernel_rfl) (by kernel_rfl) (by decide +kernel) (by decide +kernel) (by decide +kernel) (by decide) (by decide +kernel) (fun _ _ _ h => h) (Or.inl ⟨by rfl, by (intro w hSw; (try dsimp only at hSw); go_simp; first | done | exact rfl)⟩) hS ?_
 generalize hb : Act.put _ _ _ = b27
 have s27 : Aside0 (b27.tmps.size = 63) := ⟨by rw [← hb]; exact (put_size _ _ _).trans s26.out⟩
 have dd27 : Aside0 (b27.defers = []) := ⟨by rw [← hb]; exact (put_defers _ _ _).trans dd26.out⟩
 have f27_0 : b27.tmps[0]? = some (.pointer (some ⟨g, 0, none⟩)) := by rw [← hb]; exact (put_off (by decide)).trans f26_0
 have f27_7 : b27.tmps[7]? = some (.agg #[.string ⟨#[102, 108, 111, 111, 114, 115]⟩, .pointer (some ⟨g, 0, none⟩), .int .i64 2, .int .i64 64]) := by rw [← hb]; exact (put_off (by decide)).trans f26_7
 have f27_11 : b27.tmps[11]? = some (.agg #[.string ⟨#[99, 97, 114, 115]⟩, .pointer (some ⟨g, 2, none⟩), .int .i64 1, .int .i64 8]) := by rw [← hb]; exact (put_off (by decide)).trans f26_11
 have f27_15 : b27.tmps[15]? = some (.agg #[.string ⟨#[115, 112, 101, 101, 100]⟩, .pointer (some ⟨g, 3, none⟩), .int .i64 1, .int .i64 20]) := by rw [← hb]; exact (put_off (by decide)).trans f26_15
 have f27_19 : b27.tmps[19]? = some (.agg #[.string ⟨#[98, 114, 97, 107, 101]⟩, .pointer (some ⟨g, 4, none⟩), .int .i64 0, .int .i64 5]) := by rw [← hb]; exact (put_off (by decide)).trans f26_19
 have f27_23 : b27.tmps[23]? = some (.agg #[.string ⟨#[116, 111, 108]⟩, .pointer (some ⟨g, 5, none⟩), .int .i64 0, .int .i64 20]) := by rw [← hb]; exact (put_off (by decide)).trans f26_23
 have f27_27 : b27.tmps[27]? = some (.agg #[.string ⟨#[119, 105, 100, 116, 104]⟩, .pointer (some ⟨g, 6, none⟩), .int .i64 1, .int .i64 20]) := by rw [← hb]; exact (put_off (by decide)).trans f26_27
 have f27_31 : b27.tmps[31]? = some (.agg #[.string ⟨#[100, 119, 101, 108, 108]⟩, .pointer (some ⟨g, 7, none⟩), .int .i64 1, .int .i64 50]) := by rw [← hb]; exact put_at (by rw [s26.out]; decide)
 clear hb f26_0 f26_7 f26_11 f26_15 f26_19 f26_23 f26_27 f26_30 s26 dd26
 refine wpAnyJ_take (i := 28) (d := some 32) (v := .pointer (some ⟨g, 0, none⟩)) rfl (by kernel_rfl) (by kernel_rfl) (by decide +kernel) (by decide +kernel) (by decide +kernel) (by decide) (by decide +kernel) (fun _ _ _ h => h) (Or.inl ⟨by rfl, by (intro w hSw; (try dsimp only at hSw); go_simp; first | done | exact rfl)⟩) hS ?_
 generalize hb : Act.put _ _ _ = b28
 have s28 : Aside0 (b28.tmps.size = 63) := ⟨by rw [← hb]; exact (put_size _ _ _).trans s27.out⟩
 have dd28 : Aside0 (b28.defers = []) := ⟨by rw [← hb]; exact (put_defers _ _ _).trans dd27.out⟩
 have f28_0 : b28.tmps[0]? = some (.pointer (some ⟨g, 0, none⟩)) := by rw [← hb]; exact (put_off (by decide)).trans f27_0
 have f28_7 : b28.tmps[7]? = some (.agg #[.string ⟨#[102, 108, 111, 111, 114, 115]⟩, .pointer (some ⟨g, 0, none⟩), .int .i64 2, .int .i64 64]) := by rw [← hb]; exact (put_off (by decide)).trans f27_7
 have f28_11 : b28.tmps[11]? = some (.agg #[.string ⟨#[99, 97, 114, 115]⟩, .pointer (some ⟨g, 2, none⟩), .int .i64 1, .int .i64 8]) := by rw [← hb]; exact (put_off (by decide)).trans f27_11
 have f28_15 : b28.tmps[15]? = some (.agg #[.string ⟨#[115, 112, 101, 101, 100]⟩, .pointer (some ⟨g, 3, none⟩), .int .i64 1, .int .i64 20]) := by rw [← hb]; exact (put_off (by decide)).trans f27_15
 have f28_19 : b28.tmps[19]? = some (.agg #[.string ⟨#[98, 114, 97, 107, 101]⟩, .pointer (some ⟨g, 4, none⟩), .int .i64 0, .int .i64 5]) := by rw [← hb]; exact (put_off (by decide)).trans f27_19
 have f28_23 : b28.tmps[23]? = some (.agg #[.string ⟨#[116, 111, 108]⟩, .pointer (some ⟨g, 5, none⟩), .int .i64 0, .int .i64 20]) := by rw [← hb]; exact (put_off (by decide)).trans f27_23
 have f28_27 : b28.tmps[27]? = some (.agg #[.string ⟨#[119, 105, 100, 116, 104]⟩, .pointer (some ⟨g, 6, none⟩), .int .i64 1, .int .i64 20]) := by rw [← hb]; exact (put_off (by decide)).trans f27_27
 have f28_31 : b28.tmps[31]? = some (.agg #[.string ⟨#[100, 119, 101, 108, 108]⟩, .pointer (some ⟨g, 7, none⟩), .int .i64 1, .int .i64 50]) := by rw [← hb]; exact (put_off (by decide)).trans f27_31
 have f28_32 : b28.tmps[32]? = some (.pointer (some ⟨g, 0, none⟩)) := by rw [← hb]; exact put_at (by rw [s27.out]; decide)
 clear hb f27_0 f27_7 f27_11 f27_15 f27_19 f27_23 f27_27 f27_31 s27 dd27
 refine wpAnyJ_take (i := 29) (d := some 33) (v := .pointer (some ⟨g, 0, none⟩)) rfl (by kernel_rfl) (by kernel_rfl) (by decide +kernel) (by decide +kernel) (by decide +kernel) (by decide) (by decide +kernel) (fun _ _ _ h => h) (Or.inl ⟨by rfl, by (intro w hSw; (try dsimp only at hSw); go_simp; first | done | exact rfl)⟩) hS ?_
 generalize hb : Act.put _ _ _ = b29
 have s29 : Aside0 (b29.tmps.size = 63) := ⟨by rw [← hb]; exact (put_size _ _ _).trans s28.out⟩
 have dd29 : Aside0 (b29.defers = []) := ⟨by rw [← hb]; exact (put_defers _ _ _).trans dd28.out⟩
 have f29_0 : b29.tmps[0]? = some (.pointer (some ⟨g, 0, none⟩)) := by rw [← hb]; exact (put_off (by decide)).trans f28_0
 have f29_7 : b29.tmps[7]? = some (.agg #[.string ⟨#[102, 108, 111, 111, 114, 115]⟩, .pointer (some ⟨g, 0, none⟩), .int .i64 2, .int .i64 64]) := by rw [← hb]; exact (put_off (by decide)).trans f28_7
 have f29_11 : b29.tmps[11]? = some (.agg #[.string ⟨#[99, 97, 114, 115]⟩, .pointer (some ⟨g, 2, none⟩), .int .i64 1, .int .i64 8]) := by rw [← hb]; exact (put_off (by decide)).trans f28_11
 have f29_15 : b29.tmps[15]? = some (.agg #[.string ⟨#[115, 112, 101, 101, 100]⟩, .pointer (some ⟨g, 3, none⟩), .int .i64 1, .int .i64 20]) := by rw [← hb]; exact (put_off (by decide)).trans f28_15
 have f29_19 : b29.tmps[19]? = some (.agg #[.string ⟨#[98, 114, 97, 107, 101]⟩, .pointer (some ⟨g, 4, none⟩), .int .i64 0, .int .i64 5]) := by rw [← hb]; exact (put_off (by decide)).trans f28_19
 have f29_23 : b29.tmps[23]? = some (.agg #[.string ⟨#[116, 111, 108]⟩, .pointer (some ⟨g, 5, none⟩), .int .i64 0, .int .i64 20]) := by rw [← hb]; exact (put_off (by decide)).trans f28_23
 have f29_27 : b29.tmps[27]? = some (.agg #[.string ⟨#[119, 105, 100, 116, 104]⟩, .pointer (some ⟨g, 6, none⟩), .int .i64 1, .int .i64 20]) := by rw [← hb]; exact (put_off (by decide)).trans f28_27
 have f29_31 : b29.tmps[31]? = some (.agg #[.string ⟨#[100, 119, 101, 108, 108]⟩, .pointer (some ⟨g, 7, none⟩), .int .i64 1, .int .i64 50]) := by rw [← hb]; exact (put_off (by decide)).trans f28_31
 have f29_33 : b29.tmps[33]? = some (.pointer (some ⟨g, 0, none⟩)) := by rw [← hb]; exact put_at (by rw [s28.out]; decide)
 clear hb f28_0 f28_7 f28_11 f28_15 f28_19 f28_23 f28_27 f28_31 f28_32 s28 dd28
 refine wpAnyJ_take (i := 30) (d := some 34) (v := .pointer (some ⟨g, 8, none⟩)) rfl (by kernel_rfl) (by kernel_rfl) (by decide +kernel) (by decide +kernel) (by decide +kernel) (by decide) (by decide +kernel) (fun _ _ _ h => h) (Or.inl ⟨by rfl, by (intro w hSw; (try dsimp only at hSw); go_simp; first | done | exact rfl)⟩) hS ?_
 generalize hb : Act.put _ _ _ = b30
 have s30 : Aside0 (b30.tmps.size = 63) := ⟨by rw [← hb]; exact (put_size _ _ _).trans s29.out⟩
 have dd30 : Aside0 (b30.defers = []) := ⟨by rw [← hb]; exact (put_defers _ _ _).trans dd29.out⟩
 have f30_0 : b30.tmps[0]? = some (.pointer (some ⟨g, 0, none⟩)) := by rw [← hb]; exact (put_off (by decide)).trans f29_0
 have f30_7 : b30.tmps[7]? = some (.agg #[.string ⟨#[102, 108, 111, 111, 114, 115]⟩, .pointer (some ⟨g, 0, none⟩), .int .i64 2, .int .i64 64]) := by rw [← hb]; exact (put_off (by decide)).trans f29_7
 have f30_11 : b30.tmps[11]? = some (.agg #[.string ⟨#[99, 97, 114, 115]⟩, .pointer (some ⟨g, 2, none⟩), .int .i64 1, .int .i64 8]) := by rw [← hb]; exact (put_off (by decide)).trans f29_11
 have f30_15 : b30.tmps[15]? = some (.agg #[.string ⟨#[115, 112, 101, 101, 100]⟩, .pointer (some ⟨g, 3, none⟩), .int .i64 1, .int .i64 20]) := by rw [← hb]; exact (put_off (by decide)).trans f29_15
 have f30_19 : b30.tmps[19]? = some (.agg #[.string ⟨#[98, 114, 97, 107, 101]⟩, .pointer (some ⟨g, 4, none⟩), .int .i64 0, .int .i64 5]) := by rw [← hb]; exact (put_off (by decide)).trans f29_19
 have f30_23 : b30.tmps[23]? = some (.agg #[.string ⟨#[116, 111, 108]⟩, .pointer (some ⟨g, 5, none⟩), .int .i64 0, .int .i64 20]) := by rw [← hb]; exact (put_off (by decide)).trans f29_23
 have f30_27 : b30.tmps[27]? = some (.agg #[.string ⟨#[119, 105, 100, 116, 104]⟩, .pointer (some ⟨g, 6, none⟩), .int .i64 1, .int .i64 20]) := by rw [← hb]; exact (put_off (by decide)).trans f29_27
 have f30_31 : b30.tmps[31]? = some (.agg #[.string ⟨#[100, 119, 101, 108, 108]⟩, .pointer (some ⟨g, 7, none⟩), .int .i64 1, .int .i64 50]) := by rw [← hb]; exact (put_off (by decide)).trans f29_31
 have f30_34 : b30.tmps[34]? = some (.pointer (some ⟨g, 8, none⟩)) := by rw [← hb]; exact put_at (by rw [s29.out]; decide)
 clear hb f29_0 f29_7 f29_11 f29_15 f29_19 f29_23 f29_27 f29_31 f29_33 s29 dd29
 refine wpAnyJ_take (i := 31) (d := some 35) (v := .agg #[.string ⟨#[114, 101, 116, 114, 105, 101, 115]⟩, .pointer (some ⟨g, 8, none⟩), .int .i64 0, .int .i64 5]) rfl (by kernel_rfl) (by kernel_rfl) (by decide +kernel) (by decide +kernel) (by decide +kernel) (by decide) (by decide +kernel) (fun _ _ _ h => h) (Or.inl ⟨by rfl, by (intro w hSw; (try dsimp only at hSw); go_simp; first | done | exact rfl)⟩) hS ?_
 generalize hb : Act.put _ _ _ = b31
 have s31 : Aside0 (b31.tmps.size = 63) := ⟨by rw [← hb]; exact (put_size _ _ _).trans s30.out⟩
 have dd31 : Aside0 (b31.defers = []) := ⟨by rw [← hb]; exact (put_defers _ _ _).trans dd30.out⟩
 have f31_0 : b31.tmps[0]? = some (.pointer (some ⟨g, 0, none⟩)) := by rw [← hb]; exact (put_off (by decide)).trans f30_0
 have f31_7 : b31.tmps[7]? = some (.agg #[.string ⟨#[102, 108, 111, 111, 114, 115]⟩, .pointer (some ⟨g, 0, none⟩), .int .i64 2, .int .i64 64]) := by rw [← hb]; exact (put_off (by decide)).trans f30_7
 have f31_11 : b31.tmps[11]? = some (.agg #[.string ⟨#[99, 97, 114, 115]⟩, .pointer (some ⟨g, 2, none⟩), .int .i64 1, .int .i64 8]) := by rw [← hb]; exact (put_off (by decide)).trans f30_11
 have f31_15 : b31.tmps[15]? = some (.agg #[.string ⟨#[115, 112, 101, 101, 100]⟩, .pointer (some ⟨g, 3, none⟩), .int .i64 1, .int .i64 20]) := by rw [← hb]; exact (put_off (by decide)).trans f30_15
 have f31_19 : b31.tmps[19]? = some (.agg #[.string ⟨#[98, 114, 97, 107, 101]⟩, .pointer (some ⟨g, 4, none⟩), .int .i64 0, .int .i64 5]) := by rw [← hb]; exact (put_off (by decide)).trans f30_19
 have f31_23 : b31.tmps[23]? = some (.agg #[.string ⟨#[116, 111, 108]⟩, .pointer (some ⟨g, 5, none⟩), .int .i64 0, .int .i64 20]) := by rw [← hb]; exact (put_off (by decide)).trans f30_23
 have f31_27 : b31.tmps[27]? = some (.agg #[.string ⟨#[119, 105, 100, 116, 104]⟩, .pointer (some ⟨g, 6, none⟩), .int .i64 1, .int .i64 20]) := by rw [← hb]; exact (put_off (by decide)).trans f30_27
 have f31_31 : b31.tmps[31]? = some (.agg #[.string ⟨#[100, 119, 101, 108, 108]⟩, .pointer (some ⟨g, 7, none⟩), .int .i64 1, .int .i64 50]) := by rw [← hb]; exact (put_off (by decide)).trans f30_31
 have f31_35 : b31.tmps[35]? = some (.agg #[.string ⟨#[114, 101, 116, 114, 105, 101, 115]⟩, .pointer (some ⟨g, 8, none⟩), .int .i64 0, .int .i64 5]) := by rw [← hb]; exact put_at (by rw [s30.out]; decide)
 clear hb f30_0 f30_7 f30_11 f30_15 f30_19 f30_23 f30_27 f30_31 f30_34 s30 dd30
 refine wpAnyJ_take (i := 32) (d := some 36) (v := .pointer (some ⟨g, 0, none⟩)) rfl (by kernel_rfl) (by kernel_rfl) (by decide +kernel) (by decide +kernel) (by decide +kernel) (by decide) (by decide +kernel) (fun _ _ _ h => h) (Or.inl ⟨by rfl, by (intro w hSw; (try dsimp only at hSw); go_simp; first | done | exact rfl)⟩) hS ?_
 generalize hb : Act.put _ _ _ = b32
 have s32 : Aside0 (b32.tmps.size = 63) := ⟨by rw [← hb]; exact (put_size _ _ _).trans s31.out⟩
 have dd32 : Aside0 (b32.defers = []) := ⟨by rw [← hb]; exact (put_defers _ _ _).trans dd31.out⟩
 have f32_0 : b32.tmps[0]? = some (.pointer (some ⟨g, 0, none⟩)) := by rw [← hb]; exact (put_off (by decide)).trans f31_0
 have f32_7 : b32.tmps[7]? = some (.agg #[.string ⟨#[102, 108, 111, 111, 114, 115]⟩, .pointer (some ⟨g, 0, none⟩), .int .i64 2, .int .i64 64]) := by rw [← hb]; exact (put_off (by decide)).trans f31_7
 have f32_11 : b32.tmps[11]? = some (.agg #[.string ⟨#[99, 97, 114, 115]⟩, .pointer (some ⟨g, 2, none⟩), .int .i64 1, .int .i64 8]) := by rw [← hb]; exact (put_off (by decide)).trans f31_11
 have f32_15 : b32.tmps[15]? = some (.agg #[.string ⟨#[115, 112, 101, 101, 100]⟩, .pointer (some ⟨g, 3, none⟩), .int .i64 1, .int .i64 20]) := by rw [← hb]; exact (put_off (by decide)).trans f31_15
 have f32_19 : b32.tmps[19]? = some (.agg #[.string ⟨#[98, 114, 97, 107, 101]⟩, .pointer (some ⟨g, 4, none⟩), .int .i64 0, .int .i64 5]) := by rw [← hb]; exact (put_off (by decide)).trans f31_19
 have f32_23 : b32.tmps[23]? = some (.agg #[.string ⟨#[116, 111, 108]⟩, .pointer (some ⟨g, 5, none⟩), .int .i64 0, .int .i64 20]) := by rw [← hb]; exact (put_off (by decide)).trans f31_23
 have f32_27 : b32.tmps[27]? = some (.agg #[.string ⟨#[119, 105, 100, 116, 104]⟩, .pointer (some ⟨g, 6, none⟩), .int .i64 1, .int .i64 20]) := by rw [← hb]; exact (put_off (by decide)).trans f31_27
 have f32_31 : b32.tmps[31]? = some (.agg #[.string ⟨#[100, 119, 101, 108, 108]⟩, .pointer (some ⟨g, 7, none⟩), .int .i64 1, .int .i64 50]) := by rw [← hb]; exact (put_off (by decide)).trans f31_31
 have f32_35 : b32.tmps[35]? = some (.agg #[.string ⟨#[114, 101, 116, 114, 105, 101, 115]⟩, .pointer (some ⟨g, 8, none⟩), .int .i64 0, .int .i64 5]) := by rw [← hb]; exact (put_off (by decide)).trans f31_35
 have f32_36 : b32.tmps[36]? = some (.pointer (some ⟨g, 0, none⟩)) := by rw [← hb]; exact put_at (by rw [s31.out]; decide)
 clear hb f31_0 f31_7 f31_11 f31_15 f31_19 f31_23 f31_27 f31_31 f31_35 s31 dd31
 refine wpAnyJ_take (i := 33) (d := some 37) (v := .pointer (some ⟨g, 0, none⟩)) rfl (by kernel_rfl) (by kernel_rfl) (by decide +kernel) (by decide +kernel) (by decide +kernel) (by decide) (by decide +kernel) (fun _ _ _ h => h) (Or.inl ⟨by rfl, by (intro w hSw; (try dsimp only at hSw); go_simp; first | done | exact rfl)⟩) hS ?_
 generalize hb : Act.put _ _ _ = b33
 have s33 : Aside0 (b33.tmps.size = 63) := ⟨by rw [← hb]; exact (put_size _ _ _).trans s32.out⟩
 have dd33 : Aside0 (b33.defers = []) := ⟨by rw [← hb]; exact (put_defers _ _ _).trans dd32.out⟩
 have f33_0 : b33.tmps[0]? = some (.pointer (some ⟨g, 0, none⟩)) := by rw [← hb]; exact (put_off (by decide)).trans f32_0
 have f33_7 : b33.tmps[7]? = some (.agg #[.string ⟨#[102, 108, 111, 111, 114, 115]⟩, .pointer (some ⟨g, 0, none⟩), .int .i64 2, .int .i64 64]) := by rw [← hb]; exact (put_off (by decide)).trans f32_7
 have f33_11 : b33.tmps[11]? = some (.agg #[.string ⟨#[99, 97, 114, 115]⟩, .pointer (some ⟨g, 2, none⟩), .int .i64 1, .int .i64 8]) := by rw [← hb]; exact (put_off (by decide)).trans f32_11
 have f33_15 : b33.tmps[15]? = some (.agg #[.string ⟨#[115, 112, 101, 101, 100]⟩, .pointer (some ⟨g, 3, none⟩), .int .i64 1, .int .i64 20]) := by rw [← hb]; exact (put_off (by decide)).trans f32_15
 have f33_19 : b33.tmps[19]? = some (.agg #[.string ⟨#[98, 114, 97, 107, 101]⟩, .pointer (some ⟨g, 4, none⟩), .int .i64 0, .int .i64 5]) := by rw [← hb]; exact (put_off (by decide)).trans f32_19
 have f33_23 : b33.tmps[23]? = some (.agg #[.string ⟨#[116, 111, 108]⟩, .pointer (some ⟨g, 5, none⟩), .int .i64 0, .int .i64 20]) := by rw [← hb]; exact (put_off (by decide)).trans f32_23
 have f33_27 : b33.tmps[27]? = some (.agg #[.string ⟨#[119, 105, 100, 116, 104]⟩, .pointer (some ⟨g, 6, none⟩), .int .i64 1, .int .i64 20]) := by rw [← hb]; exact (put_off (by decide)).trans f32_27
 have f33_31 : b33.tmps[31]? = some (.agg #[.string ⟨#[100, 119, 101, 108, 108]⟩, .pointer (some ⟨g, 7, none⟩), .int .i64 1, .int .i64 50]) := by rw [← hb]; exact (put_off (by decide)).trans f32_31
 have f33_35 : b33.tmps[35]? = some (.agg #[.string ⟨#[114, 101, 116, 114, 105, 101, 115]⟩, .pointer (some ⟨g, 8, none⟩), .int .i64 0, .int .i64 5]) := by rw [← hb]; exact (put_off (by decide)).trans f32_35
 have f33_37 : b33.tmps[37]? = some (.pointer (some ⟨g, 0, none⟩)) := by rw [← hb]; exact put_at (by rw [s32.out]; decide)
 clear hb f32_0 f32_7 f32_11 f32_15 f32_19 f32_23 f32_27 f32_31 f32_35 f32_36 s32 dd32
 refine wpAnyJ_take (i := 34) (d := some 38) (v := .pointer (some ⟨g, 9, none⟩)) rfl (by kernel_rfl) (by kernel_rfl) (by decide +kernel) (by decide +kernel) (by decide +kernel) (by decide) (by decide +kernel) (fun _ _ _ h => h) (Or.inl ⟨by rfl, by (intro w hSw; (try dsimp only at hSw); go_simp; first | done | exact rfl)⟩) hS ?_
 generalize hb : Act.put _ _ _ = b34
 have s34 : Aside0 (b34.tmps.size = 63) := ⟨by rw [← hb]; exact (put_size _ _ _).trans s33.out⟩
 have dd34 : Aside0 (b34.defers = []) := ⟨by rw [← hb]; exact (put_defers _ _ _).trans dd33.out⟩
 have f34_0 : b34.tmps[0]? = some (.pointer (some ⟨g, 0, none⟩)) := by rw [← hb]; exact (put_off (by decide)).trans f33_0
 have f34_7 : b34.tmps[7]? = some (.agg #[.string ⟨#[102, 108, 111, 111, 114, 115]⟩, .pointer (some ⟨g, 0, none⟩), .int .i64 2, .int .i64 64]) := by rw [← hb]; exact (put_off (by decide)).trans f33_7
 have f34_11 : b34.tmps[11]? = some (.agg #[.string ⟨#[99, 97, 114, 115]⟩, .pointer (some ⟨g, 2, none⟩), .int .i64 1, .int .i64 8]) := by rw [← hb]; exact (put_off (by decide)).trans f33_11
 have f34_15 : b34.tmps[15]? = some (.agg #[.string ⟨#[115, 112, 101, 101, 100]⟩, .pointer (some ⟨g, 3, none⟩), .int .i64 1, .int .i64 20]) := by rw [← hb]; exact (put_off (by decide)).trans f33_15
 have f34_19 : b34.tmps[19]? = some (.agg #[.string ⟨#[98, 114, 97, 107, 101]⟩, .pointer (some ⟨g, 4, none⟩), .int .i64 0, .int .i64 5]) := by rw [← hb]; exact (put_off (by decide)).trans f33_19
 have f34_23 : b34.tmps[23]? = some (.agg #[.string ⟨#[116, 111, 108]⟩, .pointer (some ⟨g, 5, none⟩), .int .i64 0, .int .i64 20]) := by rw [← hb]; exact (put_off (by decide)).trans f33_23
 have f34_27 : b34.tmps[27]? = some (.agg #[.string ⟨#[119, 105, 100, 116, 104]⟩, .pointer (some ⟨g, 6, none⟩), .int .i64 1, .int .i64 20]) := by rw [← hb]; exact (put_off (by decide)).trans f33_27
 have f34_31 : b34.tmps[31]? = some (.agg #[.string ⟨#[100, 119, 101, 108, 108]⟩, .pointer (some ⟨g, 7, none⟩), .int .i64 1, .int .i64 50]) := by rw [← hb]; exact (put_off (by decide)).trans f33_31
 have f34_35 : b34.tmps[35]? = some (.agg #[.string ⟨#[114, 101, 116, 114, 105, 101, 115]⟩, .pointer (some ⟨g, 8, none⟩), .int .i64 0, .int .i64 5]) := by rw [← hb]; exact (put_off (by decide)).trans f33_35
 have f34_38 : b34.tmps[38]? = some (.pointer (some ⟨g, 9, none⟩)) := by rw [← hb]; exact put_at (by rw [s33.out]; decide)
 clear hb f33_0 f33_7 f33_11 f33_15 f33_19 f33_23 f33_27 f33_31 f33_35 f33_37 s33 dd33
 refine wpAnyJ_take (i := 35) (d := some 39) (v := .agg #[.string ⟨#[101, 109, 112, 116, 121]⟩, .pointer (some ⟨g, 9, none⟩), .int .i64 0, .int .i64 10000]) rfl (by kernel_rfl) (by kernel_rfl) (by decide +kernel) (by decide +kernel) (by decide +kernel) (by decide) (by decide +kernel) (fun _ _ _ h => h) (Or.inl ⟨by rfl, by (intro w hSw; (try dsimp only at hSw); go_simp; first | done | exact rfl)⟩) hS ?_
 generalize hb : Act.put _ _ _ = b35
 have s35 : Aside0 (b35.tmps.size = 63) := ⟨by rw [← hb]; exact (put_size _ _ _).trans s34.out⟩
 have dd35 : Aside0 (b35.defers = []) := ⟨by rw [← hb]; exact (put_defers _ _ _).trans dd34.out⟩
 have f35_0 : b35.tmps[0]? = some (.pointer (some ⟨g, 0, none⟩)) := by rw [← hb]; exact (put_off (by decide)).trans f34_0
 have f35_7 : b35.tmps[7]? = some (.agg #[.string ⟨#[102, 108, 111, 111, 114, 115]⟩, .pointer (some ⟨g, 0, none⟩), .int .i64 2, .int .i64 64]) := by rw [← hb]; exact (put_off (by decide)).trans f34_7
 have f35_11 : b35.tmps[11]? = some (.agg #[.string ⟨#[99, 97, 114, 115]⟩, .pointer (some ⟨g, 2, none⟩), .int .i64 1, .int .i64 8]) := by rw [← hb]; exact (put_off (by decide)).trans f34_11
 have f35_15 : b35.tmps[15]? = some (.agg #[.string ⟨#[115, 112, 101, 101, 100]⟩, .pointer (some ⟨g, 3, none⟩), .int .i64 1, .int .i64 20]) := by rw [← hb]; exact (put_off (by decide)).trans f34_15
 have f35_19 : b35.tmps[19]? = some (.agg #[.string ⟨#[98, 114, 97, 107, 101]⟩, .pointer (some ⟨g, 4, none⟩), .int .i64 0, .int .i64 5]) := by rw [← hb]; exact (put_off (by decide)).trans f34_19
 have f35_23 : b35.tmps[23]? = some (.agg #[.string ⟨#[116, 111, 108]⟩, .pointer (some ⟨g, 5, none⟩), .int .i64 0, .int .i64 20]) := by rw [← hb]; exact (put_off (by decide)).trans f34_23
 have f35_27 : b35.tmps[27]? = some (.agg #[.string ⟨#[119, 105, 100, 116, 104]⟩, .pointer (some ⟨g, 6, none⟩), .int .i64 1, .int .i64 20]) := by rw [← hb]; exact (put_off (by decide)).trans f34_27
 have f35_31 : b35.tmps[31]? = some (.agg #[.string ⟨#[100, 119, 101, 108, 108]⟩, .pointer (some ⟨g, 7, none⟩), .int .i64 1, .int .i64 50]) := by rw [← hb]; exact (put_off (by decide)).trans f34_31
 have f35_35 : b35.tmps[35]? = some (.agg #[.string ⟨#[114, 101, 116, 114, 105, 101, 115]⟩, .pointer (some ⟨g, 8, none⟩), .int .i64 0, .int .i64 5]) := by rw [← hb]; exact (put_off (by decide)).trans f34_35
 have f35_39 : b35.tmps[39]? = some (.agg #[.string ⟨#[101, 109, 112, 116, 121]⟩, .pointer (some ⟨g, 9, none⟩), .int .i64 0, .int .i64 10000]) := by rw [← hb]; exact put_at (by rw [s34.out]; decide)
 clear hb f34_0 f34_7 f34_11 f34_15 f34_19 f34_23 f34_27 f34_31 f34_35 f34_38 s34 dd34
 refine wpAnyJ_take (i := 36) (d := some 40) (v := .pointer (some ⟨g, 0, none⟩)) rfl (by kernel_rfl) (by kernel_rfl) (by decide +kernel) (by decide +kernel) (by decide +kernel) (by decide) (by decide +kernel) (fun _ _ _ h => h) (Or.inl ⟨by rfl, by (intro w hSw; (try dsimp only at hSw); go_simp; first | done | exact rfl)⟩) hS ?_
 generalize hb : Act.put _ _ _ = b36
 have s36 : Aside0 (b36.tmps.size = 63) := ⟨by rw [← hb]; exact (put_size _ _ _).trans s35.out⟩
 have dd36 : Aside0 (b36.defers = []) := ⟨by rw [← hb]; exact (put_defers _ _ _).trans dd35.out⟩
 have f36_0 : b36.tmps[0]? = some (.pointer (some ⟨g, 0, none⟩)) := by rw [← hb]; exact (put_off (by decide)).trans f35_0
 have f36_7 : b36.tmps[7]? = some (.agg #[.string ⟨#[102, 108, 111, 111, 114, 115]⟩, .pointer (some ⟨g, 0, none⟩), .int .i64 2, .int .i64 64]) := by rw [← hb]; exact (put_off (by decide)).trans f35_7
 have f36_11 : b36.tmps[11]? = some (.agg #[.string ⟨#[99, 97, 114, 115]⟩, .pointer (some ⟨g, 2, none⟩), .int .i64 1, .int .i64 8]) := by rw [← hb]; exact (put_off (by decide)).trans f35_11
 have f36_15 : b36.tmps[15]? = some (.agg #[.string ⟨#[115, 112, 101, 101, 100]⟩, .pointer (some ⟨g, 3, none⟩), .int .i64 1, .int .i64 20]) := by rw [← hb]; exact (put_off (by decide)).trans f35_15
 have f36_19 : b36.tmps[19]? = some (.agg #[.string ⟨#[98, 114, 97, 107, 101]⟩, .pointer (some ⟨g, 4, none⟩), .int .i64 0, .int .i64 5]) := by rw [← hb]; exact (put_off (by decide)).trans f35_19
 have f36_23 : b36.tmps[23]? = some (.agg #[.string ⟨#[116, 111, 108]⟩, .pointer (some ⟨g, 5, none⟩), .int .i64 0, .int .i64 20]) := by rw [← hb]; exact (put_off (by decide)).trans f35_23
 have f36_27 : b36.tmps[27]? = some (.agg #[.string ⟨#[119, 105, 100, 116, 104]⟩, .pointer (some ⟨g, 6, none⟩), .int .i64 1, .int .i64 20]) := by rw [← hb]; exact (put_off (by decide)).trans f35_27
 have f36_31 : b36.tmps[31]? = some (.agg #[.string ⟨#[100, 119, 101, 108, 108]⟩, .pointer (some ⟨g, 7, none⟩), .int .i64 1, .int .i64 50]) := by rw [← hb]; exact (put_off (by decide)).trans f35_31
 have f36_35 : b36.tmps[35]? = some (.agg #[.string ⟨#[114, 101, 116, 114, 105, 101, 115]⟩, .pointer (some ⟨g, 8, none⟩), .int .i64 0, .int .i64 5]) := by rw [← hb]; exact (put_off (by decide)).trans f35_35
 have f36_39 : b36.tmps[39]? = some (.agg #[.string ⟨#[101, 109, 112, 116, 121]⟩, .pointer (some ⟨g, 9, none⟩), .int .i64 0, .int .i64 10000]) := by rw [← hb]; exact (put_off (by decide)).trans f35_39
 have f36_40 : b36.tmps[40]? = some (.pointer (some ⟨g, 0, none⟩)) := by rw [← hb]; exact put_at (by rw [s35.out]; decide)
 clear hb f35_0 f35_7 f35_11 f35_15 f35_19 f35_23 f35_27 f35_31 f35_35 f35_39 s35 dd35
 refine wpAnyJ_take (i := 37) (d := some 41) (v := .pointer (some ⟨g, 0, none⟩)) rfl (by kernel_rfl) (by kernel_rfl) (by decide +kernel) (by decide +kernel) (by decide +kernel) (by decide) (by decide +kernel) (fun _ _ _ h => h) (Or.inl ⟨by rfl, by (intro w hSw; (try dsimp only at hSw); go_simp; first | done | exact rfl)⟩) hS ?_
 generalize hb : Act.put _ _ _ = b37
 have s37 : Aside0 (b37.tmps.size = 63) := ⟨by rw [← hb]; exact (put_size _ _ _).trans s36.out⟩
 have dd37 : Aside0 (b37.defers = []) := ⟨by rw [← hb]; exact (put_defers _ _ _).trans dd36.out⟩
 have f37_0 : b37.tmps[0]? = some (.pointer (some ⟨g, 0, none⟩)) := by rw [← hb]; exact (put_off (by decide)).trans f36_0
 have f37_7 : b37.tmps[7]? = some (.agg #[.string ⟨#[102, 108, 111, 111, 114, 115]⟩, .pointer (some ⟨g, 0, none⟩), .int .i64 2, .int .i64 64]) := by rw [← hb]; exact (put_off (by decide)).trans f36_7
 have f37_11 : b37.tmps[11]? = some (.agg #[.string ⟨#[99, 97, 114, 115]⟩, .pointer (some ⟨g, 2, none⟩), .int .i64 1, .int .i64 8]) := by rw [← hb]; exact (put_off (by decide)).trans f36_11
 have f37_15 : b37.tmps[15]? = some (.agg #[.string ⟨#[115, 112, 101, 101, 100]⟩, .pointer (some ⟨g, 3, none⟩), .int .i64 1, .int .i64 20]) := by rw [← hb]; exact (put_off (by decide)).trans f36_15
 have f37_19 : b37.tmps[19]? = some (.agg #[.string ⟨#[98, 114, 97, 107, 101]⟩, .pointer (some ⟨g, 4, none⟩), .int .i64 0, .int .i64 5]) := by rw [← hb]; exact (put_off (by decide)).trans f36_19
 have f37_23 : b37.tmps[23]? = some (.agg #[.string ⟨#[116, 111, 108]⟩, .pointer (some ⟨g, 5, none⟩), .int .i64 0, .int .i64 20]) := by rw [← hb]; exact (put_off (by decide)).trans f36_23
 have f37_27 : b37.tmps[27]? = some (.agg #[.string ⟨#[119, 105, 100, 116, 104]⟩, .pointer (some ⟨g, 6, none⟩), .int .i64 1, .int .i64 20]) := by rw [← hb]; exact (put_off (by decide)).trans f36_27
 have f37_31 : b37.tmps[31]? = some (.agg #[.string ⟨#[100, 119, 101, 108, 108]⟩, .pointer (some ⟨g, 7, none⟩), .int .i64 1, .int .i64 50]) := by rw [← hb]; exact (put_off (by decide)).trans f36_31
 have f37_35 : b37.tmps[35]? = some (.agg #[.string ⟨#[114, 101, 116, 114, 105, 101, 115]⟩, .pointer (some ⟨g, 8, none⟩), .int .i64 0, .int .i64 5]) := by rw [← hb]; exact (put_off (by decide)).trans f36_35
 have f37_39 : b37.tmps[39]? = some (.agg #[.string ⟨#[101, 109, 112, 116, 121]⟩, .pointer (some ⟨g, 9, none⟩), .int .i64 0, .int .i64 10000]) := by rw [← hb]; exact (put_off (by decide)).trans f36_39
 have f37_41 : b37.tmps[41]? = some (.pointer (some ⟨g, 0, none⟩)) := by rw [← hb]; exact put_at (by rw [s36.out]; decide)
 clear hb f36_0 f36_7 f36_11 f36_15 f36_19 f36_23 f36_27 f36_31 f36_35 f36_39 f36_40 s36 dd36
 refine wpAnyJ_take (i := 38) (d := some 42) (v := .pointer (some ⟨g, 10, none⟩)) rfl (by kernel_rfl) (by kernel_rfl) (by decide +kernel) (by decide +kernel) (by decide +kernel) (by decide) (by decide +kernel) (fun _ _ _ h => h) (Or.inl ⟨by rfl, by (intro w hSw; (try dsimp only at hSw); go_simp; first | done | exact rfl)⟩) hS ?_
 generalize hb : Act.put _ _ _ = b38
 have s38 : Aside0 (b38.tmps.size = 63) := ⟨by rw [← hb]; exact (put_size _ _ _).trans s37.out⟩
 have dd38 : Aside0 (b38.defers = []) := ⟨by rw [← hb]; exact (put_defers _ _ _).trans dd37.out⟩
 have f38_0 : b38.tmps[0]? = some (.pointer (some ⟨g, 0, none⟩)) := by rw [← hb]; exact (put_off (by decide)).trans f37_0
 have f38_7 : b38.tmps[7]? = some (.agg #[.string ⟨#[102, 108, 111, 111, 114, 115]⟩, .pointer (some ⟨g, 0, none⟩), .int .i64 2, .int .i64 64]) := by rw [← hb]; exact (put_off (by decide)).trans f37_7
 have f38_11 : b38.tmps[11]? = some (.agg #[.string ⟨#[99, 97, 114, 115]⟩, .pointer (some ⟨g, 2, none⟩), .int .i64 1, .int .i64 8]) := by rw [← hb]; exact (put_off (by decide)).trans f37_11
 have f38_15 : b38.tmps[15]? = some (.agg #[.string ⟨#[115, 112, 101, 101, 100]⟩, .pointer (some ⟨g, 3, none⟩), .int .i64 1, .int .i64 20]) := by rw [← hb]; exact (put_off (by decide)).trans f37_15
 have f38_19 : b38.tmps[19]? = some (.agg #[.string ⟨#[98, 114, 97, 107, 101]⟩, .pointer (some ⟨g, 4, none⟩), .int .i64 0, .int .i64 5]) := by rw [← hb]; exact (put_off (by decide)).trans f37_19
 have f38_23 : b38.tmps[23]? = some (.agg #[.string ⟨#[116, 111, 108]⟩, .pointer (some ⟨g, 5, none⟩), .int .i64 0, .int .i64 20]) := by rw [← hb]; exact (put_off (by decide)).trans f37_23
 have f38_27 : b38.tmps[27]? = some (.agg #[.string ⟨#[119, 105, 100, 116, 104]⟩, .pointer (some ⟨g, 6, none⟩), .int .i64 1, .int .i64 20]) := by rw [← hb]; exact (put_off (by decide)).trans f37_27
 have f38_31 : b38.tmps[31]? = some (.agg #[.string ⟨#[100, 119, 101, 108, 108]⟩, .pointer (some ⟨g, 7, none⟩), .int .i64 1, .int .i64 50]) := by rw [← hb]; exact (put_off (by decide)).trans f37_31
 have f38_35 : b38.tmps[35]? = some (.agg #[.string ⟨#[114, 101, 116, 114, 105, 101, 115]⟩, .pointer (some ⟨g, 8, none⟩), .int .i64 0, .int .i64 5]) := by rw [← hb]; exact (put_off (by decide)).trans f37_35
 have f38_39 : b38.tmps[39]? = some (.agg #[.string ⟨#[101, 109, 112, 116, 121]⟩, .pointer (some ⟨g, 9, none⟩), .int .i64 0, .int .i64 10000]) := by rw [← hb]; exact (put_off (by decide)).trans f37_39
 have f38_42 : b38.tmps[42]? = some (.pointer (some ⟨g, 10, none⟩)) := by rw [← hb]; exact put_at (by rw [s37.out]; decide)
 clear hb f37_0 f37_7 f37_11 f37_15 f37_19 f37_23 f37_27 f37_31 f37_35 f37_39 f37_41 s37 dd37
 refine wpAnyJ_take (i := 39) (d := some 43) (v := .pointer (some ⟨g, 0, none⟩)) rfl (by kernel_rfl) (by kernel_rfl) (by decide +kernel) (by decide +kernel) (by decide +kernel) (by decide) (by decide +kernel) (fun _ _ _ h => h) (Or.inl ⟨by rfl, by (intro w hSw; (try dsimp only at hSw); go_simp; first | done | exact rfl)⟩) hS ?_
 generalize hb : Act.put _ _ _ = b39
 have s39 : Aside0 (b39.tmps.size = 63) := ⟨by rw [← hb]; exact (put_size _ _ _).trans s38.out⟩
 have dd39 : Aside0 (b39.defers = []) := ⟨by rw [← hb]; exact (put_defers _ _ _).trans dd38.out⟩
 have f39_0 : b39.tmps[0]? = some (.pointer (some ⟨g, 0, none⟩)) := by rw [← hb]; exact (put_off (by decide)).trans f38_0
 have f39_7 : b39.tmps[7]? = some (.agg #[.string ⟨#[102, 108, 111, 111, 114, 115]⟩, .pointer (some ⟨g, 0, none⟩), .int .i64 2, .int .i64 64]) := by rw [← hb]; exact (put_off (by decide)).trans f38_7
 have f39_11 : b39.tmps[11]? = some (.agg #[.string ⟨#[99, 97, 114, 115]⟩, .pointer (some ⟨g, 2, none⟩), .int .i64 1, .int .i64 8]) := by rw [← hb]; exact (put_off (by decide)).trans f38_11
 have f39_15 : b39.tmps[15]? = some (.agg #[.string ⟨#[115, 112, 101, 101, 100]⟩, .pointer (some ⟨g, 3, none⟩), .int .i64 1, .int .i64 20]) := by rw [← hb]; exact (put_off (by decide)).trans f38_15
 have f39_19 : b39.tmps[19]? = some (.agg #[.string ⟨#[98, 114, 97, 107, 101]⟩, .pointer (some ⟨g, 4, none⟩), .int .i64 0, .int .i64 5]) := by rw [← hb]; exact (put_off (by decide)).trans f38_19
 have f39_23 : b39.tmps[23]? = some (.agg #[.string ⟨#[116, 111, 108]⟩, .pointer (some ⟨g, 5, none⟩), .int .i64 0, .int .i64 20]) := by rw [← hb]; exact (put_off (by decide)).trans f38_23
 have f39_27 : b39.tmps[27]? = some (.agg #[.string ⟨#[119, 105, 100, 116, 104]⟩, .pointer (some ⟨g, 6, none⟩), .int .i64 1, .int .i64 20]) := by rw [← hb]; exact (put_off (by decide)).trans f38_27
 have f39_31 : b39.tmps[31]? = some (.agg #[.string ⟨#[100, 119, 101, 108, 108]⟩, .pointer (some ⟨g, 7, none⟩), .int .i64 1, .int .i64 50]) := by rw [← hb]; exact (put_off (by decide)).trans f38_31
 have f39_35 : b39.tmps[35]? = some (.agg #[.string ⟨#[114, 101, 116, 114, 105, 101, 115]⟩, .pointer (some ⟨g, 8, none⟩), .int .i64 0, .int .i64 5]) := by rw [← hb]; exact (put_off (by decide)).trans f38_35
 have f39_39 : b39.tmps[39]? = some (.agg #[.string ⟨#[101, 109, 112, 116, 121]⟩, .pointer (some ⟨g, 9, none⟩), .int .i64 0, .int .i64 10000]) := by rw [← hb]; exact (put_off (by decide)).trans f38_39
 have f39_42 : b39.tmps[42]? = some (.pointer (some ⟨g, 10, none⟩)) := by rw [← hb]; exact (put_off (by decide)).trans f38_42
 have f39_43 : b39.tmps[43]? = some (.pointer (some ⟨g, 0, none⟩)) := by rw [← hb]; exact put_at (by rw [s38.out]; decide)
 clear hb f38_0 f38_7 f38_11 f38_15 f38_19 f38_23 f38_27 f38_31 f38_35 f38_39 f38_42 s38 dd38
 refine wpAnyJ_take (i := 40) (d := some 44) (v := .pointer (some ⟨g, 0, none⟩)) rfl (by kernel_rfl) (by kernel_rfl) (by decide +kernel) (by decide +kernel) (by decide +kernel) (by decide) (by decide +kernel) (fun _ _ _ h => h) (Or.inl ⟨by rfl, by (intro w hSw; (try dsimp only at hSw); go_simp; first | done | exact rfl)⟩) hS ?_
 generalize hb : Act.put _ _ _ = b40
 have s40 : Aside0 (b40.tmps.size = 63) := ⟨by rw [← hb]; exact (put_size _ _ _).trans s39.out⟩
 have dd40 : Aside0 (b40.defers = []) := ⟨by rw [← hb]; exact (put_defers _ _ _).trans dd39.out⟩
 have f40_0 : b40.tmps[0]? = some (.pointer (some ⟨g, 0, none⟩)) := by rw [← hb]; exact (put_off (by decide)).trans f39_0
 have f40_7 : b40.tmps[7]? = some (.agg #[.string ⟨#[102, 108, 111, 111, 114, 115]⟩, .pointer (some ⟨g, 0, none⟩), .int .i64 2, .int .i64 64]) := by rw [← hb]; exact (put_off (by decide)).trans f39_7
 have f40_11 : b40.tmps[11]? = some (.agg #[.string ⟨#[99, 97, 114, 115]⟩, .pointer (some ⟨g, 2, none⟩), .int .i64 1, .int .i64 8]) := by rw [← hb]; exact (put_off (by decide)).trans f39_11
 have f40_15 : b40.tmps[15]? = some (.agg #[.string ⟨#[115, 112, 101, 101, 100]⟩, .pointer (some ⟨g, 3, none⟩), .int .i64 1, .int .i64 20]) := by rw [← hb]; exact (put_off (by decide)).trans f39_15
 have f40_19 : b40.tmps[19]? = some (.agg #[.string ⟨#[98, 114, 97, 107, 101]⟩, .pointer (some ⟨g, 4, none⟩), .int .i64 0, .int .i64 5]) := by rw [← hb]; exact (put_off (by decide)).trans f39_19
 have f40_23 : b40.tmps[23]? = some (.agg #[.string ⟨#[116, 111, 108]⟩, .pointer (some ⟨g, 5, none⟩), .int .i64 0, .int .i64 20]) := by rw [← hb]; exact (put_off (by decide)).trans f39_23
 have f40_27 : b40.tmps[27]? = some (.agg #[.string ⟨#[119, 105, 100, 116, 104]⟩, .pointer (some ⟨g, 6, none⟩), .int .i64 1, .int .i64 20]) := by rw [← hb]; exact (put_off (by decide)).trans f39_27
 have f40_31 : b40.tmps[31]? = some (.agg #[.string ⟨#[100, 119, 101, 108, 108]⟩, .pointer (some ⟨g, 7, none⟩), .int .i64 1, .int .i64 50]) := by rw [← hb]; exact (put_off (by decide)).trans f39_31
 have f40_35 : b40.tmps[35]? = some (.agg #[.string ⟨#[114, 101, 116, 114, 105, 101, 115]⟩, .pointer (some ⟨g, 8, none⟩), .int .i64 0, .int .i64 5]) := by rw [← hb]; exact (put_off (by decide)).trans f39_35
 have f40_39 : b40.tmps[39]? = some (.agg #[.string ⟨#[101, 109, 112, 116, 121]⟩, .pointer (some ⟨g, 9, none⟩), .int .i64 0, .int .i64 10000]) := by rw [← hb]; exact (put_off (by decide)).trans f39_39
 have f40_42 : b40.tmps[42]? = some (.pointer (some ⟨g, 10, none⟩)) := by rw [← hb]; exact (put_off (by decide)).trans f39_42
 have f40_44 : b40.tmps[44]? = some (.pointer (some ⟨g, 0, none⟩)) := by rw [← hb]; exact put_at (by rw [s39.out]; decide)
 clear hb f39_0 f39_7 f39_11 f39_15 f39_19 f39_23 f39_27 f39_31 f39_35 f39_39 f39_42 f39_43 s39 dd39
 refine wpAnyJ_take (i := 41) (d := some 45) (v := .pointer (some ⟨g, 9, none⟩)) rfl (by kernel_rfl) (by kernel_rfl) (by decide +kernel) (by decide +kernel) (by decide +kernel) (by decide) (by decide +kernel) (fun _ _ _ h => h) (Or.inl ⟨by rfl, by (intro w hSw; (try dsimp only at hSw); go_simp; first | done | exact rfl)⟩) hS ?_
 generalize hb : Act.put _ _ _ = b41
 have s41 : Aside0 (b41.tmps.size = 63) := ⟨by rw [← hb]; exact (put_size _ _ _).trans s40.out⟩
 have dd41 : Aside0 (b41.defers = []) := ⟨by rw [← hb]; exact (put_defers _ _ _).trans dd40.out⟩
 have f41_0 : b41.tmps[0]? = some (.pointer (some ⟨g, 0, none⟩)) := by rw [← hb]; exact (put_off (by decide)).trans f40_0
 have f41_7 : b41.tmps[7]? = some (.agg #[.string ⟨#[102, 108, 111, 111, 114, 115]⟩, .pointer (some ⟨g, 0, none⟩), .int .i64 2, .int .i64 64]) := by rw [← hb]; exact (put_off (by decide)).trans f40_7
 have f41_11 : b41.tmps[11]? = some (.agg #[.string ⟨#[99, 97, 114, 115]⟩, .pointer (some ⟨g, 2, none⟩), .int .i64 1, .int .i64 8]) := by rw [← hb]; exact (put_off (by decide)).trans f40_11
 have f41_15 : b41.tmps[15]? = some (.agg #[.string ⟨#[115, 112, 101, 101, 100]⟩, .pointer (some ⟨g, 3, none⟩), .int .i64 1, .int .i64 20]) := by rw [← hb]; exact (put_off (by decide)).trans f40_15
 have f41_19 : b41.tmps[19]? = some (.agg #[.string ⟨#[98, 114, 97, 107, 101]⟩, .pointer (some ⟨g, 4, none⟩), .int .i64 0, .int .i64 5]) := by rw [← hb]; exact (put_off (by decide)).trans f40_19
 have f41_23 : b41.tmps[23]? = some (.agg #[.string ⟨#[116, 111, 108]⟩, .pointer (some ⟨g, 5, none⟩), .int .i64 0, .int .i64 20]) := by rw [← hb]; exact (put_off (by decide)).trans f40_23
 have f41_27 : b41.tmps[27]? = some (.agg #[.string ⟨#[119, 105, 100, 116, 104]⟩, .pointer (some ⟨g, 6, none⟩), .int .i64 1, .int .i64 20]) := by rw [← hb]; exact (put_off (by decide)).trans f40_27
 have f41_31 : b41.tmps[31]? = some (.agg #[.string ⟨#[100, 119, 101, 108, 108]⟩, .pointer (some ⟨g, 7, none⟩), .int .i64 1, .int .i64 50]) := by rw [← hb]; exact (put_off (by decide)).trans f40_31
 have f41_35 : b41.tmps[35]? = some (.agg #[.string ⟨#[114, 101, 116, 114, 105, 101, 115]⟩, .pointer (some ⟨g, 8, none⟩), .int .i64 0, .int .i64 5]) := by rw [← hb]; exact (put_off (by decide)).trans f40_35
 have f41_39 : b41.tmps[39]? = some (.agg #[.string ⟨#[101, 109, 112, 116, 121]⟩, .pointer (some ⟨g, 9, none⟩), .int .i64 0, .int .i64 10000]) := by rw [← hb]; exact (put_off (by decide)).trans f40_39
 have f41_42 : b41.tmps[42]? = some (.pointer (some ⟨g, 10, none⟩)) := by rw [← hb]; exact (put_off (by decide)).trans f40_42
 have f41_45 : b41.tmps[45]? = some (.pointer (some ⟨g, 9, none⟩)) := by rw [← hb]; exact put_at (by rw [s40.out]; decide)
 clear hb f40_0 f40_7 f40_11 f40_15 f40_19 f40_23 f40_27 f40_31 f40_35 f40_39 f40_42 f40_44 s40 dd40
 refine wpAnyJ_take (i := 42) (d := some 46) (v := .int .i64 c.empty) rfl (by kernel_rfl) (by kernel_rfl) (by decide +kernel) (by decide +kernel) (by decide +kernel) (by decide) (by decide +kernel) (fun _ _ _ h => h) (Or.inl ⟨by rfl, by (intro w hSw; (try dsimp only at hSw); go_simp; first | done | exact rfl)⟩) hS ?_
 generalize hb : Act.put _ _ _ = b42
 have s42 : Aside0 (b42.tmps.size = 63) := ⟨by rw [← hb]; exact (put_size _ _ _).trans s41.out⟩
 have dd42 : Aside0 (b42.defers = []) := ⟨by rw [← hb]; exact (put_defers _ _ _).trans dd41.out⟩
 have f42_0 : b42.tmps[0]? = some (.pointer (some ⟨g, 0, none⟩)) := by rw [← hb]; exact (put_off (by decide)).trans f41_0
 have f42_7 : b42.tmps[7]? = some (.agg #[.string ⟨#[102, 108, 111, 111, 114, 115]⟩, .pointer (some ⟨g, 0, none⟩), .int .i64 2, .int .i64 64]) := by rw [← hb]; exact (put_off (by decide)).trans f41_7
 have f42_11 : b42.tmps[11]? = some (.agg #[.string ⟨#[99, 97, 114, 115]⟩, .pointer (some ⟨g, 2, none⟩), .int .i64 1, .int .i64 8]) := by rw [← hb]; exact (put_off (by decide)).trans f41_11
 have f42_15 : b42.tmps[15]? = some (.agg #[.string ⟨#[115, 112, 101, 101, 100]⟩, .pointer (some ⟨g, 3, none⟩), .int .i64 1, .int .i64 20]) := by rw [← hb]; exact (put_off (by decide)).trans f41_15
 have f42_19 : b42.tmps[19]? = some (.agg #[.string ⟨#[98, 114, 97, 107, 101]⟩, .pointer (some ⟨g, 4, none⟩), .int .i64 0, .int .i64 5]) := by rw [← hb]; exact (put_off (by decide)).trans f41_19
 have f42_23 : b42.tmps[23]? = some (.agg #[.string ⟨#[116, 111, 108]⟩, .pointer (some ⟨g, 5, none⟩), .int .i64 0, .int .i64 20]) := by rw [← hb]; exact (put_off (by decide)).trans f41_23
 have f42_27 : b42.tmps[27]? = some (.agg #[.string ⟨#[119, 105, 100, 116, 104]⟩, .pointer (some ⟨g, 6, none⟩), .int .i64 1, .int .i64 20]) := by rw [← hb]; exact (put_off (by decide)).trans f41_27
 have f42_31 : b42.tmps[31]? = some (.agg #[.string ⟨#[100, 119, 101, 108, 108]⟩, .pointer (some ⟨g, 7, none⟩), .int .i64 1, .int .i64 50]) := by rw [← hb]; exact (put_off (by decide)).trans f41_31
 have f42_35 : b42.tmps[35]? = some (.agg #[.string ⟨#[114, 101, 116, 114, 105, 101, 115]⟩, .pointer (some ⟨g, 8, none⟩), .int .i64 0, .int .i64 5]) := by rw [← hb]; exact (put_off (by decide)).trans f41_35
 have f42_39 : b42.tmps[39]? = some (.agg #[.string ⟨#[101, 109, 112, 116, 121]⟩, .pointer (some ⟨g, 9, none⟩), .int .i64 0, .int .i64 10000]) := by rw [← hb]; exact (put_off (by decide)).trans f41_39
 have f42_42 : b42.tmps[42]? = some (.pointer (some ⟨g, 10, none⟩)) := by rw [← hb]; exact (put_off (by decide)).trans f41_42
 have f42_46 : b42.tmps[46]? = some (.int .i64 c.empty) := by rw [← hb]; exact put_at (by rw [s41.out]; decide)
 clear hb f41_0 f41_7 f41_11 f41_15 f41_19 f41_23 f41_27 f41_31 f41_35 f41_39 f41_42 f41_45 s41 dd41
 refine wpAnyJ_take (i := 43) (d := some 47) (v := .int .i64 (IntKind.i64.wrap (c.empty + 1))) rfl (by kernel_rfl) (by kernel_rfl) (by decide +kernel) (by decide +kernel) (by decide +kernel) (by decide) (by decide +kernel) (fun _ _ _ h => h) (Or.inl ⟨by rfl, by (intro w hSw; (try dsimp only at hSw); go_simp; first | done | exact rfl)⟩) hS ?_
 generalize hb : Act.put _ _ _ = b43
 have s43 : Aside0 (b43.tmps.size = 63) := ⟨by rw [← hb]; exact (put_size _ _ _).trans s42.out⟩
 have dd43 : Aside0 (b43.defers = []) := ⟨by rw [← hb]; exact (put_defers _ _ _).trans dd42.out⟩
 have f43_0 : b43.tmps[0]? = some (.pointer (some ⟨g, 0, none⟩)) := by rw [← hb]; exact (put_off (by decide)).trans f42_0
 have f43_7 : b43.tmps[7]? = some (.agg #[.string ⟨#[102, 108, 111, 111, 114, 115]⟩, .pointer (some ⟨g, 0, none⟩), .int .i64 2, .int .i64 64]) := by rw [← hb]; exact (put_off (by decide)).trans f42_7
 have f43_11 : b43.tmps[11]? = some (.agg #[.string ⟨#[99, 97, 114, 115]⟩, .pointer (some ⟨g, 2, none⟩), .int .i64 1, .int .i64 8]) := by rw [← hb]; exact (put_off (by decide)).trans f42_11
 have f43_15 : b43.tmps[15]? = some (.agg #[.string ⟨#[115, 112, 101, 101, 100]⟩, .pointer (some ⟨g, 3, none⟩), .int .i64 1, .int .i64 20]) := by rw [← hb]; exact (put_off (by decide)).trans f42_15
 have f43_19 : b43.tmps[19]? = some (.agg #[.string ⟨#[98, 114, 97, 107, 101]⟩, .pointer (some ⟨g, 4, none⟩), .int .i64 0, .int .i64 5]) := by rw [← hb]; exact (put_off (by decide)).trans f42_19
 have f43_23 : b43.tmps[23]? = some (.agg #[.string ⟨#[116, 111, 108]⟩, .pointer (some ⟨g, 5, none⟩), .int .i64 0, .int .i64 20]) := by rw [← hb]; exact (put_off (by decide)).trans f42_23
 have f43_27 : b43.tmps[27]? = some (.agg #[.string ⟨#[119, 105, 100, 116, 104]⟩, .pointer (some ⟨g, 6, none⟩), .int .i64 1, .int .i64 20]) := by rw [← hb]; exact (put_off (by decide)).trans f42_27
 have f43_31 : b43.tmps[31]? = some (.agg #[.string ⟨#[100, 119, 101, 108, 108]⟩, .pointer (some ⟨g, 7, none⟩), .int .i64 1, .int .i64 50]) := by rw [← hb]; exact (put_off (by decide)).trans f42_31
 have f43_35 : b43.tmps[35]? = some (.agg #[.string ⟨#[114, 101, 116, 114, 105, 101, 115]⟩, .pointer (some ⟨g, 8, none⟩), .int .i64 0, .int .i64 5]) := by rw [← hb]; exact (put_off (by decide)).trans f42_35
 have f43_39 : b43.tmps[39]? = some (.agg #[.string ⟨#[101, 109, 112, 116, 121]⟩, .pointer (some ⟨g, 9, none⟩), .int .i64 0, .int .i64 10000]) := by rw [← hb]; exact (put_off (by decide)).trans f42_39
 have f43_42 : b43.tmps[42]? = some (.pointer (some ⟨g, 10, none⟩)) := by rw [← hb]; exact (put_off (by decide)).trans f42_42
 have f43_47 : b43.tmps[47]? = some (.int .i64 (IntKind.i64.wrap (c.empty + 1))) := by rw [← hb]; exact put_at (by rw [s42.out]; decide)
 clear hb f42_0 f42_7 f42_11 f42_15 f42_19 f42_23 f42_27 f42_31 f42_35 f42_39 f42_42 f42_46 s42 dd42
 refine wpAnyJ_take (i := 44) (d := some 48) (v := .agg #[.string ⟨#[102, 117, 108, 108]⟩, .pointer (some ⟨g, 10, none⟩), .int .i64 (IntKind.i64.wrap (c.empty + 1)), .int .i64 10000]) rfl (by kernel_rfl) (by kernel_rfl) (by decide +kernel) (by decide +kernel) (by decide +kernel) (by decide) (by decide +kernel) (fun _ _ _ h => h) (Or.inl ⟨by rfl, by (intro w hSw; (try dsimp only at hSw); go_simp; first | done | exact rfl)⟩) hS ?_
 generalize hb : Act.put _ _ _ = b44
 have s44 : Aside0 (b44.tmps.size = 63) := ⟨by rw [← hb]; exact (put_size _ _ _).trans s43.out⟩
 have dd44 : Aside0 (b44.defers = []) := ⟨by rw [← hb]; exact (put_defers _ _ _).trans dd43.out⟩
 have f44_0 : b44.tmps[0]? = some (.pointer (some ⟨g, 0, none⟩)) := by rw [← hb]; exact (put_off (by decide)).trans f43_0
 have f44_7 : b44.tmps[7]? = some (.agg #[.string ⟨#[102, 108, 111, 111, 114, 115]⟩, .pointer (some ⟨g, 0, none⟩), .int .i64 2, .int .i64 64]) := by rw [← hb]; exact (put_off (by decide)).trans f43_7
 have f44_11 : b44.tmps[11]? = some (.agg #[.string ⟨#[99, 97, 114, 115]⟩, .pointer (some ⟨g, 2, none⟩), .int .i64 1, .int .i64 8]) := by rw [← hb]; exact (put_off (by decide)).trans f43_11
 have f44_15 : b44.tmps[15]? = some (.agg #[.string ⟨#[115, 112, 101, 101, 100]⟩, .pointer (some ⟨g, 3, none⟩), .int .i64 1, .int .i64 20]) := by rw [← hb]; exact (put_off (by decide)).trans f43_15
 have f44_19 : b44.tmps[19]? = some (.agg #[.string ⟨#[98, 114, 97, 107, 101]⟩, .pointer (some ⟨g, 4, none⟩), .int .i64 0, .int .i64 5]) := by rw [← hb]; exact (put_off (by decide)).trans f43_19
 have f44_23 : b44.tmps[23]? = some (.agg #[.string ⟨#[116, 111, 108]⟩, .pointer (some ⟨g, 5, none⟩), .int .i64 0, .int .i64 20]) := by rw [← hb]; exact (put_off (by decide)).trans f43_23
 have f44_27 : b44.tmps[27]? = some (.agg #[.string ⟨#[119, 105, 100, 116, 104]⟩, .pointer (some ⟨g, 6, none⟩), .int .i64 1, .int .i64 20]) := by rw [← hb]; exact (put_off (by decide)).trans f43_27
 have f44_31 : b44.tmps[31]? = some (.agg #[.string ⟨#[100, 119, 101, 108, 108]⟩, .pointer (some ⟨g, 7, none⟩), .int .i64 1, .int .i64 50]) := by rw [← hb]; exact (put_off (by decide)).trans f43_31
 have f44_35 : b44.tmps[35]? = some (.agg #[.string ⟨#[114, 101, 116, 114, 105, 101, 115]⟩, .pointer (some ⟨g, 8, none⟩), .int .i64 0, .int .i64 5]) := by rw [← hb]; exact (put_off (by decide)).trans f43_35
 have f44_39 : b44.tmps[39]? = some (.agg #[.string ⟨#[101, 109, 112, 116, 121]⟩, .pointer (some ⟨g, 9, none⟩), .int .i64 0, .int .i64 10000]) := by rw [← hb]; exact (put_off (by decide)).trans f43_39
 have f44_48 : b44.tmps[48]? = some (.agg #[.string ⟨#[102, 117, 108, 108]⟩, .pointer (some ⟨g, 10, none⟩), .int .i64 (IntKind.i64.wrap (c.empty + 1)), .int .i64 10000]) := by rw [← hb]; exact put_at (by rw [s43.out]; decide)
 clear hb f43_0 f43_7 f43_11 f43_15 f43_19 f43_23 f43_27 f43_31 f43_35 f43_39 f43_42 f43_47 s43 dd43
 refine wpAnyJ_take (i := 45) (d := some 49) (v := .pointer (some ⟨g, 0, none⟩)) rfl (by kernel_rfl) (by kernel_rfl) (by decide +kernel) (by decide +kernel) (by decide +kernel) (by decide) (by decide +kernel) (fun _ _ _ h => h) (Or.inl ⟨by rfl, by (intro w hSw; (try dsimp only at hSw); go_simp; first | done | exact rfl)⟩) hS ?_
 generalize hb : Act.put _ _ _ = b45
 have s45 : Aside0 (b45.tmps.size = 63) := ⟨by rw [← hb]; exact (put_size _ _ _).trans s44.out⟩
 have dd45 : Aside0 (b45.defers = []) := ⟨by rw [← hb]; exact (put_defers _ _ _).trans dd44.out⟩
 have f45_0 : b45.tmps[0]? = some (.pointer (some ⟨g, 0, none⟩)) := by rw [← hb]; exact (put_off (by decide)).trans f44_0
 have f45_7 : b45.tmps[7]? = some (.agg #[.string ⟨#[102, 108, 111, 111, 114, 115]⟩, .pointer (some ⟨g, 0, none⟩), .int .i64 2, .int .i64 64]) := by rw [← hb]; exact (put_off (by decide)).trans f44_7
 have f45_11 : b45.tmps[11]? = some (.agg #[.string ⟨#[99, 97, 114, 115]⟩, .pointer (some ⟨g, 2, none⟩), .int .i64 1, .int .i64 8]) := by rw [← hb]; exact (put_off (by decide)).trans f44_11
 have f45_15 : b45.tmps[15]? = some (.agg #[.string ⟨#[115, 112, 101, 101, 100]⟩, .pointer (some ⟨g, 3, none⟩), .int .i64 1, .int .i64 20]) := by rw [← hb]; exact (put_off (by decide)).trans f44_15
 have f45_19 : b45.tmps[19]? = some (.agg #[.string ⟨#[98, 114, 97, 107, 101]⟩, .pointer (some ⟨g, 4, none⟩), .int .i64 0, .int .i64 5]) := by rw [← hb]; exact (put_off (by decide)).trans f44_19
 have f45_23 : b45.tmps[23]? = some (.agg #[.string ⟨#[116, 111, 108]⟩, .pointer (some ⟨g, 5, none⟩), .int .i64 0, .int .i64 20]) := by rw [← hb]; exact (put_off (by decide)).trans f44_23
 have f45_27 : b45.tmps[27]? = some (.agg #[.string ⟨#[119, 105, 100, 116, 104]⟩, .pointer (some ⟨g, 6, none⟩), .int .i64 1, .int .i64 20]) := by rw [← hb]; exact (put_off (by decide)).trans f44_27
 have f45_31 : b45.tmps[31]? = some (.agg #[.string ⟨#[100, 119, 101, 108, 108]⟩, .pointer (some ⟨g, 7, none⟩), .int .i64 1, .int .i64 50]) := by rw [← hb]; exact (put_off (by decide)).trans f44_31
 have f45_35 : b45.tmps[35]? = some (.agg #[.string ⟨#[114, 101, 116, 114, 105, 101, 115]⟩, .pointer (some ⟨g, 8, none⟩), .int .i64 0, .int .i64 5]) := by rw [← hb]; exact (put_off (by decide)).trans f44_35
 have f45_39 : b45.tmps[39]? = some (.agg #[.string ⟨#[101, 109, 112, 116, 121]⟩, .pointer (some ⟨g, 9, none⟩), .int .i64 0, .int .i64 10000]) := by rw [← hb]; exact (put_off (by decide)).trans f44_39
 have f45_48 : b45.tmps[48]? = some (.agg #[.string ⟨#[102, 117, 108, 108]⟩, .pointer (some ⟨g, 10, none⟩), .int .i64 (IntKind.i64.wrap (c.empty + 1)), .int .i64 10000]) := by rw [← hb]; exact (put_off (by decide)).trans f44_48
 have f45_49 : b45.tmps[49]? = some (.pointer (some ⟨g, 0, none⟩)) := by rw [← hb]; exact put_at (by rw [s44.out]; decide)
 clear hb f44_0 f44_7 f44_11 f44_15 f44_19 f44_23 f44_27 f44_31 f44_35 f44_39 f44_48 s44 dd44
 refine wpAnyJ_take (i := 46) (d := some 50) (v := .pointer (some ⟨g, 0, none⟩)) rfl (by kernel_rfl) (by kernel_rfl) (by decide +kernel) (by decide +kernel) (by decide +kernel) (by decide) (by decide +kernel) (fun _ _ _ h => h) (Or.inl ⟨by rfl, by (intro w hSw; (try dsimp only at hSw); go_simp; first | done | exact rfl)⟩) hS ?_
 generalize hb : Act.put _ _ _ = b46
 have s46 : Aside0 (b46.tmps.size = 63) := ⟨by rw [← hb]; exact (put_size _ _ _).trans s45.out⟩
 have dd46 : Aside0 (b46.defers = []) := ⟨by rw [← hb]; exact (put_defers _ _ _).trans dd45.out⟩
 have f46_0 : b46.tmps[0]? = some (.pointer (some ⟨g, 0, none⟩)) := by rw [← hb]; exact (put_off (by decide)).trans f45_0
 have f46_7 : b46.tmps[7]? = some (.agg #[.string ⟨#[102, 108, 111, 111, 114, 115]⟩, .pointer (some ⟨g, 0, none⟩), .int .i64 2, .int .i64 64]) := by rw [← hb]; exact (put_off (by decide)).trans f45_7
 have f46_11 : b46.tmps[11]? = some (.agg #[.string ⟨#[99, 97, 114, 115]⟩, .pointer (some ⟨g, 2, none⟩), .int .i64 1, .int .i64 8]) := by rw [← hb]; exact (put_off (by decide)).trans f45_11
 have f46_15 : b46.tmps[15]? = some (.agg #[.string ⟨#[115, 112, 101, 101, 100]⟩, .pointer (some ⟨g, 3, none⟩), .int .i64 1, .int .i64 20]) := by rw [← hb]; exact (put_off (by decide)).trans f45_15
 have f46_19 : b46.tmps[19]? = some (.agg #[.string ⟨#[98, 114, 97, 107, 101]⟩, .pointer (some ⟨g, 4, none⟩), .int .i64 0, .int .i64 5]) := by rw [← hb]; exact (put_off (by decide)).trans f45_19
 have f46_23 : b46.tmps[23]? = some (.agg #[.string ⟨#[116, 111, 108]⟩, .pointer (some ⟨g, 5, none⟩), .int .i64 0, .int .i64 20]) := by rw [← hb]; exact (put_off (by decide)).trans f45_23
 have f46_27 : b46.tmps[27]? = some (.agg #[.string ⟨#[119, 105, 100, 116, 104]⟩, .pointer (some ⟨g, 6, none⟩), .int .i64 1, .int .i64 20]) := by rw [← hb]; exact (put_off (by decide)).trans f45_27
 have f46_31 : b46.tmps[31]? = some (.agg #[.string ⟨#[100, 119, 101, 108, 108]⟩, .pointer (some ⟨g, 7, none⟩), .int .i64 1, .int .i64 50]) := by rw [← hb]; exact (put_off (by decide)).trans f45_31
 have f46_35 : b46.tmps[35]? = some (.agg #[.string ⟨#[114, 101, 116, 114, 105, 101, 115]⟩, .pointer (some ⟨g, 8, none⟩), .int .i64 0, .int .i64 5]) := by rw [← hb]; exact (put_off (by decide)).trans f45_35
 have f46_39 : b46.tmps[39]? = some (.agg #[.string ⟨#[101, 109, 112, 116, 121]⟩, .pointer (some ⟨g, 9, none⟩), .int .i64 0, .int .i64 10000]) := by rw [← hb]; exact (put_off (by decide)).trans f45_39
 have f46_48 : b46.tmps[48]? = some (.agg #[.string ⟨#[102, 117, 108, 108]⟩, .pointer (some ⟨g, 10, none⟩), .int .i64 (IntKind.i64.wrap (c.empty + 1)), .int .i64 10000]) := by rw [← hb]; exact (put_off (by decide)).trans f45_48
 have f46_50 : b46.tmps[50]? = some (.pointer (some ⟨g, 0, none⟩)) := by rw [← hb]; exact put_at (by rw [s45.out]; decide)
 clear hb f45_0 f45_7 f45_11 f45_15 f45_19 f45_23 f45_27 f45_31 f45_35 f45_39 f45_48 f45_49 s45 dd45
 refine wpAnyJ_take (i := 47) (d := some 51) (v := .pointer (some ⟨g, 11, none⟩)) rfl (by kernel_rfl) (by kernel_rfl) (by decide +kernel) (by decide +kernel) (by decide +kernel) (by decide) (by decide +kernel) (fun _ _ _ h => h) (Or.inl ⟨by rfl, by (intro w hSw; (try dsimp only at hSw); go_simp; first | done | exact rfl)⟩) hS ?_
 generalize hb : Act.put _ _ _ = b47
 have s47 : Aside0 (b47.tmps.size = 63) := ⟨by rw [← hb]; exact (put_size _ _ _).trans s46.out⟩
 have dd47 : Aside0 (b47.defers = []) := ⟨by rw [← hb]; exact (put_defers _ _ _).trans dd46.out⟩
 have f47_0 : b47.tmps[0]? = some (.pointer (some ⟨g, 0, none⟩)) := by rw [← hb]; exact (put_off (by decide)).trans f46_0
 have f47_7 : b47.tmps[7]? = some (.agg #[.string ⟨#[102, 108, 111, 111, 114, 115]⟩, .pointer (some ⟨g, 0, none⟩), .int .i64 2, .int .i64 64]) := by rw [← hb]; exact (put_off (by decide)).trans f46_7
 have f47_11 : b47.tmps[11]? = some (.agg #[.string ⟨#[99, 97, 114, 115]⟩, .pointer (some ⟨g, 2, none⟩), .int .i64 1, .int .i64 8]) := by rw [← hb]; exact (put_off (by decide)).trans f46_11
 have f47_15 : b47.tmps[15]? = some (.agg #[.string ⟨#[115, 112, 101, 101, 100]⟩, .pointer (some ⟨g, 3, none⟩), .int .i64 1, .int .i64 20]) := by rw [← hb]; exact (put_off (by decide)).trans f46_15
 have f47_19 : b47.tmps[19]? = some (.agg #[.string ⟨#[98, 114, 97, 107, 101]⟩, .pointer (some ⟨g, 4, none⟩), .int .i64 0, .int .i64 5]) := by rw [← hb]; exact (put_off (by decide)).trans f46_19
 have f47_23 : b47.tmps[23]? = some (.agg #[.string ⟨#[116, 111, 108]⟩, .pointer (some ⟨g, 5, none⟩), .int .i64 0, .int .i64 20]) := by rw [← hb]; exact (put_off (by decide)).trans f46_23
 have f47_27 : b47.tmps[27]? = some (.agg #[.string ⟨#[119, 105, 100, 116, 104]⟩, .pointer (some ⟨g, 6, none⟩), .int .i64 1, .int .i64 20]) := by rw [← hb]; exact (put_off (by decide)).trans f46_27
 have f47_31 : b47.tmps[31]? = some (.agg #[.string ⟨#[100, 119, 101, 108, 108]⟩, .pointer (some ⟨g, 7, none⟩), .int .i64 1, .int .i64 50]) := by rw [← hb]; exact (put_off (by decide)).trans f46_31
 have f47_35 : b47.tmps[35]? = some (.agg #[.string ⟨#[114, 101, 116, 114, 105, 101, 115]⟩, .pointer (some ⟨g, 8, none⟩), .int .i64 0, .int .i64 5]) := by rw [← hb]; exact (put_off (by decide)).trans f46_35
 have f47_39 : b47.tmps[39]? = some (.agg #[.string ⟨#[101, 109, 112, 116, 121]⟩, .pointer (some ⟨g, 9, none⟩), .int .i64 0, .int .i64 10000]) := by rw [← hb]; exact (put_off (by decide)).trans f46_39
 have f47_48 : b47.tmps[48]? = some (.agg #[.string ⟨#[102, 117, 108, 108]⟩, .pointer (some ⟨g, 10, none⟩), .int .i64 (IntKind.i64.wrap (c.empty + 1)), .int .i64 10000]) := by rw [← hb]; exact (put_off (by decide)).trans f46_48
 have f47_51 : b47.tmps[51]? = some (.pointer (some ⟨g, 11, none⟩)) := by rw [← hb]; exact put_at (by rw [s46.out]; decide)
 clear hb f46_0 f46_7 f46_11 f46_15 f46_19 f46_23 f46_27 f46_31 f46_35 f46_39 f46_48 f46_50 s46 dd46
 refine wpAnyJ_take (i := 48) (d := some 52) (v := .agg #[.string ⟨#[116, 114, 105, 112, 115]⟩, .pointer (some ⟨g, 11, none⟩), .int .i64 1, .int .i64 16]) rfl (by kernel_rfl) (by kernel_rfl) (by decide +kernel) (by decide +kernel) (by decide +kernel) (by decide) (by decide +kernel) (fun _ _ _ h => h) (Or.inl ⟨by rfl, by (intro w hSw; (try dsimp only at hSw); go_simp; first | done | exact rfl)⟩) hS ?_
 generalize hb : Act.put _ _ _ = b48
 have s48 : Aside0 (b48.tmps.size = 63) := ⟨by rw [← hb]; exact (put_size _ _ _).trans s47.out⟩
 have dd48 : Aside0 (b48.defers = []) := ⟨by rw [← hb]; exact (put_defers _ _ _).trans dd47.out⟩
 have f48_0 : b48.tmps[0]? = some (.pointer (some ⟨g, 0, none⟩)) := by rw [← hb]; exact (put_off (by decide)).trans f47_0
 have f48_7 : b48.tmps[7]? = some (.agg #[.string ⟨#[102, 108, 111, 111, 114, 115]⟩, .pointer (some ⟨g, 0, none⟩), .int .i64 2, .int .i64 64]) := by rw [← hb]; exact (put_off (by decide)).trans f47_7
 have f48_11 : b48.tmps[11]? = some (.agg #[.string ⟨#[99, 97, 114, 115]⟩, .pointer (some ⟨g, 2, none⟩), .int .i64 1, .int .i64 8]) := by rw [← hb]; exact (put_off (by decide)).trans f47_11
 have f48_15 : b48.tmps[15]? = some (.agg #[.string ⟨#[115, 112, 101, 101, 100]⟩, .pointer (some ⟨g, 3, none⟩), .int .i64 1, .int .i64 20]) := by rw [← hb]; exact (put_off (by decide)).trans f47_15
 have f48_19 : b48.tmps[19]? = some (.agg #[.string ⟨#[98, 114, 97, 107, 101]⟩, .pointer (some ⟨g, 4, none⟩), .int .i64 0, .int .i64 5]) := by rw [← hb]; exact (put_off (by decide)).trans f47_19
 have f48_23 : b48.tmps[23]? = some (.agg #[.string ⟨#[116, 111, 108]⟩, .pointer (some ⟨g, 5, none⟩), .int .i64 0, .int .i64 20]) := by rw [← hb]; exact (put_off (by decide)).trans f47_23
 have f48_27 : b48.tmps[27]? = some (.agg #[.string ⟨#[119, 105, 100, 116, 104]⟩, .pointer (some ⟨g, 6, none⟩), .int .i64 1, .int .i64 20]) := by rw [← hb]; exact (put_off (by decide)).trans f47_27
 have f48_31 : b48.tmps[31]? = some (.agg #[.string ⟨#[100, 119, 101, 108, 108]⟩, .pointer (some ⟨g, 7, none⟩), .int .i64 1, .int .i64 50]) := by rw [← hb]; exact (put_off (by decide)).trans f47_31
 have f48_35 : b48.tmps[35]? = some (.agg #[.string ⟨#[114, 101, 116, 114, 105, 101, 115]⟩, .pointer (some ⟨g, 8, none⟩), .int .i64 0, .int .i64 5]) := by rw [← hb]; exact (put_off (by decide)).trans f47_35
 have f48_39 : b48.tmps[39]? = some (.agg #[.string ⟨#[101, 109, 112, 116, 121]⟩, .pointer (some ⟨g, 9, none⟩), .int .i64 0, .int .i64 10000]) := by rw [← hb]; exact (put_off (by decide)).trans f47_39
 have f48_48 : b48.tmps[48]? = some (.agg #[.string ⟨#[102, 117, 108, 108]⟩, .pointer (some ⟨g, 10, none⟩), .int .i64 (IntKind.i64.wrap (c.empty + 1)), .int .i64 10000]) := by rw [← hb]; exact (put_off (by decide)).trans f47_48
 have f48_52 : b48.tmps[52]? = some (.agg #[.string ⟨#[116, 114, 105, 112, 115]⟩, .pointer (some ⟨g, 11, none⟩), .int .i64 1, .int .i64 16]) := by rw [← hb]; exact put_at (by rw [s47.out]; decide)
 clear hb f47_0 f47_7 f47_11 f47_15 f47_19 f47_23 f47_27 f47_31 f47_35 f47_39 f47_48 f47_51 s47 dd47
 refine wpAnyJ_take (i := 49) (d := some 53) (v := .pointer (some ⟨g, 0, none⟩)) rfl (by kernel_rfl) (by kernel_rfl) (by decide +kernel) (by decide +kernel) (by decide +kernel) (by decide) (by decide +kernel) (fun _ _ _ h => h) (Or.inl ⟨by rfl, by (intro w hSw; (try dsimp only at hSw); go_simp; first | done | exact rfl)⟩) hS ?_
 generalize hb : Act.put _ _ _ = b49
 have s49 : Aside0 (b49.tmps.size = 63) := ⟨by rw [← hb]; exact (put_size _ _ _).trans s48.out⟩
 have dd49 : Aside0 (b49.defers = []) := ⟨by rw [← hb]; exact (put_defers _ _ _).trans dd48.out⟩
 have f49_0 : b49.tmps[0]? = some (.pointer (some ⟨g, 0, none⟩)) := by rw [← hb]; exact (put_off (by decide)).trans f48_0
 have f49_7 : b49.tmps[7]? = some (.agg #[.string ⟨#[102, 108, 111, 111, 114, 115]⟩, .pointer (some ⟨g, 0, none⟩), .int .i64 2, .int .i64 64]) := by rw [← hb]; exact (put_off (by decide)).trans f48_7
 have f49_11 : b49.tmps[11]? = some (.agg #[.string ⟨#[99, 97, 114, 115]⟩, .pointer (some ⟨g, 2, none⟩), .int .i64 1, .int .i64 8]) := by rw [← hb]; exact (put_off (by decide)).trans f48_11
 have f49_15 : b49.tmps[15]? = some (.agg #[.string ⟨#[115, 112, 101, 101, 100]⟩, .pointer (some ⟨g, 3, none⟩), .int .i64 1, .int .i64 20]) := by rw [← hb]; exact (put_off (by decide)).trans f48_15
 have f49_19 : b49.tmps[19]? = some (.agg #[.string ⟨#[98, 114, 97, 107, 101]⟩, .pointer (some ⟨g, 4, none⟩), .int .i64 0, .int .i64 5]) := by rw [← hb]; exact (put_off (by decide)).trans f48_19
 have f49_23 : b49.tmps[23]? = some (.agg #[.string ⟨#[116, 111, 108]⟩, .pointer (some ⟨g, 5, none⟩), .int .i64 0, .int .i64 20]) := by rw [← hb]; exact (put_off (by decide)).trans f48_23
 have f49_27 : b49.tmps[27]? = some (.agg #[.string ⟨#[119, 105, 100, 116, 104]⟩, .pointer (some ⟨g, 6, none⟩), .int .i64 1, .int .i64 20]) := by rw [← hb]; exact (put_off (by decide)).trans f48_27
 have f49_31 : b49.tmps[31]? = some (.agg #[.string ⟨#[100, 119, 101, 108, 108]⟩, .pointer (some ⟨g, 7, none⟩), .int .i64 1, .int .i64 50]) := by rw [← hb]; exact (put_off (by decide)).trans f48_31
 have f49_35 : b49.tmps[35]? = some (.agg #[.string ⟨#[114, 101, 116, 114, 105, 101, 115]⟩, .pointer (some ⟨g, 8, none⟩), .int .i64 0, .int .i64 5]) := by rw [← hb]; exact (put_off (by decide)).trans f48_35
 have f49_39 : b49.tmps[39]? = some (.agg #[.string ⟨#[101, 109, 112, 116, 121]⟩, .pointer (some ⟨g, 9, none⟩), .int .i64 0, .int .i64 10000]) := by rw [← hb]; exact (put_off (by decide)).trans f48_39
 have f49_48 : b49.tmps[48]? = some (.agg #[.string ⟨#[102, 117, 108, 108]⟩, .pointer (some ⟨g, 10, none⟩), .int .i64 (IntKind.i64.wrap (c.empty + 1)), .int .i64 10000]) := by rw [← hb]; exact (put_off (by decide)).trans f48_48
 have f49_52 : b49.tmps[52]? = some (.agg #[.string ⟨#[116, 114, 105, 112, 115]⟩, .pointer (some ⟨g, 11, none⟩), .int .i64 1, .int .i64 16]) := by rw [← hb]; exact (put_off (by decide)).trans f48_52
 have f49_53 : b49.tmps[53]? = some (.pointer (some ⟨g, 0, none⟩)) := by rw [← hb]; exact put_at (by rw [s48.out]; decide)
 clear hb f48_0 f48_7 f48_11 f48_15 f48_19 f48_23 f48_27 f48_31 f48_35 f48_39 f48_48 f48_52 s48 dd48
 refine wpAnyJ_take (i := 50) (d := some 54) (v := .pointer (some ⟨g, 0, none⟩)) rfl (by kernel_rfl) (by kernel_rfl) (by decide +kernel) (by decide +kernel) (by decide +kernel) (by decide) (by decide +kernel) (fun _ _ _ h => h) (Or.inl ⟨by rfl, by (intro w hSw; (try dsimp only at hSw); go_simp; first | done | exact rfl)⟩) hS ?_
 generalize hb : Act.put _ _ _ = b50
 have s50 : Aside0 (b50.tmps.size = 63) := ⟨by rw [← hb]; exact (put_size _ _ _).trans s49.out⟩
 have dd50 : Aside0 (b50.defers = []) := ⟨by rw [← hb]; exact (put_defers _ _ _).trans dd49.out⟩
 have f50_0 : b50.tmps[0]? = some (.pointer (some ⟨g, 0, none⟩)) := by rw [← hb]; exact (put_off (by decide)).trans f49_0
 have f50_7 : b50.tmps[7]? = some (.agg #[.string ⟨#[102, 108, 111, 111, 114, 115]⟩, .pointer (some ⟨g, 0, none⟩), .int .i64 2, .int .i64 64]) := by rw [← hb]; exact (put_off (by decide)).trans f49_7
 have f50_11 : b50.tmps[11]? = some (.agg #[.string ⟨#[99, 97, 114, 115]⟩, .pointer (some ⟨g, 2, none⟩), .int .i64 1, .int .i64 8]) := by rw [← hb]; exact (put_off (by decide)).trans f49_11
 have f50_15 : b50.tmps[15]? = some (.agg #[.string ⟨#[115, 112, 101, 101, 100]⟩, .pointer (some ⟨g, 3, none⟩), .int .i64 1, .int .i64 20]) := by rw [← hb]; exact (put_off (by decide)).trans f49_15
 have f50_19 : b50.tmps[19]? = some (.agg #[.string ⟨#[98, 114, 97, 107, 101]⟩, .pointer (some ⟨g, 4, none⟩), .int .i64 0, .int .i64 5]) := by rw [← hb]; exact (put_off (by decide)).trans f49_19
 have f50_23 : b50.tmps[23]? = some (.agg #[.string ⟨#[116, 111, 108]⟩, .pointer (some ⟨g, 5, none⟩), .int .i64 0, .int .i64 20]) := by rw [← hb]; exact (put_off (by decide)).trans f49_23
 have f50_27 : b50.tmps[27]? = some (.agg #[.string ⟨#[119, 105, 100, 116, 104]⟩, .pointer (some ⟨g, 6, none⟩), .int .i64 1, .int .i64 20]) := by rw [← hb]; exact (put_off (by decide)).trans f49_27
 have f50_31 : b50.tmps[31]? = some (.agg #[.string ⟨#[100, 119, 101, 108, 108]⟩, .pointer (some ⟨g, 7, none⟩), .int .i64 1, .int .i64 50]) := by rw [← hb]; exact (put_off (by decide)).trans f49_31
 have f50_35 : b50.tmps[35]? = some (.agg #[.string ⟨#[114, 101, 116, 114, 105, 101, 115]⟩, .pointer (some ⟨g, 8, none⟩), .int .i64 0, .int .i64 5]) := by rw [← hb]; exact (put_off (by decide)).trans f49_35
 have f50_39 : b50.tmps[39]? = some (.agg #[.string ⟨#[101, 109, 112, 116, 121]⟩, .pointer (some ⟨g, 9, none⟩), .int .i64 0, .int .i64 10000]) := by rw [← hb]; exact (put_off (by decide)).trans f49_39
 have f50_48 : b50.tmps[48]? = some (.agg #[.string ⟨#[102, 117, 108, 108]⟩, .pointer (some ⟨g, 10, none⟩), .int .i64 (IntKind.i64.wrap (c.empty + 1)), .int .i64 10000]) := by rw [← hb]; exact (put_off (by decide)).trans f49_48
 have f50_52 : b50.tmps[52]? = some (.agg #[.string ⟨#[116, 114, 105, 112, 115]⟩, .pointer (some ⟨g, 11, none⟩), .int .i64 1, .int .i64 16]) := by rw [← hb]; exact (put_off (by decide)).trans f49_52
 have f50_54 : b50.tmps[54]? = some (.pointer (some ⟨g, 0, none⟩)) := by rw [← hb]; exact put_at (by rw [s49.out]; decide)
 clear hb f49_0 f49_7 f49_11 f49_15 f49_19 f49_23 f49_27 f49_31 f49_35 f49_39 f49_48 f49_52 f49_53 s49 dd49
 refine wpAnyJ_take (i := 51) (d := some 55) (v := .pointer (some ⟨g, 12, none⟩)) rfl (by kernel_rfl) (by kernel_rfl) (by decide +kernel) (by decide +kernel) (by decide +kernel) (by decide) (by decide +kernel) (fun _ _ _ h => h) (Or.inl ⟨by rfl, by (intro w hSw; (try dsimp only at hSw); go_simp; first | done | exact rfl)⟩) hS ?_
 generalize hb : Act.put _ _ _ = b51
 have s51 : Aside0 (b51.tmps.size = 63) := ⟨by rw [← hb]; exact (put_size _ _ _).trans s50.out⟩
 have dd51 : Aside0 (b51.defers = []) := ⟨by rw [← hb]; exact (put_defers _ _ _).trans dd50.out⟩
 have f51_0 : b51.tmps[0]? = some (.pointer (some ⟨g, 0, none⟩)) := by rw [← hb]; exact (put_off (by decide)).trans f50_0
 have f51_7 : b51.tmps[7]? = some (.agg #[.string ⟨#[102, 108, 111, 111, 114, 115]⟩, .pointer (some ⟨g, 0, none⟩), .int .i64 2, .int .i64 64]) := by rw [← hb]; exact (put_off (by decide)).trans f50_7
 have f51_11 : b51.tmps[11]? = some (.agg #[.string ⟨#[99, 97, 114, 115]⟩, .pointer (some ⟨g, 2, none⟩), .int .i64 1, .int .i64 8]) := by rw [← hb]; exact (put_off (by decide)).trans f50_11
 have f51_15 : b51.tmps[15]? = some (.agg #[.string ⟨#[115, 112, 101, 101, 100]⟩, .pointer (some ⟨g, 3, none⟩), .int .i64 1, .int .i64 20]) := by rw [← hb]; exact (put_off (by decide)).trans f50_15
 have f51_19 : b51.tmps[19]? = some (.agg #[.string ⟨#[98, 114, 97, 107, 101]⟩, .pointer (some ⟨g, 4, none⟩), .int .i64 0, .int .i64 5]) := by rw [← hb]; exact (put_off (by decide)).trans f50_19
 have f51_23 : b51.tmps[23]? = some (.agg #[.string ⟨#[116, 111, 108]⟩, .pointer (some ⟨g, 5, none⟩), .int .i64 0, .int .i64 20]) := by rw [← hb]; exact (put_off (by decide)).trans f50_23
 have f51_27 : b51.tmps[27]? = some (.agg #[.string ⟨#[119, 105, 100, 116, 104]⟩, .pointer (some ⟨g, 6, none⟩), .int .i64 1, .int .i64 20]) := by rw [← hb]; exact (put_off (by decide)).trans f50_27
 have f51_31 : b51.tmps[31]? = some (.agg #[.string ⟨#[100, 119, 101, 108, 108]⟩, .pointer (some ⟨g, 7, none⟩), .int .i64 1, .int .i64 50]) := by rw [← hb]; exact (put_off (by decide)).trans f50_31
 have f51_35 : b51.tmps[35]? = some (.agg #[.string ⟨#[114, 101, 116, 114, 105, 101, 115]⟩, .pointer (some ⟨g, 8, none⟩), .int .i64 0, .int .i64 5]) := by rw [← hb]; exact (put_off (by decide)).trans f50_35
 have f51_39 : b51.tmps[39]? = some (.agg #[.string ⟨#[101, 109, 112, 116, 121]⟩, .pointer (some ⟨g, 9, none⟩), .int .i64 0, .int .i64 10000]) := by rw [← hb]; exact (put_off (by decide)).trans f50_39
 have f51_48 : b51.tmps[48]? = some (.agg #[.string ⟨#[102, 117, 108, 108]⟩, .pointer (some ⟨g, 10, none⟩), .int .i64 (IntKind.i64.wrap (c.empty + 1)), .int .i64 10000]) := by rw [← hb]; exact (put_off (by decide)).trans f50_48
 have f51_52 : b51.tmps[52]? = some (.agg #[.string ⟨#[116, 114, 105, 112, 115]⟩, .pointer (some ⟨g, 11, none⟩), .int .i64 1, .int .i64 16]) := by rw [← hb]; exact (put_off (by decide)).trans f50_52
 have f51_55 : b51.tmps[55]? = some (.pointer (some ⟨g, 12, none⟩)) := by rw [← hb]; exact put_at (by rw [s50.out]; decide)
 clear hb f50_0 f50_7 f50_11 f50_15 f50_19 f50_23 f50_27 f50_31 f50_35 f50_39 f50_48 f50_52 f50_54 s50 dd50
 refine wpAnyJ_take (i := 52) (d := some 56) (v := .agg #[.string ⟨#[115, 108, 111, 116, 115]⟩, .pointer (some ⟨g, 12, none⟩), .int .i64 1, .int .i64 24]) rfl (by kernel_rfl) (by kernel_rfl) (by decide +kernel) (by decide +kernel) (by decide +kernel) (by decide) (by decide +kernel) (fun _ _ _ h => h) (Or.inl ⟨by rfl, by (intro w hSw; (try dsimp only at hSw); go_simp; first | done | exact rfl)⟩) hS ?_
 generalize hb : Act.put _ _ _ = b52
 have s52 : Aside0 (b52.tmps.size = 63) := ⟨by rw [← hb]; exact (put_size _ _ _).trans s51.out⟩
 have dd52 : Aside0 (b52.defers = []) := ⟨by rw [← hb]; exact (put_defers _ _ _).trans dd51.out⟩
 have f52_0 : b52.tmps[0]? = some (.pointer (some ⟨g, 0, none⟩)) := by rw [← hb]; exact (put_off (by decide)).trans f51_0
 have f52_7 : b52.tmps[7]? = some (.agg #[.string ⟨#[102, 108, 111, 111, 114, 115]⟩, .pointer (some ⟨g, 0, none⟩), .int .i64 2, .int .i64 64]) := by rw [← hb]; exact (put_off (by decide)).trans f51_7
 have f52_11 : b52.tmps[11]? = some (.agg #[.string ⟨#[99, 97, 114, 115]⟩, .pointer (some ⟨g, 2, none⟩), .int .i64 1, .int .i64 8]) := by rw [← hb]; exact (put_off (by decide)).trans f51_11
 have f52_15 : b52.tmps[15]? = some (.agg #[.string ⟨#[115, 112, 101, 101, 100]⟩, .pointer (some ⟨g, 3, none⟩), .int .i64 1, .int .i64 20]) := by rw [← hb]; exact (put_off (by decide)).trans f51_15
 have f52_19 : b52.tmps[19]? = some (.agg #[.string ⟨#[98, 114, 97, 107, 101]⟩, .pointer (some ⟨g, 4, none⟩), .int .i64 0, .int .i64 5]) := by rw [← hb]; exact (put_off (by decide)).trans f51_19
 have f52_23 : b52.tmps[23]? = some (.agg #[.string ⟨#[116, 111, 108]⟩, .pointer (some ⟨g, 5, none⟩), .int .i64 0, .int .i64 20]) := by rw [← hb]; exact (put_off (by decide)).trans f51_23
 have f52_27 : b52.tmps[27]? = some (.agg #[.string ⟨#[119, 105, 100, 116, 104]⟩, .pointer (some ⟨g, 6, none⟩), .int .i64 1, .int .i64 20]) := by rw [← hb]; exact (put_off (by decide)).trans f51_27
 have f52_31 : b52.tmps[31]? = some (.agg #[.string ⟨#[100, 119, 101, 108, 108]⟩, .pointer (some ⟨g, 7, none⟩), .int .i64 1, .int .i64 50]) := by rw [← hb]; exact (put_off (by decide)).trans f51_31
 have f52_35 : b52.tmps[35]? = some (.agg #[.string ⟨#[114, 101, 116, 114, 105, 101, 115]⟩, .pointer (some ⟨g, 8, none⟩), .int .i64 0, .int .i64 5]) := by rw [← hb]; exact (put_off (by decide)).trans f51_35
 have f52_39 : b52.tmps[39]? = some (.agg #[.string ⟨#[101, 109, 112, 116, 121]⟩, .pointer (some ⟨g, 9, none⟩), .int .i64 0, .int .i64 10000]) := by rw [← hb]; exact (put_off (by decide)).trans f51_39
 have f52_48 : b52.tmps[48]? = some (.agg #[.string ⟨#[102, 117, 108, 108]⟩, .pointer (some ⟨g, 10, none⟩), .int .i64 (IntKind.i64.wrap (c.empty + 1)), .int .i64 10000]) := by rw [← hb]; exact (put_off (by decide)).trans f51_48
 have f52_52 : b52.tmps[52]? = some (.agg #[.string ⟨#[116, 114, 105, 112, 115]⟩, .pointer (some ⟨g, 11, none⟩), .int .i64 1, .int .i64 16]) := by rw [← hb]; exact (put_off (by decide)).trans f51_52
 have f52_56 : b52.tmps[56]? = some (.agg #[.string ⟨#[115, 108, 111, 116, 115]⟩, .pointer (some ⟨g, 12, none⟩), .int .i64 1, .int .i64 24]) := by rw [← hb]; exact put_at (by rw [s51.out]; decide)
 clear hb f51_0 f51_7 f51_11 f51_15 f51_19 f51_23 f51_27 f51_31 f51_35 f51_39 f51_48 f51_52 f51_55 s51 dd51
 refine wpAnyJ_take (i := 53) (d := some 57) (v := .pointer (some ⟨g, 0, none⟩)) rfl (by kernel_rfl) (by kernel_rfl) (by decide +kernel) (by decide +kernel) (by decide +kernel) (by decide) (by decide +kernel) (fun _ _ _ h => h) (Or.inl ⟨by rfl, by (intro w hSw; (try dsimp only at hSw); go_simp; first | done | exact rfl)⟩) hS ?_
 generalize hb : Act.put _ _ _ = b53
 have s53 : Aside0 (b53.tmps.size = 63) := ⟨by rw [← hb]; exact (put_size _ _ _).trans s52.out⟩
 have dd53 : Aside0 (b53.defers = []) := ⟨by rw [← hb]; exact (put_defers _ _ _).trans dd52.out⟩
 have f53_7 : b53.tmps[7]? = some (.agg #[.string ⟨#[102, 108, 111, 111, 114, 115]⟩, .pointer (some ⟨g, 0, none⟩), .int .i64 2, .int .i64 64]) := by rw [← hb]; exact (put_off (by decide)).trans f52_7
 have f53_11 : b53.tmps[11]? = some (.agg #[.string ⟨#[99, 97, 114, 115]⟩, .pointer (some ⟨g, 2, none⟩), .int .i64 1, .int .i64 8]) := by rw [← hb]; exact (put_off (by decide)).trans f52_11
 have f53_15 : b53.tmps[15]? = some (.agg #[.string ⟨#[115, 112, 101, 101, 100]⟩, .pointer (some ⟨g, 3, none⟩), .int .i64 1, .int .i64 20]) := by rw [← hb]; exact (put_off (by decide)).trans f52_15
 have f53_19 : b53.tmps[19]? = some (.agg #[.string ⟨#[98, 114, 97, 107, 101]⟩, .pointer (some ⟨g, 4, none⟩), .int .i64 0, .int .i64 5]) := by rw [← hb]; exact (put_off (by decide)).trans f52_19
 have f53_23 : b53.tmps[23]? = some (.agg #[.string ⟨#[116, 111, 108]⟩, .pointer (some ⟨g, 5, none⟩), .int .i64 0, .int .i64 20]) := by rw [← hb]; exact (put_off (by decide)).trans f52_23
 have f53_27 : b53.tmps[27]? = some (.agg #[.string ⟨#[119, 105, 100, 116, 104]⟩, .pointer (some ⟨g, 6, none⟩), .int .i64 1, .int .i64 20]) := by rw [← hb]; exact (put_off (by decide)).trans f52_27
 have f53_31 : b53.tmps[31]? = some (.agg #[.string ⟨#[100, 119, 101, 108, 108]⟩, .pointer (some ⟨g, 7, none⟩), .int .i64 1, .int .i64 50]) := by rw [← hb]; exact (put_off (by decide)).trans f52_31
 have f53_35 : b53.tmps[35]? = some (.agg #[.string ⟨#[114, 101, 116, 114, 105, 101, 115]⟩, .pointer (some ⟨g, 8, none⟩), .int .i64 0, .int .i64 5]) := by rw [← hb]; exact (put_off (by decide)).trans f52_35
 have f53_39 : b53.tmps[39]? = some (.agg #[.string ⟨#[101, 109, 112, 116, 121]⟩, .pointer (some ⟨g, 9, none⟩), .int .i64 0, .int .i64 10000]) := by rw [← hb]; exact (put_off (by decide)).trans f52_39
 have f53_48 : b53.tmps[48]? = some (.agg #[.string ⟨#[102, 117, 108, 108]⟩, .pointer (some ⟨g, 10, none⟩), .int .i64 (IntKind.i64.wrap (c.empty + 1)), .int .i64 10000]) := by rw [← hb]; exact (put_off (by decide)).trans f52_48
 have f53_52 : b53.tmps[52]? = some (.agg #[.string ⟨#[116, 114, 105, 112, 115]⟩, .pointer (some ⟨g, 11, none⟩), .int .i64 1, .int .i64 16]) := by rw [← hb]; exact (put_off (by decide)).trans f52_52
 have f53_56 : b53.tmps[56]? = some (.agg #[.string ⟨#[115, 108, 111, 116, 115]⟩, .pointer (some ⟨g, 12, none⟩), .int .i64 1, .int .i64 24]) := by rw [← hb]; exact (put_off (by decide)).trans f52_56
 have f53_57 : b53.tmps[57]? = some (.pointer (some ⟨g, 0, none⟩)) := by rw [← hb]; exact put_at (by rw [s52.out]; decide)
 clear hb f52_0 f52_7 f52_11 f52_15 f52_19 f52_23 f52_27 f52_31 f52_35 f52_39 f52_48 f52_52 f52_56 s52 dd52
 refine wpAnyJ_take (i := 54) (d := some 58) (v := .pointer (some ⟨g, 0, none⟩)) rfl (by kernel_rfl) (by kernel_rfl) (by decide +kernel) (by decide +kernel) (by decide +kernel) (by decide) (by decide +kernel) (fun _ _ _ h => h) (Or.inl ⟨by rfl, by (intro w hSw; (try dsimp only at hSw); go_simp; first | done | exact rfl)⟩) hS ?_
 generalize hb : Act.put _ _ _ = b54
 have s54 : Aside0 (b54.tmps.size = 63) := ⟨by rw [← hb]; exact (put_size _ _ _).trans s53.out⟩
 have dd54 : Aside0 (b54.defers = []) := ⟨by rw [← hb]; exact (put_defers _ _ _).trans dd53.out⟩
 have f54_7 : b54.tmps[7]? = some (.agg #[.string ⟨#[102, 108, 111, 111, 114, 115]⟩, .pointer (some ⟨g, 0, none⟩), .int .i64 2, .int .i64 64]) := by rw [← hb]; exact (put_off (by decide)).trans f53_7
 have f54_11 : b54.tmps[11]? = some (.agg #[.string ⟨#[99, 97, 114, 115]⟩, .pointer (some ⟨g, 2, none⟩), .int .i64 1, .int .i64 8]) := by rw [← hb]; exact (put_off (by decide)).trans f53_11
 have f54_15 : b54.tmps[15]? = some (.agg #[.string ⟨#[115, 112, 101, 101, 100]⟩, .pointer (some ⟨g, 3, none⟩), .int .i64 1, .int .i64 20]) := by rw [← hb]; exact (put_off (by decide)).trans f53_15
 have f54_19 : b54.tmps[19]? = some (.agg #[.string ⟨#[98, 114, 97, 107, 101]⟩, .pointer (some ⟨g, 4, none⟩), .int .i64 0, .int .i64 5]) := by rw [← hb]; exact (put_off (by decide)).trans f53_19
 have f54_23 : b54.tmps[23]? = some (.agg #[.string ⟨#[116, 111, 108]⟩, .pointer (some ⟨g, 5, none⟩), .int .i64 0, .int .i64 20]) := by rw [← hb]; exact (put_off (by decide)).trans f53_23
 have f54_27 : b54.tmps[27]? = some (.agg #[.string ⟨#[119, 105, 100, 116, 104]⟩, .pointer (some ⟨g, 6, none⟩), .int .i64 1, .int .i64 20]) := by rw [← hb]; exact (put_off (by decide)).trans f53_27
 have f54_31 : b54.tmps[31]? = some (.agg #[.string ⟨#[100, 119, 101, 108, 108]⟩, .pointer (some ⟨g, 7, none⟩), .int .i64 1, .int .i64 50]) := by rw [← hb]; exact (put_off (by decide)).trans f53_31
 have f54_35 : b54.tmps[35]? = some (.agg #[.string ⟨#[114, 101, 116, 114, 105, 101, 115]⟩, .pointer (some ⟨g, 8, none⟩), .int .i64 0, .int .i64 5]) := by rw [← hb]; exact (put_off (by decide)).trans f53_35
 have f54_39 : b54.tmps[39]? = some (.agg #[.string ⟨#[101, 109, 112, 116, 121]⟩, .pointer (some ⟨g, 9, none⟩), .int .i64 0, .int .i64 10000]) := by rw [← hb]; exact (put_off (by decide)).trans f53_39
 have f54_48 : b54.tmps[48]? = some (.agg #[.string ⟨#[102, 117, 108, 108]⟩, .pointer (some ⟨g, 10, none⟩), .int .i64 (IntKind.i64.wrap (c.empty + 1)), .int .i64 10000]) := by rw [← hb]; exact (put_off (by decide)).trans f53_48
 have f54_52 : b54.tmps[52]? = some (.agg #[.string ⟨#[116, 114, 105, 112, 115]⟩, .pointer (some ⟨g, 11, none⟩), .int .i64 1, .int .i64 16]) := by rw [← hb]; exact (put_off (by decide)).trans f53_52
 have f54_56 : b54.tmps[56]? = some (.agg #[.string ⟨#[115, 108, 111, 116, 115]⟩, .pointer (some ⟨g, 12, none⟩), .int .i64 1, .int .i64 24]) := by rw [← hb]; exact (put_off (by decide)).trans f53_56
 have f54_58 : b54.tmps[58]? = some (.pointer (some ⟨g, 0, none⟩)) := by rw [← hb]; exact put_at (by rw [s53.out]; decide)
 clear hb f53_7 f53_11 f53_15 f53_19 f53_23 f53_27 f53_31 f53_35 f53_39 f53_48 f53_52 f53_56 f53_57 s53 dd53
 refine wpAnyJ_take (i := 55) (d := some 59) (v := .pointer (some ⟨g, 24, none⟩)) rfl (by kernel_rfl) (by kernel_rfl) (by decide +kernel) (by decide +kernel) (by decide +kernel) (by decide) (by decide +kernel) (fun _ _ _ h => h) (Or.inl ⟨by rfl, by (intro w hSw; (try dsimp only at hSw); go_simp; first | done | exact rfl)⟩) hS ?_
 generalize hb : Act.put _ _ _ = b55
 have s55 : Aside0 (b55.tmps.size = 63) := ⟨by rw [← hb]; exact (put_size _ _ _).trans s54.out⟩
 have dd55 : Aside0 (b55.defers = []) := ⟨by rw [← hb]; exact (put_defers _ _ _).trans dd54.out⟩
 have f55_7 : b55.tmps[7]? = some (.agg #[.string ⟨#[102, 108, 111, 111, 114, 115]⟩, .pointer (some ⟨g, 0, none⟩), .int .i64 2, .int .i64 64]) := by rw [← hb]; exact (put_off (by decide)).trans f54_7
 have f55_11 : b55.tmps[11]? = some (.agg #[.string ⟨#[99, 97, 114, 115]⟩, .pointer (some ⟨g, 2, none⟩), .int .i64 1, .int .i64 8]) := by rw [← hb]; exact (put_off (by decide)).trans f54_11
 have f55_15 : b55.tmps[15]? = some (.agg #[.string ⟨#[115, 112, 101, 101, 100]⟩, .pointer (some ⟨g, 3, none⟩), .int .i64 1, .int .i64 20]) := by rw [← hb]; exact (put_off (by decide)).trans f54_15
 have f55_19 : b55.tmps[19]? = some (.agg #[.string ⟨#[98, 114, 97, 107, 101]⟩, .pointer (some ⟨g, 4, none⟩), .int .i64 0, .int .i64 5]) := by rw [← hb]; exact (put_off (by decide)).trans f54_19
 have f55_23 : b55.tmps[23]? = some (.agg #[.string ⟨#[116, 111, 108]⟩, .pointer (some ⟨g, 5, none⟩), .int .i64 0, .int .i64 20]) := by rw [← hb]; exact (put_off (by decide)).trans f54_23
 have f55_27 : b55.tmps[27]? = some (.agg #[.string ⟨#[119, 105, 100, 116, 104]⟩, .pointer (some ⟨g, 6, none⟩), .int .i64 1, .int .i64 20]) := by rw [← hb]; exact (put_off (by decide)).trans f54_27
 have f55_31 : b55.tmps[31]? = some (.agg #[.string ⟨#[100, 119, 101, 108, 108]⟩, .pointer (some ⟨g, 7, none⟩), .int .i64 1, .int .i64 50]) := by rw [← hb]; exact (put_off (by decide)).trans f54_31
 have f55_35 : b55.tmps[35]? = some (.agg #[.string ⟨#[114, 101, 116, 114, 105, 101, 115]⟩, .pointer (some ⟨g, 8, none⟩), .int .i64 0, .int .i64 5]) := by rw [← hb]; exact (put_off (by decide)).trans f54_35
 have f55_39 : b55.tmps[39]? = some (.agg #[.string ⟨#[101, 109, 112, 116, 121]⟩, .pointer (some ⟨g, 9, none⟩), .int .i64 0, .int .i64 10000]) := by rw [← hb]; exact (put_off (by decide)).trans f54_39
 have f55_48 : b55.tmps[48]? = some (.agg #[.string ⟨#[102, 117, 108, 108]⟩, .pointer (some ⟨g, 10, none⟩), .int .i64 (IntKind.i64.wrap (c.empty + 1)), .int .i64 10000]) := by rw [← hb]; exact (put_off (by decide)).trans f54_48
 have f55_52 : b55.tmps[52]? = some (.agg #[.string ⟨#[116, 114, 105, 112, 115]⟩, .pointer (some ⟨g, 11, none⟩), .int .i64 1, .int .i64 16]) := by rw [← hb]; exact (put_off (by decide)).trans f54_52
 have f55_56 : b55.tmps[56]? = some (.agg #[.string ⟨#[115, 108, 111, 116, 115]⟩, .pointer (some ⟨g, 12, none⟩), .int .i64 1, .int .i64 24]) := by rw [← hb]; exact (put_off (by decide)).trans f54_56
 have f55_59 : b55.tmps[59]? = some (.pointer (some ⟨g, 24, none⟩)) := by rw [← hb]; exact put_at (by rw [s54.out]; decide)
 clear hb f54_7 f54_11 f54_15 f54_19 f54_23 f54_27 f54_31 f54_35 f54_39 f54_48 f54_52 f54_56 f54_58 s54 dd54
 refine wpAnyJ_take (i := 56) (d := some 60) (v := .agg #[.string ⟨#[108, 105, 102, 101]⟩, .pointer (some ⟨g, 24, none⟩), .int .i64 1, .int .i64 100000]) rfl (by kernel_rfl) (by kernel_rfl) (by decide +kernel) (by decide +kernel) (by decide +kernel) (by decide) (by decide +kernel) (fun _ _ _ h => h) (Or.inl ⟨by rfl, by (intro w hSw; (try dsimp only at hSw); go_simp; first | done | exact rfl)⟩) hS ?_
 generalize hb : Act.put _ _ _ = b56
 have s56 : Aside0 (b56.tmps.size = 63) := ⟨by rw [← hb]; exact (put_size _ _ _).trans s55.out⟩
 have dd56 : Aside0 (b56.defers = []) := ⟨by rw [← hb]; exact (put_defers _ _ _).trans dd55.out⟩
 have f56_7 : b56.tmps[7]? = some (.agg #[.string ⟨#[102, 108, 111, 111, 114, 115]⟩, .pointer (some ⟨g, 0, none⟩), .int .i64 2, .int .i64 64]) := by rw [← hb]; exact (put_off (by decide)).trans f55_7
 have f56_11 : b56.tmps[11]? = some (.agg #[.string ⟨#[99, 97, 114, 115]⟩, .pointer (some ⟨g, 2, none⟩), .int .i64 1, .int .i64 8]) := by rw [← hb]; exact (put_off (by decide)).trans f55_11
 have f56_15 : b56.tmps[15]? = some (.agg #[.string ⟨#[115, 112, 101, 101, 100]⟩, .pointer (some ⟨g, 3, none⟩), .int .i64 1, .int .i64 20]) := by rw [← hb]; exact (put_off (by decide)).trans f55_15
 have f56_19 : b56.tmps[19]? = some (.agg #[.string ⟨#[98, 114, 97, 107, 101]⟩, .pointer (some ⟨g, 4, none⟩), .int .i64 0, .int .i64 5]) := by rw [← hb]; exact (put_off (by decide)).trans f55_19
 have f56_23 : b56.tmps[23]? = some (.agg #[.string ⟨#[116, 111, 108]⟩, .pointer (some ⟨g, 5, none⟩), .int .i64 0, .int .i64 20]) := by rw [← hb]; exact (put_off (by decide)).trans f55_23
 have f56_27 : b56.tmps[27]? = some (.agg #[.string ⟨#[119, 105, 100, 116, 104]⟩, .pointer (some ⟨g, 6, none⟩), .int .i64 1, .int .i64 20]) := by rw [← hb]; exact (put_off (by decide)).trans f55_27
 have f56_31 : b56.tmps[31]? = some (.agg #[.string ⟨#[100, 119, 101, 108, 108]⟩, .pointer (some ⟨g, 7, none⟩), .int .i64 1, .int .i64 50]) := by rw [← hb]; exact (put_off (by decide)).trans f55_31
 have f56_35 : b56.tmps[35]? = some (.agg #[.string ⟨#[114, 101, 116, 114, 105, 101, 115]⟩, .pointer (some ⟨g, 8, none⟩), .int .i64 0, .int .i64 5]) := by rw [← hb]; exact (put_off (by decide)).trans f55_35
 have f56_39 : b56.tmps[39]? = some (.agg #[.string ⟨#[101, 109, 112, 116, 121]⟩, .pointer (some ⟨g, 9, none⟩), .int .i64 0, .int .i64 10000]) := by rw [← hb]; exact (put_off (by decide)).trans f55_39
 have f56_48 : b56.tmps[48]? = some (.agg #[.string ⟨#[102, 117, 108, 108]⟩, .pointer (some ⟨g, 10, none⟩), .int .i64 (IntKind.i64.wrap (c.empty + 1)), .int .i64 10000]) := by rw [← hb]; exact (put_off (by decide)).trans f55_48
 have f56_52 : b56.tmps[52]? = some (.agg #[.string ⟨#[116, 114, 105, 112, 115]⟩, .pointer (some ⟨g, 11, none⟩), .int .i64 1, .int .i64 16]) := by rw [← hb]; exact (put_off (by decide)).trans f55_52
 have f56_56 : b56.tmps[56]? = some (.agg #[.string ⟨#[115, 108, 111, 116, 115]⟩, .pointer (some ⟨g, 12, none⟩), .int .i64 1, .int .i64 24]) := by rw [← hb]; exact (put_off (by decide)).trans f55_56
 have f56_60 : b56.tmps[60]? = some (.agg #[.string ⟨#[108, 105, 102, 101]⟩, .pointer (some ⟨g, 24, none⟩), .int .i64 1, .int .i64 100000]) := by rw [← hb]; exact put_at (by rw [s55.out]; decide)
 clear hb f55_7 f55_11 f55_15 f55_19 f55_23 f55_27 f55_31 f55_35 f55_39 f55_48 f55_52 f55_56 f55_59 s55 dd55
 refine wpAnyJ_take (i := 57) (d := some 61) (v := .agg (fcells g c.empty).toArray) rfl (by kernel_rfl) (by kernel_rfl) (by decide +kernel) (by decide +kernel) (by decide +kernel) (by decide) (by decide +kernel) (fun _ _ _ h => h) (Or.inl ⟨by rfl, by (intro w hSw; (try dsimp only at hSw); go_simp; first | done | exact rfl)⟩) hS ?_
 generalize hb : Act.put _ _ _ = b57
 have s57 : Aside0 (b57.tmps.size = 63) := ⟨by rw [← hb]; exact (put_size _ _ _).trans s56.out⟩
 have dd57 : Aside0 (b57.defers = []) := ⟨by rw [← hb]; exact (put_defers _ _ _).trans dd56.out⟩
 have f57_61 : b57.tmps[61]? = some (.agg (fcells g c.empty).toArray) := by rw [← hb]; exact put_at (by rw [s56.out]; decide)
 clear hb f56_7 f56_11 f56_15 f56_19 f56_23 f56_27 f56_31 f56_35 f56_39 f56_48 f56_52 f56_56 f56_60 s56 dd56
 refine wpAnyJ_one (i := 58) (by decide +kernel) rfl (fun K hK => ?_)
 go_simp
 refine hK.out _ _ (fun _ => (blk_cell (blk_drew (blk_alloc hg _)) 9).trans rfl) (fun hS => ?_)
 have hS := hS (by decide +kernel)
 clear hK K
 generalize hb : Act.mk _ _ = b58
 have f58_61 : b58.tmps[61]? = some (.agg (fcells g c.empty).toArray) := by rw [← hb]; exact (put_off (a := b57) (by decide)).trans f57_61
 have f58_3 : b58.tmps[3]? = some (.pointer (some ⟨w.heap.size, 0, none⟩)) := by rw [← hb]; exact put_at (a := b57) (by rw [s57.out]; decide)
 have s58 : b58.tmps.size = 63 := by rw [← hb]; exact (put_size b57 3 _).trans s57.out
 have d58 : b58.defers = [] := by rw [← hb]; exact dd57.out
 clear hb s57 dd57 f57_61
 generalize hW1 : World.drew _ = W1 at hS ⊢
 obtain ⟨cur, hN, hcur⟩ : ∃ cur, W1.heap[w.heap.size]? = some (.cells cur 74 (0, 0)) ∧ cur.size = 52 := ⟨_, by rw [← hW1]; exact blk_drew (blk_new w _), rfl⟩
 have B1 : Below w.heap.size w W1 := by rw [← hW1]; exact below_drew1 (below_alloc (Below.refl w.heap.size w) _)
 have hgW : W1.heap[g]? = some (.cells c.cells 29) := by rw [← hW1]; exact blk_drew (blk_alloc hg _)
 clear hW1
 have hne : g ≠ w.heap.size := Nat.ne_of_lt (blk_lt hg)
 obtain ⟨cu2, hN2, hs2, hl2⟩ := setCells_row (fcells g c.empty) 0 W1 cur hN (by rw [hcur]; exact Nat.le_of_eq rfl)
 have hcu : cu2 = (fcells g c.empty).toArray := by
  apply Array.toList_inj.mp
  rw [hl2, List.take_zero, List.nil_append, List.drop_eq_nil_of_le (by rw [Array.length_toList, hcur]; exact Nat.le_of_eq rfl), List.append_nil]
 subst hcu
 have B2 : Below w.heap.size w (W1.setCells w.heap.size 0 (fcells g c.empty)) := Below_setCells B1 (Nat.le_refl _) _ _
 have hgW2 : (W1.setCells w.heap.size 0 (fcells g c.empty)).heap[g]? = some (.cells c.cells 29) := (setCells_far _ _ _ hne).trans hgW
 refine wpAnyJ_one (i := 59) (by decide +kernel) rfl (fun K hK => ?_)
 rw [if_pos (by rfl)]
 refine wp_store_mid 74 (.tmp 3) (.tmp 61) rfl w.heap.size 0 (fcells g c.empty).toArray ?_ ?_ ?_ (by kernel_rfl) (by rw [List.all_toArray]; rfl) ?_
 ·show b58.tmps.getD 3 undef = _
  rw [Array.getD_eq_getD_getElem?, f58_3]; rfl
 ·show b58.tmps.getD 61 undef = _
  rw [Array.getD_eq_getD_getElem?, f58_61]; rfl
 ·intro j hj
  refine ⟨?_, blk_frozen hN _⟩
  rw [blk_cell hN]
  have hj2 : 0 + j < cur.size := by rw [hcur]; simpa using hj
  rw [Array.getElem?_eq_getElem hj2]
  rfl
 refine hK.out _ _ (fun _ => (blk_cell hgW2 9).trans rfl) (fun hS => ?_)
 have hS := hS (by decide +kernel)
 clear hK K
 refine wpAnyJ_done (by decide +kernel) ?_ _
 refine hK1 _ _ ?_
 generalize hW2 : World.setCells _ _ _ _ = W2 at hN2 B2 ⊢
 clear hS hgW hgW2 hN B1 hW2 f58_61
 exact fields_end b58 W2 w.heap.size f58_3 s58 d58 ⟨_, rfl, Nat.le_refl _, hN2, B2⟩
end Go.Proofs.Ytmdcjmackhjchaa.P
end
