import Derived.Test.YtmdcjmackhjchaaZad
import Derived.Test.YtmdcjmackhjchaaZau
import Derived.Test.YtmdcjmackhjchaaZav
import Derived.Test.YtmdcjmackhjchaaZat
import Derived.Test.YtmdcjmackhjchaaZax
section
/- tipstaffkit.SameConfig of equal configurations: walked by hand. -/
namespace Go.Proofs.Ytmdcjmackhjchaa.P
open Go.RowKit Go.Proofs.YtmdcjmackhjchaaW.PrintWords Go.Proofs.YtmdcjmackhjchaaW.PrintLast Go.Proofs.YtmdcjmackhjchaaW.PrintMore
attribute [local go_sem] cell_same1 cell_some1
set_option linter.unusedVariables false
set_option linter.unusedSimpArgs false

theorem eqA26 (d : Nat) (w : World) (x0 y0 : Int) (x1 y1 : Int) (x2 y2 : Int) :
  (Op.equalIn (d + 2) 26 (.agg #[.int .u64 x0, .int .i64 x1, .int .i64 x2]) (.agg #[.int .u64 y0, .int .i64 y1, .int .i64 y2])).run Try.prog w = .ok (x0 == y0 && (x1 == y1 && (x2 == y2))) w := by
 refine eqA_of Try.underlying26 (by kernel_rfl) ?_
 refine eqf_cons (by rfl) (by go_simp; rfl) (by go_simp; rfl) (by go_simp) ?_
 refine eqf_cons (by rfl) (by go_simp; rfl) (by go_simp; rfl) (by go_simp) ?_
 exact eqf_last (by rfl) (by go_simp; rfl) (by go_simp; rfl) (by go_simp)
theorem eqA27 (d : Nat) (w : World) (x0 y0 : Int) (x1 y1 : Int) (x2 y2 : Int) (x3 y3 : Int) (x4 y4 : Int) (x5 y5 : Int) (x6 y6 : Int) (x7 y7 : Int) (x8 y8 : Int) :
  (Op.equalIn (d + 3) 27 (.agg #[.int .u64 x0, .int .i64 x1, .int .i64 x2, .int .u64 x3, .int .i64 x4, .int .i64 x5, .int .u64 x6, .int .i64 x7, .int .i64 x8]) (.agg #[.int .u64 y0, .int .i64 y1, .int .i64 y2, .int .u64 y3, .int .i64 y4, .int .i64 y5, .int .u64 y6, .int .i64 y7, .int .i64 y8])).run Try.prog w = .ok ((x0 == y0 && (x1 == y1 && (x2 == y2))) && ((x3 == y3 && (x4 == y4 && (x5 == y5))) && ((x6 == y6 && (x7 == y7 && (x8 == y8)))))) w := by
 exact arr3_of Try.underlying27 (n := 3) (by go_simp) (by go_simp) (by go_simp) (eqA26 (d + 0) w _ _ _ _ _ _) (by go_simp) (by go_simp) (eqA26 (d + 0) w _ _ _ _ _ _) (by go_simp) (by go_simp) (eqA26 (d + 0) w _ _ _ _ _ _)
attribute [local go_sem high] eqA27
theorem sameInts_l0 (l : List Int) (hl : l.length ≤ 9223372036854775806) : ∀ (n i m : Nat), i + n = l.length → kit_SameInts.l0 (n + 1 + m) l l i = some true := by
 intro n
 induction n with
 | zero =>
  intro i m h
  rw [show 0 + 1 + m = m + 1 from by omega, kit_SameInts.l0, if_neg (by omega)]
 | succ n ih =>
  intro i m h
  rw [show n + 1 + 1 + m = (n + 1 + m) + 1 from by omega, kit_SameInts.l0, if_pos (by omega), if_pos (by omega), if_pos (by omega), if_pos rfl]
  have e : wrap64 ((i : Int) + 1) = ((i + 1 : Nat) : Int) := by unfold wrap64; omega
  rw [e]
  exact ih (i + 1) m (by omega)
theorem sameInts_refl (l : List Int) (hl : l.length ≤ 9223372036854775806) : kit_SameInts.f (l.length + 1) l l = some true := by
 rw [kit_SameInts.f, if_pos rfl]
 exact sameInts_l0 l hl l.length 0 0 (by omega)
theorem C_blk {W : World} {g : Nat} {l : List Int} (h : W.heap[g]? = some (.cells (l.map (Value.int .i64)).toArray 3)) (hl : l.length ≤ 9223372036854775807) : Kd.C (Kd.int .i64) W (some ⟨g, 0, none⟩) l.length l :=
 Kd.C_of_reads (enc := Value.int .i64) (d := (0 : Int)) (h1 := fun _ => rfl) ⟨rfl, hl, fun _ => ⟨⟨g, 0, none⟩, rfl, fun j hj => by
  have : (Addr.add ⟨g, 0, none⟩ j) = ⟨g, j, none⟩ := by
   simp [Addr.add]
   exact fun h => h.symm
  rw [this, blk_cell h j]
  simp [hj]⟩⟩

/-- What the walk knows of the world. -/
structure TS (w : World) (c d : Cfg) (g1 g2 : Nat) (W : World) : Prop where
 b1 : W.heap[g1]? = some (.cells c.cells 29)
 b2 : W.heap[g2]? = some (.cells d.cells 29)
 be : Below w.heap.size w W
theorem TS.step {w : World} {c d : Cfg} {g1 g2 : Nat} {W W' : World} (h : TS w c d g1 g2 W) (hb : Below W.heap.size W W') : TS w c d g1 g2 W' :=
 ⟨blk_below h.b1 hb, blk_below h.b2 hb, below_step h.be hb⟩
theorem TS.drewN {w : World} {c d : Cfg} {g1 g2 : Nat} {W : World} (h : TS w c d g1 g2 W) (n : Nat) : TS w c d g1 g2 (W.drewN n) :=
 ⟨blk_drewN h.b1 n, blk_drewN h.b2 n, pw_below_drewN h.be n⟩
theorem TS.alloc {w : World} {c d : Cfg} {g1 g2 : Nat} {W : World} (h : TS w c d g1 g2 W) (o : Obj) : TS w c d g1 g2 (W.alloc o) :=
 ⟨blk_alloc h.b1 o, blk_alloc h.b2 o, below_alloc h.be o⟩
abbrev cfgv (floors cars speed brake tol width dwell retries empty full trips slots m0 h0 k0 m1 h1 k1 m2 h2 k2 life : Int) (g t k : Value) : Cfg :=
 ⟨floors, g, cars, speed, brake, tol, width, dwell, retries, empty, full, trips, slots, t, .int .u64 m0, h0, k0, .int .u64 m1, h1, k1, .int .u64 m2, h2, k2, k, life⟩

set_option maxHeartbeats 8000000 in
set_option maxRecDepth 100000 in
theorem same_ok (floors cars speed brake tol width dwell retries empty full trips slots m0 h0 k0 m1 h1 k1 m2 h2 k2 life : Int) (lg lk : List Int) (lt : List (List Int))
  (A1 A2 A3 B1 B2 B3 : Option Addr) (p1 p2 p3 q1 q2 q3 : Nat) (w : World)
  (ha1 : Kd.C (Kd.int .i64) w A1 lg.length lg) (hp1 : lg.length ≤ p1) (ha2 : Kd.C (Kd.slice 3 (Kd.int .i64)) w A2 lt.length lt) (ha3 : Kd.C (Kd.int .i64) w A3 lk.length lk) (hp3 : lk.length ≤ p3)
  (hb1 : Kd.C (Kd.int .i64) w B1 lg.length lg) (hq1 : lg.length ≤ q1) (hb2 : Kd.C (Kd.slice 3 (Kd.int .i64)) w B2 lt.length lt) (hb3 : Kd.C (Kd.int .i64) w B3 lk.length lk) (hq3 : lk.length ≤ q3)
  (hlg : lg.length ≤ 9223372036854775806) (hlk : lk.length ≤ 9223372036854775806) (hlt : lt.length ≤ 9223372036854775806) (hll : ∀ l ∈ lt, l.length ≤ 9223372036854775806) :
  Calls Try.prog 12 #[.agg (cfgv floors cars speed brake tol width dwell retries empty full trips slots m0 h0 k0 m1 h1 k1 m2 h2 k2 life (.slice A1 lg.length p1) (.slice A2 lt.length p2) (.slice A3 lk.length p3)).cells,
    .agg (cfgv floors cars speed brake tol width dwell retries empty full trips slots m0 h0 k0 m1 h1 k1 m2 h2 k2 life (.slice B1 lg.length q1) (.slice B2 lt.length q2) (.slice B3 lk.length q3)).cells] w
   fun e w' => e = .returned (.bool true) ∧ Below w.heap.size w w' := by
 obtain ⟨c, hc⟩ : ∃ c, c = cfgv floors cars speed brake tol width dwell retries empty full trips slots m0 h0 k0 m1 h1 k1 m2 h2 k2 life (.slice A1 lg.length p1) (.slice A2 lt.length p2) (.slice A3 lk.length p3) := ⟨_, rfl⟩
 obtain ⟨d, hd⟩ : ∃ d, d = cfgv floors cars speed brake tol width dwell retries empty full trips slots m0 h0 k0 m1 h1 k1 m2 h2 k2 life (.slice B1 lg.length q1) (.slice B2 lt.length q2) (.slice B3 lk.length q3) := ⟨_, rfl⟩
 rw [← hc, ← hd]
 have HC := Aside0.mk hc
 have HD := Aside0.mk hd
 have R1 := Aside0.mk ha1
 have R2 := Aside0.mk ha2
 have R3 := Aside0.mk ha3
 have S1 := Aside0.mk hb1
 have S2 := Aside0.mk hb2
 have S3 := Aside0.mk hb3
 have P1 := Aside0.mk hp1
 have P3 := Aside0.mk hp3
 have Q1 := Aside0.mk hq1
 have Q3 := Aside0.mk hq3
 have F1 := Aside0.mk (sameInts_refl lg hlg)
 have F3 := Aside0.mk (sameInts_refl lk hlk)
 have HLL := Aside0.mk hll
 have hu29 := Try.underlying29
 have hu27 := Try.underlying27
 have HB := Aside0.mk (Below.refl w.heap.size w)
 clear hc hd ha1 ha2 ha3 hb1 hb2 hb3 hp1 hp3 hq1 hq3 hlg hlk hll
 go_enter Try.func12, Try.ntmps12
 go_upto_region 1 with (first | ((with_reducible refine gate_dst (N := 2) rfl ?_); refine bxe (cs := c.cells) (t := 29) ?_; intro g1 hg w1 hbox hb; have B1' := Aside0.mk hbox; replace HB := Aside0.mk (bst HB.out hb); clear hb hbox hg) | ((with_reducible refine gate_dst (N := 3) rfl ?_); refine bxe (cs := d.cells) (t := 29) ?_; intro g2 hg w2 hbox hb; have B2' := Aside0.mk hbox; replace B1' := Aside0.mk (bkb B1'.out hb); replace HB := Aside0.mk (bst HB.out hb); clear hb hbox hg))
 refine wp_abs (TS w c d g1 g2) ⟨bkt B1'.out, bkt B2'.out, bel HB.out⟩ (fun W4 h4 => ?_)
 clear B1' B2' HB
 have H4 := Aside0.mk h4
 clear h4
 rw [HC.out, HD.out] at H4
 have c1 : W4.cell? ⟨g1, 1, none⟩ = some (.slice A1 lg.length p1) := (blk_cell H4.out.b1 1).trans rfl
 have c13 : W4.cell? ⟨g1, 13, none⟩ = some (.slice A2 lt.length p2) := (blk_cell H4.out.b1 13).trans rfl
 have c23 : W4.cell? ⟨g1, 23, none⟩ = some (.slice A3 lk.length p3) := (blk_cell H4.out.b1 23).trans rfl
 have d1 : W4.cell? ⟨g2, 1, none⟩ = some (.slice B1 lg.length q1) := (blk_cell H4.out.b2 1).trans rfl
 have d13 : W4.cell? ⟨g2, 13, none⟩ = some (.slice B2 lt.length q2) := (blk_cell H4.out.b2 13).trans rfl
 have d23 : W4.cell? ⟨g2, 23, none⟩ = some (.slice B3 lk.length q3) := (blk_cell H4.out.b2 23).trans rfl
 have c14 : W4.cell? ⟨g1, 14, none⟩ = some (.int .u64 m0) ∧ W4.cell? ⟨g1, 15, none⟩ = some (.int .i64 h0) ∧ W4.cell? ⟨g1, 16, none⟩ = some (.int .i64 k0) ∧ W4.cell? ⟨g1, 17, none⟩ = some (.int .u64 m1) ∧ W4.cell? ⟨g1, 18, none⟩ = some (.int .i64 h1) ∧ W4.cell? ⟨g1, 19, none⟩ = some (.int .i64 k1) ∧ W4.cell? ⟨g1, 20, none⟩ = some (.int .u64 m2) ∧ W4.cell? ⟨g1, 21, none⟩ = some (.int .i64 h2) ∧ W4.cell? ⟨g1, 22, none⟩ = some (.int .i64 k2) :=
  ⟨(blk_cell H4.out.b1 14).trans rfl, (blk_cell H4.out.b1 15).trans rfl, (blk_cell H4.out.b1 16).trans rfl, (blk_cell H4.out.b1 17).trans rfl, (blk_cell H4.out.b1 18).trans rfl, (blk_cell H4.out.b1 19).trans rfl, (blk_cell H4.out.b1 20).trans rfl, (blk_cell H4.out.b1 21).trans rfl, (blk_cell H4.out.b1 22).trans rfl⟩
 have d14 : W4.cell? ⟨g2, 14, none⟩ = some (.int .u64 m0) ∧ W4.cell? ⟨g2, 15, none⟩ = some (.int .i64 h0) ∧ W4.cell? ⟨g2, 16, none⟩ = some (.int .i64 k0) ∧ W4.cell? ⟨g2, 17, none⟩ = some (.int .u64 m1) ∧ W4.cell? ⟨g2, 18, none⟩ = some (.int .i64 h1) ∧ W4.cell? ⟨g2, 19, none⟩ = some (.int .i64 k1) ∧ W4.cell? ⟨g2, 20, none⟩ = some (.int .u64 m2) ∧ W4.cell? ⟨g2, 21, none⟩ = some (.int .i64 h2) ∧ W4.cell? ⟨g2, 22, none⟩ = some (.int .i64 k2) :=
  ⟨(blk_cell H4.out.b2 14).trans rfl, (blk_cell H4.out.b2 15).trans rfl, (blk_cell H4.out.b2 16).trans rfl, (blk_cell H4.out.b2 17).trans rfl, (blk_cell H4.out.b2 18).trans rfl, (blk_cell H4.out.b2 19).trans rfl, (blk_cell H4.out.b2 20).trans rfl, (blk_cell H4.out.b2 21).trans rfl, (blk_cell H4.out.b2 22).trans rfl⟩
 go_upto_region 4 with (first | (go_at_call 26; (with_reducible refine (kit_SameInts.calls _ A1 p1 lg B1 q1 lg true _ (Kd.C_below R1.out (bel H4.out.be)) P1.out (Kd.C_below S1.out (bel H4.out.be)) Q1.out F1.out).mono ?_); rintro e w' ⟨rfl, ⟨nd, rfl⟩⟩) | (go_at_call 26; (with_reducible refine (kit_SameInts.calls _ A3 p3 lk B3 q3 lk true _ (Kd.C_below R3.out (bel H4.out.be)) P3.out (Kd.C_below S3.out (bel H4.out.be)) Q3.out F3.out).mono ?_); rintro e w' ⟨rfl, ⟨nd, rfl⟩⟩))
 clear c1 c13 c23 d1 d13 d23 c14 d14
 refine wp_abs (TS w _ _ g1 g2) (H4.out.drewN _) (fun W5 h5 => ?_)
 clear H4
 obtain ⟨n, hN⟩ : ∃ n, n = lt.length := ⟨_, rfl⟩
 rw [← hN] at h5 hlt
 have H5 := Aside0.mk h5
 have HN := Aside0.mk hN
 clear h5 hN
 go_loopw [5] (fun v5 wr => ∃ k : Nat, k ≤ n ∧ v5 = .int .i64 k ∧ Aside0 (TS w (cfgv floors cars speed brake tol width dwell retries empty full trips slots m0 h0 k0 m1 h1 k1 m2 h2 k2 life (.slice A1 lg.length p1) (.slice A2 n p2) (.slice A3 lk.length p3)) (cfgv floors cars speed brake tol width dwell retries empty full trips slots m0 h0 k0 m1 h1 k1 m2 h2 k2 life (.slice B1 lg.length q1) (.slice B2 n q2) (.slice B3 lk.length q3)) g1 g2 wr)) (fun v _ => n - (intOf v).toNat)
 case atStart => exact ⟨0, Nat.zero_le _, rfl, H5⟩
 case round =>
  clear H5
  obtain ⟨k, hk, rfl, H6⟩ := hrel
  have c13 : wr.cell? ⟨g1, 13, none⟩ = some (.slice A2 n p2) := (blk_cell H6.out.b1 13).trans rfl
  have d13 : wr.cell? ⟨g2, 13, none⟩ = some (.slice B2 n q2) := (blk_cell H6.out.b2 13).trans rfl
  by_cases hkn : k < n
  ·obtain ⟨ad, X1, z1, e1, hx1, hl1, hi1⟩ := at_L1 R2.out (k : Int) (by omega) (by rw [← HN.out]; omega)
   obtain ⟨bd, X2, z2, e2, hx2, hl2, hi2⟩ := at_L1 S2.out (k : Int) (by omega) (by rw [← HN.out]; omega)
   subst e1
   subst e2
   have hy1 : wr.cell? (ad.add k) = some (.slice X1 (rd_L1 lt (k : Int)).length z1) := (H6.out.be.cell (World.block_lt_of_cell? w _ hx1)).trans hx1
   have hy2 : wr.cell? (bd.add k) = some (.slice X2 (rd_L1 lt (k : Int)).length z2) := (H6.out.be.cell (World.block_lt_of_cell? w _ hx2)).trans hx2
   have hmem : rd_L1 lt (k : Int) ∈ lt := by
    have hk2 : k < lt.length := by rw [← HN.out]; exact hkn
    have : rd_L1 lt (k : Int) = lt[k] := by simp [rd_L1, hk2]
    rw [this]
    exact List.getElem_mem hk2
   have FX := Aside0.mk (sameInts_refl _ (HLL.out _ hmem))
   obtain ⟨z, hz⟩ : ∃ z, rd_L1 lt (k : Int) = z := ⟨_, rfl⟩
   rw [hz] at hy1 hy2 hl1 hl2 hi1 hi2 FX
   have I1 := Aside0.mk hi1
   have I2 := Aside0.mk hi2
   have L1 := Aside0.mk hl1
   have L2 := Aside0.mk hl2
   clear hmem hz hi1 hi2 hx1 hx2 hl1 hl2
   have hkl : (k : Int) < n := by omega
   go_upto_region 6 with fail
   go_quiet (first | (go_at_call 26; (with_reducible refine (kit_SameInts.calls _ X1 z1 z X2 z2 z true _ (Kd.C_below I1.out (bel H6.out.be)) L1.out (Kd.C_below I2.out (bel H6.out.be)) L2.out FX.out).mono ?_); rintro e w' ⟨rfl, ⟨nd, rfl⟩⟩; (try first | exact ⟨rfl, _, World.drewN_drewN _ _ _⟩ | exact ⟨rfl, _, Eq.trans (World.drewN_drewN _ _ _) (congrArg (World.drewN _) (Nat.add_assoc _ _ _))⟩)))
   go_wp2
   go_roundw
   case rel => exact ⟨k + 1, by omega, by go_num, ⟨H6.out.drewN _⟩⟩
   case measure => simp [intOf]; omega
  ·have hkn2 : k = n := by omega
   subst hkn2
   clear hkn hk
   clear c13 d13
   have c13 : wr.cell? ⟨g1, 13, none⟩ = some (.slice A2 k p2) := (blk_cell H6.out.b1 13).trans rfl
   have cs : wr.cell? ⟨g1, 0, none⟩ = some (.int .i64 floors) ∧ wr.cell? ⟨g1, 2, none⟩ = some (.int .i64 cars) ∧ wr.cell? ⟨g1, 3, none⟩ = some (.int .i64 speed) ∧ wr.cell? ⟨g1, 4, none⟩ = some (.int .i64 brake) ∧ wr.cell? ⟨g1, 5, none⟩ = some (.int .i64 tol) ∧ wr.cell? ⟨g1, 6, none⟩ = some (.int .i64 width) ∧ wr.cell? ⟨g1, 7, none⟩ = some (.int .i64 dwell) ∧ wr.cell? ⟨g1, 8, none⟩ = some (.int .i64 retries) ∧ wr.cell? ⟨g1, 9, none⟩ = some (.int .i64 empty) ∧ wr.cell? ⟨g1, 10, none⟩ = some (.int .i64 full) ∧ wr.cell? ⟨g1, 11, none⟩ = some (.int .i64 trips) ∧ wr.cell? ⟨g1, 12, none⟩ = some (.int .i64 slots) ∧ wr.cell? ⟨g1, 24, none⟩ = some (.int .i64 life) := ⟨(blk_cell H6.out.b1 0).trans rfl, (blk_cell H6.out.b1 2).trans rfl, (blk_cell H6.out.b1 3).trans rfl, (blk_cell H6.out.b1 4).trans rfl, (blk_cell H6.out.b1 5).trans rfl, (blk_cell H6.out.b1 6).trans rfl, (blk_cell H6.out.b1 7).trans rfl, (blk_cell H6.out.b1 8).trans rfl, (blk_cell H6.out.b1 9).trans rfl, (blk_cell H6.out.b1 10).trans rfl, (blk_cell H6.out.b1 11).trans rfl, (blk_cell H6.out.b1 12).trans rfl, (blk_cell H6.out.b1 24).trans rfl⟩
   go_upto_region 9 with fail
   refine wp_abs (fun W => TS w _ _ g1 g2 W ∧ W.heap[wr.heap.size]? = some (.cells #[.int .i64 floors, .int .i64 cars, .int .i64 speed, .int .i64 brake, .int .i64 tol, .int .i64 width, .int .i64 dwell, .int .i64 retries, .int .i64 empty, .int .i64 full, .int .i64 trips, .int .i64 slots, .int .i64 life] 3)) ⟨H6.out.alloc _, blk_new _ _⟩ (fun W7 h7 => ?_)
   generalize wr.heap.size = s1 at h7 ⊢
   clear H6 cs c13
   have H7 := Aside0.mk h7
   have ds : W7.cell? ⟨g2, 0, none⟩ = some (.int .i64 floors) ∧ W7.cell? ⟨g2, 2, none⟩ = some (.int .i64 cars) ∧ W7.cell? ⟨g2, 3, none⟩ = some (.int .i64 speed) ∧ W7.cell? ⟨g2, 4, none⟩ = some (.int .i64 brake) ∧ W7.cell? ⟨g2, 5, none⟩ = some (.int .i64 tol) ∧ W7.cell? ⟨g2, 6, none⟩ = some (.int .i64 width) ∧ W7.cell? ⟨g2, 7, none⟩ = some (.int .i64 dwell) ∧ W7.cell? ⟨g2, 8, none⟩ = some (.int .i64 retries) ∧ W7.cell? ⟨g2, 9, none⟩ = some (.int .i64 empty) ∧ W7.cell? ⟨g2, 10, none⟩ = some (.int .i64 full) ∧ W7.cell? ⟨g2, 11, none⟩ = some (.int .i64 trips) ∧ W7.cell? ⟨g2, 12, none⟩ = some (.int .i64 slots) ∧ W7.cell? ⟨g2, 24, none⟩ = some (.int .i64 life) := ⟨(blk_cell h7.1.b2 0).trans rfl, (blk_cell h7.1.b2 2).trans rfl, (blk_cell h7.1.b2 3).trans rfl, (blk_cell h7.1.b2 4).trans rfl, (blk_cell h7.1.b2 5).trans rfl, (blk_cell h7.1.b2 6).trans rfl, (blk_cell h7.1.b2 7).trans rfl, (blk_cell h7.1.b2 8).trans rfl, (blk_cell h7.1.b2 9).trans rfl, (blk_cell h7.1.b2 10).trans rfl, (blk_cell h7.1.b2 11).trans rfl, (blk_cell h7.1.b2 12).trans rfl, (blk_cell h7.1.b2 24).trans rfl⟩
   clear h7
   go_upto_region 10 with fail
   refine wp_abs (fun W => TS w _ _ g1 g2 W ∧ W.heap[s1]? = some (.cells #[.int .i64 floors, .int .i64 cars, .int .i64 speed, .int .i64 brake, .int .i64 tol, .int .i64 width, .int .i64 dwell, .int .i64 retries, .int .i64 empty, .int .i64 full, .int .i64 trips, .int .i64 slots, .int .i64 life] 3) ∧ W.heap[W7.heap.size]? = some (.cells #[.int .i64 floors, .int .i64 cars, .int .i64 speed, .int .i64 brake, .int .i64 tol, .int .i64 width, .int .i64 dwell, .int .i64 retries, .int .i64 empty, .int .i64 full, .int .i64 trips, .int .i64 slots, .int .i64 life] 3)) ⟨H7.out.1.alloc _, blk_alloc H7.out.2 _, blk_new _ _⟩ (fun W8 h8 => ?_)
   generalize W7.heap.size = s2 at h8 ⊢
   clear H7 ds
   have H8 := Aside0.mk h8
   have K1 := Aside0.mk (C_blk (l := [floors, cars, speed, brake, tol, width, dwell, retries, empty, full, trips, slots, life]) h8.2.1 (by simp))
   have K2 := Aside0.mk (C_blk (l := [floors, cars, speed, brake, tol, width, dwell, retries, empty, full, trips, slots, life]) h8.2.2 (by simp))
   clear h8
   go_wp2_with (go_at_call 26; (with_reducible refine (show Calls Try.prog 26 #[.slice (some ⟨s1, 0, none⟩) 13 13, .slice (some ⟨s2, 0, none⟩) 13 13] _ (fun e w' => e = .returned (.bool true) ∧ Drawn0 _ w') from kit_SameInts.calls _ (some ⟨s1, 0, none⟩) 13 [floors, cars, speed, brake, tol, width, dwell, retries, empty, full, trips, slots, life] (some ⟨s2, 0, none⟩) 13 [floors, cars, speed, brake, tol, width, dwell, retries, empty, full, trips, slots, life] true _ K1.out (by simp) K2.out (by simp) (sameInts_refl [floors, cars, speed, brake, tol, width, dwell, retries, empty, full, trips, slots, life] (by simp))).mono ?_); rintro e w' ⟨rfl, ⟨nd, rfl⟩⟩)
   go_ret
   exact ⟨rfl, bel H8.out.1.be⟩
end Go.Proofs.Ytmdcjmackhjchaa.P
end

section
/- tipstaffkit.SameConfig: what it answers of equal configurations. -/
namespace Go.Proofs.Ytmdcjmackhjchaa.P
open Go.RowKit Go.Proofs.YtmdcjmackhjchaaW.PrintWords Go.Proofs.YtmdcjmackhjchaaW.PrintLast Go.Proofs.YtmdcjmackhjchaaW.PrintMore
set_option linter.unusedVariables false

def kit_SameConfig.f (a0_0 : Int) (l0_1 : List Int) (a0_2 : Int) (a0_3 : Int) (a0_4 : Int) (a0_5 : Int) (a0_6 : Int) (a0_7 : Int) (a0_8 : Int) (a0_9 : Int) (a0_10 : Int) (a0_11 : Int) (a0_12 : Int) (l0_13 : List (List Int)) (a0_14 : Int) (a0_15 : Int) (a0_16 : Int) (a0_17 : Int) (a0_18 : Int) (a0_19 : Int) (a0_20 : Int) (a0_21 : Int) (a0_22 : Int) (l0_23 : List Int) (a0_24 : Int) (a1_0 : Int) (l1_1 : List Int) (a1_2 : Int) (a1_3 : Int) (a1_4 : Int) (a1_5 : Int) (a1_6 : Int) (a1_7 : Int) (a1_8 : Int) (a1_9 : Int) (a1_10 : Int) (a1_11 : Int) (a1_12 : Int) (l1_13 : List (List Int)) (a1_14 : Int) (a1_15 : Int) (a1_16 : Int) (a1_17 : Int) (a1_18 : Int) (a1_19 : Int) (a1_20 : Int) (a1_21 : Int) (a1_22 : Int) (l1_23 : List Int) (a1_24 : Int) : Option (Bool) :=
 if a0_0 = a1_0 ∧ l0_1 = l1_1 ∧ a0_2 = a1_2 ∧ a0_3 = a1_3 ∧ a0_4 = a1_4 ∧ a0_5 = a1_5 ∧ a0_6 = a1_6 ∧ a0_7 = a1_7 ∧ a0_8 = a1_8 ∧ a0_9 = a1_9 ∧ a0_10 = a1_10 ∧ a0_11 = a1_11 ∧ a0_12 = a1_12 ∧ l0_13 = l1_13 ∧ a0_14 = a1_14 ∧ a0_15 = a1_15 ∧ a0_16 = a1_16 ∧ a0_17 = a1_17 ∧ a0_18 = a1_18 ∧ a0_19 = a1_19 ∧ a0_20 = a1_20 ∧ a0_21 = a1_21 ∧ a0_22 = a1_22 ∧ l0_23 = l1_23 ∧ a0_24 = a1_24 ∧ l0_1.length ≤ 1000 ∧ l0_23.length ≤ 1000 ∧ l0_13.length ≤ 1000 ∧ (∀ l ∈ l0_13, l.length ≤ 1000) then some true else none
set_option maxRecDepth 100000 in
theorem kit_SameConfig.calls (a0_0 : Int) (A0_1 : Option Addr) (c0_1 : Nat) (l0_1 : List Int) (a0_2 : Int) (a0_3 : Int) (a0_4 : Int) (a0_5 : Int) (a0_6 : Int) (a0_7 : Int) (a0_8 : Int) (a0_9 : Int) (a0_10 : Int) (a0_11 : Int) (a0_12 : Int) (A0_13 : Option Addr) (c0_13 : Nat) (l0_13 : List (List Int)) (a0_14 : Int) (a0_15 : Int) (a0_16 : Int) (a0_17 : Int) (a0_18 : Int) (a0_19 : Int) (a0_20 : Int) (a0_21 : Int) (a0_22 : Int) (A0_23 : Option Addr) (c0_23 : Nat) (l0_23 : List Int) (a0_24 : Int) (a1_0 : Int) (A1_1 : Option Addr) (c1_1 : Nat) (l1_1 : List Int) (a1_2 : Int) (a1_3 : Int) (a1_4 : Int) (a1_5 : Int) (a1_6 : Int) (a1_7 : Int) (a1_8 : Int) (a1_9 : Int) (a1_10 : Int) (a1_11 : Int) (a1_12 : Int) (A1_13 : Option Addr) (c1_13 : Nat) (l1_13 : List (List Int)) (a1_14 : Int) (a1_15 : Int) (a1_16 : Int) (a1_17 : Int) (a1_18 : Int) (a1_19 : Int) (a1_20 : Int) (a1_21 : Int) (a1_22 : Int) (A1_23 : Option Addr) (c1_23 : Nat) (l1_23 : List Int) (a1_24 : Int) (r : Bool) (w : World) (hr0_1 : Kd.C (Kd.int .i64) w A0_1 l0_1.length l0_1) (hc0_1 : l0_1.length ≤ c0_1) (hr0_13 : Kd.C (Kd.slice 3 (Kd.int .i64)) w A0_13 l0_13.length l0_13) (hc0_13 : l0_13.length ≤ c0_13) (hr0_23 : Kd.C (Kd.int .i64) w A0_23 l0_23.length l0_23) (hc0_23 : l0_23.length ≤ c0_23) (hr1_1 : Kd.C (Kd.int .i64) w A1_1 l1_1.length l1_1) (hc1_1 : l1_1.length ≤ c1_1) (hr1_13 : Kd.C (Kd.slice 3 (Kd.int .i64)) w A1_13 l1_13.length l1_13) (hc1_13 : l1_13.length ≤ c1_13) (hr1_23 : Kd.C (Kd.int .i64) w A1_23 l1_23.length l1_23) (hc1_23 : l1_23.length ≤ c1_23) (h : kit_SameConfig.f a0_0 l0_1 a0_2 a0_3 a0_4 a0_5 a0_6 a0_7 a0_8 a0_9 a0_10 a0_11 a0_12 l0_13 a0_14 a0_15 a0_16 a0_17 a0_18 a0_19 a0_20 a0_21 a0_22 l0_23 a0_24 a1_0 l1_1 a1_2 a1_3 a1_4 a1_5 a1_6 a1_7 a1_8 a1_9 a1_10 a1_11 a1_12 l1_13 a1_14 a1_15 a1_16 a1_17 a1_18 a1_19 a1_20 a1_21 a1_22 l1_23 a1_24 = some r) :
  Calls Try.prog 12 #[.agg #[.int .i64 a0_0, .slice A0_1 l0_1.length c0_1, .int .i64 a0_2, .int .i64 a0_3, .int .i64 a0_4, .int .i64 a0_5, .int .i64 a0_6, .int .i64 a0_7, .int .i64 a0_8, .int .i64 a0_9, .int .i64 a0_10, .int .i64 a0_11, .int .i64 a0_12, .slice A0_13 l0_13.length c0_13, .int .u64 a0_14, .int .i64 a0_15, .int .i64 a0_16, .int .u64 a0_17, .int .i64 a0_18, .int .i64 a0_19, .int .u64 a0_20, .int .i64 a0_21, .int .i64 a0_22, .slice A0_23 l0_23.length c0_23, .int .i64 a0_24], .agg #[.int .i64 a1_0, .slice A1_1 l1_1.length c1_1, .int .i64 a1_2, .int .i64 a1_3, .int .i64 a1_4, .int .i64 a1_5, .int .i64 a1_6, .int .i64 a1_7, .int .i64 a1_8, .int .i64 a1_9, .int .i64 a1_10, .int .i64 a1_11, .int .i64 a1_12, .slice A1_13 l1_13.length c1_13, .int .u64 a1_14, .int .i64 a1_15, .int .i64 a1_16, .int .u64 a1_17, .int .i64 a1_18, .int .i64 a1_19, .int .u64 a1_20, .int .i64 a1_21, .int .i64 a1_22, .slice A1_23 l1_23.length c1_23, .int .i64 a1_24]] w fun e w' => e = .returned (.bool r) ∧ Below w.heap.size w w' := by
 have H := h
 unfold kit_SameConfig.f at H
 by_cases hc : a0_0 = a1_0 ∧ l0_1 = l1_1 ∧ a0_2 = a1_2 ∧ a0_3 = a1_3 ∧ a0_4 = a1_4 ∧ a0_5 = a1_5 ∧ a0_6 = a1_6 ∧ a0_7 = a1_7 ∧ a0_8 = a1_8 ∧ a0_9 = a1_9 ∧ a0_10 = a1_10 ∧ a0_11 = a1_11 ∧ a0_12 = a1_12 ∧ l0_13 = l1_13 ∧ a0_14 = a1_14 ∧ a0_15 = a1_15 ∧ a0_16 = a1_16 ∧ a0_17 = a1_17 ∧ a0_18 = a1_18 ∧ a0_19 = a1_19 ∧ a0_20 = a1_20 ∧ a0_21 = a1_21 ∧ a0_22 = a1_22 ∧ l0_23 = l1_23 ∧ a0_24 = a1_24 ∧ l0_1.length ≤ 1000 ∧ l0_23.length ≤ 1000 ∧ l0_13.length ≤ 1000 ∧ (∀ l ∈ l0_13, l.length ≤ 1000)
 ·rw [if_pos hc] at H
  obtain ⟨rfl, rfl, rfl, rfl, rfl, rfl, rfl, rfl, rfl, rfl, rfl, rfl, rfl, rfl, rfl, rfl, rfl, rfl, rfl, rfl, rfl, rfl, rfl, rfl, rfl, z1, z2, z3, z4⟩ := hc
  obtain rfl := Option.some.inj H
  exact same_ok a0_0 a0_2 a0_3 a0_4 a0_5 a0_6 a0_7 a0_8 a0_9 a0_10 a0_11 a0_12 a0_14 a0_15 a0_16 a0_17 a0_18 a0_19 a0_20 a0_21 a0_22 a0_24 l0_1 l0_23 l0_13 A0_1 A0_13 A0_23 A1_1 A1_13 A1_23 c0_1 c0_13 c0_23 c1_1 c1_13 c1_23 w
   hr0_1 hc0_1 hr0_13 hr0_23 hc0_23 hr1_1 hc1_1 hr1_13 hr1_23 hc1_23 (by omega) (by omega) (by omega) (fun l hl => Nat.le_trans (z4 l hl) (by decide))
 ·rw [if_neg hc] at H
  simp at H
end Go.Proofs.Ytmdcjmackhjchaa.P
end

section
-- Printed by wip/myprint.py of this repo (over the kit's printer). Not trusted: Lean checks it.
namespace Go.Proofs.Ytmdcjmackhjchaa.P
open Go.RowKit Go.Proofs.YtmdcjmackhjchaaW.PrintWords Go.Proofs.YtmdcjmackhjchaaW.PrintLast Go.Proofs.YtmdcjmackhjchaaW.PrintMore
attribute [local go_sem] cell_same1 cell_some1 ix27_0 ix27_1 ix27_2
attribute [local go_sem] max2_int min2_int max_two min_two max_three min_three max_four min_four   -- for this text's walks alone
set_option linter.unusedVariables false
set_option linter.unusedSimpArgs false

/-! ### q_light: function 5 -/
mutual
def q_light.l0 : Nat → Int → Int → List Int → Int → Int → Int → Int → Int → Int → Int → Int → Int → Int → Int → List (List Int) → Int → Int → Int → Int → Int → Int → Int → Int → Int → List Int → Int → Option (Bool)
 | 0, _, _, _, _, _, _, _, _, _, _, _, _, _, _, _, _, _, _, _, _, _, _, _, _, _, _ => none
 | k + 1, x3, x102000, x102001, x102002, x102003, x102004, x102005, x102006, x102007, x102008, x102009, x102010, x102011, x102012, x102013, x102014, x102015, x102016, x102017, x102018, x102019, x102020, x102021, x102022, x102023, x102024 => if x3 < (x102013.length : Int) then (q_light.j1 k x3 (decide (x3 < 10)) x102000 x102001 x102002 x102003 x102004 x102005 x102006 x102007 x102008 x102009 x102010 x102011 x102012 x102013 x102014 x102015 x102016 x102017 x102018 x102019 x102020 x102021 x102022 x102023 x102024) else (q_light.j1 k x3 false x102000 x102001 x102002 x102003 x102004 x102005 x102006 x102007 x102008 x102009 x102010 x102011 x102012 x102013 x102014 x102015 x102016 x102017 x102018 x102019 x102020 x102021 x102022 x102023 x102024)
def q_light.j1 : Nat → Int → Bool → Int → List Int → Int → Int → Int → Int → Int → Int → Int → Int → Int → Int → Int → List (List Int) → Int → Int → Int → Int → Int → Int → Int → Int → Int → List Int → Int → Option (Bool)
 | 0, _, _, _, _, _, _, _, _, _, _, _, _, _, _, _, _, _, _, _, _, _, _, _, _, _, _, _ => none
 | k + 1, x3, x12, x102000, x102001, x102002, x102003, x102004, x102005, x102006, x102007, x102008, x102009, x102010, x102011, x102012, x102013, x102014, x102015, x102016, x102017, x102018, x102019, x102020, x102021, x102022, x102023, x102024 => if x12 = true then (if 0 ≤ x3 then (if x3 < (x102013.length : Int) then (if ((rd_L1 x102013 x3).length : Int) > 30 then (some false) else (q_light.l0 k (wrap64 (x3 + 1)) x102000 x102001 x102002 x102003 x102004 x102005 x102006 x102007 x102008 x102009 x102010 x102011 x102012 x102013 x102014 x102015 x102016 x102017 x102018 x102019 x102020 x102021 x102022 x102023 x102024)) else (none)) else (none)) else (if (x102001.length : Int) ≤ 70 then (if (x102013.length : Int) ≤ 10 then (some (decide ((x102023.length : Int) ≤ 12))) else (some false)) else (some false))
end
def q_light.f (k : Nat) (a0_0 : Int) (l0_1 : List Int) (a0_2 : Int) (a0_3 : Int) (a0_4 : Int) (a0_5 : Int) (a0_6 : Int) (a0_7 : Int) (a0_8 : Int) (a0_9 : Int) (a0_10 : Int) (a0_11 : Int) (a0_12 : Int) (l0_13 : List (List Int)) (a0_14 : Int) (a0_15 : Int) (a0_16 : Int) (a0_17 : Int) (a0_18 : Int) (a0_19 : Int) (a0_20 : Int) (a0_21 : Int) (a0_22 : Int) (l0_23 : List Int) (a0_24 : Int) : Option (Bool) := q_light.l0 k 0 a0_0 l0_1 a0_2 a0_3 a0_4 a0_5 a0_6 a0_7 a0_8 a0_9 a0_10 a0_11 a0_12 l0_13 a0_14 a0_15 a0_16 a0_17 a0_18 a0_19 a0_20 a0_21 a0_22 l0_23 a0_24
theorem q_light.mono_l : ∀ k, (∀ y0 y1 y2 y3 y4 y5 y6 y7 y8 y9 y10 y11 y12 y13 y14 y15 y16 y17 y18 y19 y20 y21 y22 y23 y24 y25, LeO (q_light.l0 k y0 y1 y2 y3 y4 y5 y6 y7 y8 y9 y10 y11 y12 y13 y14 y15 y16 y17 y18 y19 y20 y21 y22 y23 y24 y25) (q_light.l0 (k + 1) y0 y1 y2 y3 y4 y5 y6 y7 y8 y9 y10 y11 y12 y13 y14 y15 y16 y17 y18 y19 y20 y21 y22 y23 y24 y25)) ∧ (∀ y0 y1 y2 y3 y4 y5 y6 y7 y8 y9 y10 y11 y12 y13 y14 y15 y16 y17 y18 y19 y20 y21 y22 y23 y24 y25 y26, LeO (q_light.j1 k y0 y1 y2 y3 y4 y5 y6 y7 y8 y9 y10 y11 y12 y13 y14 y15 y16 y17 y18 y19 y20 y21 y22 y23 y24 y25 y26) (q_light.j1 (k + 1) y0 y1 y2 y3 y4 y5 y6 y7 y8 y9 y10 y11 y12 y13 y14 y15 y16 y17 y18 y19 y20 y21 y22 y23 y24 y25 y26))
 | 0 => ⟨fun _ _ _ _ _ _ _ _ _ _ _ _ _ _ _ _ _ _ _ _ _ _ _ _ _ _ r h => by simp [q_light.l0] at h, fun _ _ _ _ _ _ _ _ _ _ _ _ _ _ _ _ _ _ _ _ _ _ _ _ _ _ _ r h => by simp [q_light.j1] at h⟩
 | k + 1 => by
  obtain ⟨ih0, ih1⟩ := q_light.mono_l k
  refine ⟨?_, ?_⟩
  ·as_aux_lemma =>
   intro y0 y1 y2 y3 y4 y5 y6 y7 y8 y9 y10 y11 y12 y13 y14 y15 y16 y17 y18 y19 y20 y21 y22 y23 y24 y25
   unfold q_light.l0
   repeat' first
   | (with_reducible exact ih0 _ _ _ _ _ _ _ _ _ _ _ _ _ _ _ _ _ _ _ _ _ _ _ _ _ _)
   | (with_reducible exact ih1 _ _ _ _ _ _ _ _ _ _ _ _ _ _ _ _ _ _ _ _ _ _ _ _ _ _ _)
   | (with_reducible exact LeO.refl _)
   | (with_reducible exact LeO.none _)
   | (with_reducible refine LeO.ite ?_ ?_)
   | (with_reducible refine LeO.bind ?_ (fun _ => ?_))
   | exact ih0 _ _ _ _ _ _ _ _ _ _ _ _ _ _ _ _ _ _ _ _ _ _ _ _ _ _
   | exact ih1 _ _ _ _ _ _ _ _ _ _ _ _ _ _ _ _ _ _ _ _ _ _ _ _ _ _ _
   | exact LeO.none _
   | refine LeO.ite ?_ ?_
   | refine LeO.bind ?_ (fun _ => ?_)
  ·as_aux_lemma =>
   intro y0 y1 y2 y3 y4 y5 y6 y7 y8 y9 y10 y11 y12 y13 y14 y15 y16 y17 y18 y19 y20 y21 y22 y23 y24 y25 y26
   unfold q_light.j1
   repeat' first
   | (with_reducible exact ih0 _ _ _ _ _ _ _ _ _ _ _ _ _ _ _ _ _ _ _ _ _ _ _ _ _ _)
   | (with_reducible exact ih1 _ _ _ _ _ _ _ _ _ _ _ _ _ _ _ _ _ _ _ _ _ _ _ _ _ _ _)
   | (with_reducible exact LeO.refl _)
   | (with_reducible exact LeO.none _)
   | (with_reducible refine LeO.ite ?_ ?_)
   | (with_reducible refine LeO.bind ?_ (fun _ => ?_))
   | exact ih0 _ _ _ _ _ _ _ _ _ _ _ _ _ _ _ _ _ _ _ _ _ _ _ _ _ _
   | exact ih1 _ _ _ _ _ _ _ _ _ _ _ _ _ _ _ _ _ _ _ _ _ _ _ _ _ _ _
   | exact LeO.none _
   | refine LeO.ite ?_ ?_
   | refine LeO.bind ?_ (fun _ => ?_)
theorem q_light.mono : ∀ a0 a1 a2 a3 a4 a5 a6 a7 a8 a9 a10 a11 a12 a13 a14 a15 a16 a17 a18 a19 a20 a21 a22 a23 a24 k, LeO (q_light.f k a0 a1 a2 a3 a4 a5 a6 a7 a8 a9 a10 a11 a12 a13 a14 a15 a16 a17 a18 a19 a20 a21 a22 a23 a24) (q_light.f (k + 1) a0 a1 a2 a3 a4 a5 a6 a7 a8 a9 a10 a11 a12 a13 a14 a15 a16 a17 a18 a19 a20 a21 a22 a23 a24) := by
 intro a0 a1 a2 a3 a4 a5 a6 a7 a8 a9 a10 a11 a12 a13 a14 a15 a16 a17 a18 a19 a20 a21 a22 a23 a24 k
 obtain ⟨ih0, ih1⟩ := q_light.mono_l k
 unfold q_light.f
 repeat' first
   | (with_reducible exact ih0 _ _ _ _ _ _ _ _ _ _ _ _ _ _ _ _ _ _ _ _ _ _ _ _ _ _)
   | (with_reducible exact ih1 _ _ _ _ _ _ _ _ _ _ _ _ _ _ _ _ _ _ _ _ _ _ _ _ _ _ _)
   | (with_reducible exact LeO.refl _)
   | (with_reducible exact LeO.none _)
   | (with_reducible refine LeO.ite ?_ ?_)
   | (with_reducible refine LeO.bind ?_ (fun _ => ?_))
   | exact ih0 _ _ _ _ _ _ _ _ _ _ _ _ _ _ _ _ _ _ _ _ _ _ _ _ _ _
   | exact ih1 _ _ _ _ _ _ _ _ _ _ _ _ _ _ _ _ _ _ _ _ _ _ _ _ _ _ _
   | exact LeO.none _
   | refine LeO.ite ?_ ?_
   | refine LeO.bind ?_ (fun _ => ?_)
set_option maxHeartbeats 8000000 in
set_option maxRecDepth 100000 in
theorem q_light.calls (k : Nat) (a0_0 : Int) (A0_1 : Option Addr) (c0_1 : Nat) (l0_1 : List Int) (a0_2 : Int) (a0_3 : Int) (a0_4 : Int) (a0_5 : Int) (a0_6 : Int) (a0_7 : Int) (a0_8 : Int) (a0_9 : Int) (a0_10 : Int) (a0_11 : Int) (a0_12 : Int) (A0_13 : Option Addr) (c0_13 : Nat) (l0_13 : List (List Int)) (a0_14 : Int) (a0_15 : Int) (a0_16 : Int) (a0_17 : Int) (a0_18 : Int) (a0_19 : Int) (a0_20 : Int) (a0_21 : Int) (a0_22 : Int) (A0_23 : Option Addr) (c0_23 : Nat) (l0_23 : List Int) (a0_24 : Int) (r : Bool) (w : World) (hr0_1 : Kd.C (Kd.int .i64) w A0_1 l0_1.length l0_1) (hc0_1 : l0_1.length ≤ c0_1) (hr0_13 : Kd.C (Kd.slice 3 (Kd.int .i64)) w A0_13 l0_13.length l0_13) (hc0_13 : l0_13.length ≤ c0_13) (hr0_23 : Kd.C (Kd.int .i64) w A0_23 l0_23.length l0_23) (hc0_23 : l0_23.length ≤ c0_23) (h : q_light.f k a0_0 l0_1 a0_2 a0_3 a0_4 a0_5 a0_6 a0_7 a0_8 a0_9 a0_10 a0_11 a0_12 l0_13 a0_14 a0_15 a0_16 a0_17 a0_18 a0_19 a0_20 a0_21 a0_22 l0_23 a0_24 = some r) :
  Calls Try.prog 5 #[.agg #[.int .i64 a0_0, .slice A0_1 l0_1.length c0_1, .int .i64 a0_2, .int .i64 a0_3, .int .i64 a0_4, .int .i64 a0_5, .int .i64 a0_6, .int .i64 a0_7, .int .i64 a0_8, .int .i64 a0_9, .int .i64 a0_10, .int .i64 a0_11, .int .i64 a0_12, .slice A0_13 l0_13.length c0_13, .int .u64 a0_14, .int .i64 a0_15, .int .i64 a0_16, .int .u64 a0_17, .int .i64 a0_18, .int .i64 a0_19, .int .u64 a0_20, .int .i64 a0_21, .int .i64 a0_22, .slice A0_23 l0_23.length c0_23, .int .i64 a0_24]] w fun e w' => e = .returned (.bool r) ∧ Below w.heap.size w w' := by
 have hu29 := Try.underlying29
 have HR0_1 := Aside0.mk hr0_1
 have HC0_1 := Aside0.mk hc0_1
 clear hr0_1 hc0_1
 have HR0_13 := Aside0.mk hr0_13
 have HC0_13 := Aside0.mk hc0_13
 clear hr0_13 hc0_13
 have HR0_23 := Aside0.mk hr0_23
 have HC0_23 := Aside0.mk hc0_23
 clear hr0_23 hc0_23
 have HB := Aside0.mk (Below.refl w.heap.size w)
 have H : (q_light.l0 k 0 a0_0 l0_1 a0_2 a0_3 a0_4 a0_5 a0_6 a0_7 a0_8 a0_9 a0_10 a0_11 a0_12 l0_13 a0_14 a0_15 a0_16 a0_17 a0_18 a0_19 a0_20 a0_21 a0_22 l0_23 a0_24) = some r := h
 clear h
 have H' := Aside0.mk H
 clear H
 go_enter Try.func5, Try.ntmps5
 go_wp2_with (first | ((with_reducible refine gate_dst (N := 1) rfl ?_); (try (refine gate_guard (by rfl) ?_; dsimp only)); refine bxe (cs := #[.int .i64 a0_0, .slice A0_1 l0_1.length c0_1, .int .i64 a0_2, .int .i64 a0_3, .int .i64 a0_4, .int .i64 a0_5, .int .i64 a0_6, .int .i64 a0_7, .int .i64 a0_8, .int .i64 a0_9, .int .i64 a0_10, .int .i64 a0_11, .int .i64 a0_12, .slice A0_13 l0_13.length c0_13, .int .u64 a0_14, .int .i64 a0_15, .int .i64 a0_16, .int .u64 a0_17, .int .i64 a0_18, .int .i64 a0_19, .int .u64 a0_20, .int .i64 a0_21, .int .i64 a0_22, .slice A0_23 l0_23.length c0_23, .int .i64 a0_24]) (t := 29) ?_; intro gb101 hg w2 hbox hb; have BK101 := Aside0.mk (hbox); have GW101 := Aside0.mk (bge hg HB.out); have GE101 := Aside0.mk (bge hg HB.out); replace HB := Aside0.mk (bst HB.out hb); clear hb hbox hg))
 go_loopg [3] k (fun kq v3 w' => ∃ (x3_1 : Int), v3 = .int .i64 x3_1 ∧ Aside0 (q_light.l0 kq x3_1 a0_0 l0_1 a0_2 a0_3 a0_4 a0_5 a0_6 a0_7 a0_8 a0_9 a0_10 a0_11 a0_12 l0_13 a0_14 a0_15 a0_16 a0_17 a0_18 a0_19 a0_20 a0_21 a0_22 l0_23 a0_24 = some r) ∧ Aside0 (kq ≤ k) ∧ Aside0 (w'.heap[gb101]? = some (.cells #[.int .i64 a0_0, (.slice A0_1 l0_1.length c0_1), .int .i64 a0_2, .int .i64 a0_3, .int .i64 a0_4, .int .i64 a0_5, .int .i64 a0_6, .int .i64 a0_7, .int .i64 a0_8, .int .i64 a0_9, .int .i64 a0_10, .int .i64 a0_11, .int .i64 a0_12, (.slice A0_13 l0_13.length c0_13), .int .u64 a0_14, .int .i64 a0_15, .int .i64 a0_16, .int .u64 a0_17, .int .i64 a0_18, .int .i64 a0_19, .int .u64 a0_20, .int .i64 a0_21, .int .i64 a0_22, (.slice A0_23 l0_23.length c0_23), .int .i64 a0_24] 29 (0, 0))) ∧ Aside0 (Below w.heap.size w w'))
 case atStart => exact ⟨(0), (by first | rfl | (simp; done) | (simp [*]; done)), H', ⟨Nat.le_refl _⟩, ⟨bkt BK101.out⟩, ⟨bel HB.out⟩⟩
 case round =>
  clear H'
  try clear p2
  obtain ⟨x3_1, rfl, HA, HK1, BK101, HB⟩ := hrel
  cases gk with
  | zero => exact absurd HA.out (by simp [q_light.l0])
  | succ k1 =>
   have H := HA.out
   clear HA
   simp only [q_light.l0] at H
   have HC3 := Aside0.mk H
   clear H
   go_upto_region 2 with (fail)
   go_cut [12] (fun v12 wc => ∃ (kq : Nat) (x12_2 : Bool), v12 = .bool x12_2 ∧ Aside0 (q_light.j1 kq x3_1 x12_2 a0_0 l0_1 a0_2 a0_3 a0_4 a0_5 a0_6 a0_7 a0_8 a0_9 a0_10 a0_11 a0_12 l0_13 a0_14 a0_15 a0_16 a0_17 a0_18 a0_19 a0_20 a0_21 a0_22 l0_23 a0_24 = some r) ∧ Aside0 (kq ≤ k1) ∧ Aside0 (wc.heap[gb101]? = some (.cells #[.int .i64 a0_0, (.slice A0_1 l0_1.length c0_1), .int .i64 a0_2, .int .i64 a0_3, .int .i64 a0_4, .int .i64 a0_5, .int .i64 a0_6, .int .i64 a0_7, .int .i64 a0_8, .int .i64 a0_9, .int .i64 a0_10, .int .i64 a0_11, .int .i64 a0_12, (.slice A0_13 l0_13.length c0_13), .int .u64 a0_14, .int .i64 a0_15, .int .i64 a0_16, .int .u64 a0_17, .int .i64 a0_18, .int .i64 a0_19, .int .u64 a0_20, .int .i64 a0_21, .int .i64 a0_22, (.slice A0_23 l0_23.length c0_23), .int .i64 a0_24] 29 (0, 0))) ∧ Aside0 (Below w.heap.size w wc))
   case first =>
    have H := HC3.out
    clear HC3
    by_cases c4 : x3_1 < (l0_13.length : Int)
    ·as_aux_lemma =>
     rw [if_pos c4] at H
     have c4b0 : decide (x3_1 < (l0_13.length : Int)) = true := decide_eq_true c4
     clear c4
     (first | rw [c4b0] | (simp only [i64_w, i32_w]; rw [c4b0]) | skip)
     have H' := Aside0.mk H
     clear H
     have hcz5_0 := cz25 BK101.out
     have hfz5_0 := blk_frozen BK101.out
     go_wp2
     go_meet
     case rel => exact ⟨_, (decide (x3_1 < 10)), (by first | rfl | (simp; done) | (simp [*]; done)), H', ⟨by have := HK1.out; first | omega | exact Nat.le_refl _⟩, ⟨bkt BK101.out⟩, ⟨bel HB.out⟩⟩
    ·as_aux_lemma =>
     rw [if_neg c4] at H
     have c4b0 : decide (x3_1 < (l0_13.length : Int)) = false := decide_eq_false c4
     clear c4
     (first | rw [c4b0] | (simp only [i64_w, i32_w]; rw [c4b0]) | skip)
     have H' := Aside0.mk H
     clear H
     have hcz6_0 := cz25 BK101.out
     have hfz6_0 := blk_frozen BK101.out
     go_wp2
     go_meet
     case rel => exact ⟨_, (false), (by first | rfl | (simp; done) | (simp [*]; done)), H', ⟨by have := HK1.out; first | omega | exact Nat.le_refl _⟩, ⟨bkt BK101.out⟩, ⟨bel HB.out⟩⟩
   case rest =>
    clear HC3
    try clear p2
    try clear c4
    try clear c4b0
    try clear c5
    try clear hcz5_0
    try clear hcz6_0
    try clear hfz5_0
    try clear hfz6_0
    try clear p2
    obtain ⟨kq, x12_2, rfl, HA, HJ2, BK101, HB⟩ := hcut
    cases kq with
    | zero => exact absurd HA.out (by simp [q_light.j1])
    | succ kj2 =>
     have H := HA.out
     clear HA
     simp only [q_light.j1] at H
     by_cases c7 : x12_2 = true
     ·as_aux_lemma =>
      subst c7
      have H1 : (if 0 ≤ x3_1 then (if x3_1 < (l0_13.length : Int) then (if ((rd_L1 l0_13 x3_1).length : Int) > 30 then (some false) else (q_light.l0 kj2 (wrap64 (x3_1 + 1)) a0_0 l0_1 a0_2 a0_3 a0_4 a0_5 a0_6 a0_7 a0_8 a0_9 a0_10 a0_11 a0_12 l0_13 a0_14 a0_15 a0_16 a0_17 a0_18 a0_19 a0_20 a0_21 a0_22 l0_23 a0_24)) else (none)) else (none)) = some r := by rw [if_pos rfl] at H; exact H
      clear H
      have H := H1
      clear H1
      by_cases c8 : 0 ≤ x3_1
      ·as_aux_lemma =>
       rw [if_pos c8] at H
       have c8b0 : decide (0 ≤ x3_1) = true := decide_eq_true c8
       clear c8
       by_cases c9 : x3_1 < (l0_13.length : Int)
       ·as_aux_lemma =>
        rw [if_pos c9] at H
        have c9b0 : decide (x3_1 < (l0_13.length : Int)) = true := decide_eq_true c9
        clear c9
        by_cases c10 : ((rd_L1 l0_13 x3_1).length : Int) > 30
        ·as_aux_lemma =>
         rw [if_pos c10] at H
         have c10b0 : decide (30 < ((rd_L1 l0_13 x3_1).length : Int)) = true := decide_eq_true c10
         have c10b1 : decide (30 < (rd_L1 l0_13 x3_1).length) = true := decide_eq_true (by omega)
         clear c10
         obtain rfl := Option.some.inj H
         have hcz11_0 := cz25 BK101.out
         have hfz11_0 := blk_frozen BK101.out
         have p102 : 0 ≤ (x3_1 : Int) := of_decide_eq_true (by first | (with_reducible assumption) | assumption)
         have q102 : x3_1 < (l0_13.length : Int) := of_decide_eq_true (by first | (with_reducible assumption) | assumption)
         obtain ⟨ad102, A102_0, c102_0, e102, hx102_0, hl102_0, hi102_0⟩ := at_L1 HR0_13.out x3_1 p102 q102
         cases e102
         replace hx102_0 := (HB.out.cell (World.block_lt_of_cell? w _ hx102_0)).trans hx102_0
         have HR102_0 := Aside0.mk hi102_0
         have HC102_0 := Aside0.mk hl102_0
         clear hi102_0 hl102_0
         replace p102 := eq_true p102
         replace q102 := eq_true q102
         go_wp2
         go_ret
         exact bfin (bel HB.out)
        ·as_aux_lemma =>
         rw [if_neg c10] at H
         have c10b0 : decide (30 < ((rd_L1 l0_13 x3_1).length : Int)) = false := decide_eq_false c10
         have c10b1 : decide (30 < (rd_L1 l0_13 x3_1).length) = false := decide_eq_false (by omega)
         clear c10
         have H' := Aside0.mk H
         clear H
         have hcz12_0 := cz25 BK101.out
         have hfz12_0 := blk_frozen BK101.out
         have p102 : 0 ≤ (x3_1 : Int) := of_decide_eq_true (by first | (with_reducible assumption) | assumption)
         have q102 : x3_1 < (l0_13.length : Int) := of_decide_eq_true (by first | (with_reducible assumption) | assumption)
         obtain ⟨ad102, A102_0, c102_0, e102, hx102_0, hl102_0, hi102_0⟩ := at_L1 HR0_13.out x3_1 p102 q102
         cases e102
         replace hx102_0 := (HB.out.cell (World.block_lt_of_cell? w _ hx102_0)).trans hx102_0
         have HR102_0 := Aside0.mk hi102_0
         have HC102_0 := Aside0.mk hl102_0
         clear hi102_0 hl102_0
         replace p102 := eq_true p102
         replace q102 := eq_true q102
         go_wp2
         go_roundg kj2
         case measure => have := HK1.out; have := HJ2.out; omega
         case rel => exact ⟨(wrap64 (x3_1 + 1)), (by first | rfl | (simp; done) | (simp [*]; done)), H', ⟨by have := HK1.out; have := HJ2.out; omega⟩, ⟨bkt BK101.out⟩, ⟨bel HB.out⟩⟩
       ·rw [if_neg c9] at H
        exact absurd H (by simp)
      ·rw [if_neg c8] at H
       exact absurd H (by simp)
     ·as_aux_lemma =>
      replace c7 := Bool.eq_false_iff.mpr c7
      subst c7
      have H1 : (if (l0_1.length : Int) ≤ 70 then (if (l0_13.length : Int) ≤ 10 then (some (decide ((l0_23.length : Int) ≤ 12))) else (some false)) else (some false)) = some r := by rw [if_neg (show ¬ (false = true) by decide)] at H; exact H
      clear H
      have H := H1
      clear H1
      by_cases c13 : (l0_1.length : Int) ≤ 70
      ·as_aux_lemma =>
       rw [if_pos c13] at H
       have c13b0 : decide ((l0_1.length : Int) ≤ 70) = true := decide_eq_true c13
       have c13b1 : decide (l0_1.length ≤ 70) = true := decide_eq_true (by omega)
       clear c13
       by_cases c14 : (l0_13.length : Int) ≤ 10
       ·as_aux_lemma =>
        rw [if_pos c14] at H
        have c14b0 : decide ((l0_13.length : Int) ≤ 10) = true := decide_eq_true c14
        have c14b1 : decide (l0_13.length ≤ 10) = true := decide_eq_true (by omega)
        clear c14
        obtain rfl := Option.some.inj H
        have hcz15_0 := cz25 BK101.out
        have hfz15_0 := blk_frozen BK101.out
        go_wp2
        go_ret
        exact bfin (bel HB.out)
       ·as_aux_lemma =>
        rw [if_neg c14] at H
        have c14b0 : decide ((l0_13.length : Int) ≤ 10) = false := decide_eq_false c14
        have c14b1 : decide (l0_13.length ≤ 10) = false := decide_eq_false (by omega)
        clear c14
        obtain rfl := Option.some.inj H
        have hcz16_0 := cz25 BK101.out
        have hfz16_0 := blk_frozen BK101.out
        go_wp2
        go_ret
        exact bfin (bel HB.out)
      ·as_aux_lemma =>
       rw [if_neg c13] at H
       have c13b0 : decide ((l0_1.length : Int) ≤ 70) = false := decide_eq_false c13
       have c13b1 : decide (l0_1.length ≤ 70) = false := decide_eq_false (by omega)
       clear c13
       obtain rfl := Option.some.inj H
       have hcz17_0 := cz25 BK101.out
       have hfz17_0 := blk_frozen BK101.out
       go_wp2
       go_ret
       exact bfin (bel HB.out)

end Go.Proofs.Ytmdcjmackhjchaa.P
end

section
/- tipstafflaw41.BoundNumbers returns true whatever the input: the calls' answers put together. -/
namespace Go.Proofs.Ytmdcjmackhjchaa.P
open Go.RowKit Go.Proofs.YtmdcjmackhjchaaW.PrintWords Go.Proofs.YtmdcjmackhjchaaW.PrintLast Go.Proofs.YtmdcjmackhjchaaW.PrintMore
set_option linter.unusedVariables false
set_option linter.unusedSimpArgs false

theorem own_f (l : List Int) (h : l.length ≤ 1000) : kit_OwnInts.f l = some l := by
 rw [kit_OwnInts.f, Option.bind_some, if_pos (by simp; omega)]
 simp
section
variable (f : Int) (g : List Int) (cars : Int) (sp : Int) (br : Int) (tol : Int) (w : Int) (dw : Int) (re : Int) (em : Int) (fu : Int) (tr : Int) (sl : Int) (t : List (List Int)) (m0 : Int) (h0 : Int) (k0 : Int) (m1 : Int) (h1 : Int) (k1 : Int) (m2 : Int) (h2 : Int) (k2 : Int) (ks : List Int) (li : Int)
theorem light_l0 : ∀ (d i k : Nat), i + d = t.length → t.length ≤ 100000 → 2 * d + 2 ≤ k → ∃ b, q_light.l0 k (i : Int) f g cars sp br tol w dw re em fu tr sl t m0 h0 k0 m1 h1 k1 m2 h2 k2 ks li = some b ∧
  (b = true → (g.length ≤ 70 ∧ t.length ≤ 10 ∧ ks.length ≤ 12) ∧ ∀ j : Nat, i ≤ j → j < t.length → (rd_L1 t (j : Int)).length ≤ 30) := by
 intro d
 induction d with
 | zero =>
  intro i k h hl hk
  obtain ⟨k, rfl⟩ : ∃ m, k = m + 2 := ⟨k - 2, by omega⟩
  rw [q_light.l0, if_neg (by omega), q_light.j1, if_neg (by simp)]
  by_cases q1 : (g.length : Int) ≤ 70
  ·by_cases q2 : (t.length : Int) ≤ 10
   ·rw [if_pos q1, if_pos q2]
    refine ⟨_, rfl, fun hb => ?_⟩
    have := of_decide_eq_true hb
    exact ⟨⟨by omega, by omega, by omega⟩, fun j h1 h2 => by omega⟩
   ·rw [if_pos q1, if_neg q2]; exact ⟨_, rfl, fun hb => by cases hb⟩
  ·rw [if_neg q1]; exact ⟨_, rfl, fun hb => by cases hb⟩
 | succ d ih =>
  intro i k h hl hk
  obtain ⟨k, rfl⟩ : ∃ m, k = m + 2 := ⟨k - 2, by omega⟩
  rw [q_light.l0, if_pos (by omega), q_light.j1]
  by_cases q : (i : Int) < 10
  ·rw [decide_eq_true q, if_pos rfl, if_pos (by omega), if_pos (by omega)]
   by_cases q3 : ((rd_L1 t (i : Int)).length : Int) > 30
   ·rw [if_pos q3]; exact ⟨_, rfl, fun hb => by cases hb⟩
   ·rw [if_neg q3, w_succ i (by omega)]
    obtain ⟨b, hb, hb2⟩ := ih (i + 1) k (by omega) hl (by omega)
    refine ⟨b, hb, fun e => ⟨(hb2 e).1, fun j h1 h2 => ?_⟩⟩
    rcases Nat.eq_or_lt_of_le h1 with z | z
    ·subst z; omega
    ·exact (hb2 e).2 j z h2
  ·rw [decide_eq_false q, if_neg (by simp)]
   by_cases q1 : (g.length : Int) ≤ 70
   ·rw [if_pos q1, if_neg (by omega)]; exact ⟨_, rfl, fun hb => by cases hb⟩
   ·rw [if_neg q1]; exact ⟨_, rfl, fun hb => by cases hb⟩
theorem ownc_l0 (hrow : ∀ j : Nat, j < t.length → (rd_L1 t (j : Int)).length ≤ 1000) (ht : t.length ≤ 1000) : ∀ (d i k : Nat), i + d = t.length → d + 1 ≤ k →
  kit_OwnConfig.l0 k (t.take i) (i : Int) f g cars sp br tol w dw re em fu tr sl t m0 h0 k0 m1 h1 k1 m2 h2 k2 ks li = some (f, g, cars, sp, br, tol, w, dw, re, em, fu, tr, sl, t, m0, h0, k0, m1, h1, k1, m2, h2, k2, ks, li) := by
 intro d
 induction d with
 | zero =>
  intro i k h hk
  obtain ⟨k, rfl⟩ : ∃ m, k = m + 1 := ⟨k - 1, by omega⟩
  rw [kit_OwnConfig.l0, if_neg (by omega), List.take_of_length_le (by omega)]
 | succ d ih =>
  intro i k h hk
  obtain ⟨k, rfl⟩ : ∃ m, k = m + 1 := ⟨k - 1, by omega⟩
  have hi : i < t.length := by omega
  rw [kit_OwnConfig.l0, if_pos (by omega), if_pos (by omega), own_f _ (hrow i hi), Option.bind_some, if_pos (by rw [List.length_take]; omega), w_succ i (by omega)]
  have e : t.take i ++ [rd_L1 t (i : Int)] = t.take (i + 1) := by
   have : rd_L1 t (i : Int) = t[i] := by simp [rd_L1, hi]
   rw [this, List.take_succ_eq_append_getElem hi]
  rw [e]
  exact ih (i + 1) k (by omega) (by omega)
theorem ownc_f (hg : g.length ≤ 1000) (ht : t.length ≤ 1000) (hl : ks.length ≤ 1000) (hrow : ∀ j : Nat, j < t.length → (rd_L1 t (j : Int)).length ≤ 1000) (k : Nat) (hk : t.length + 1 ≤ k) :
  kit_OwnConfig.f k f g cars sp br tol w dw re em fu tr sl t m0 h0 k0 m1 h1 k1 m2 h2 k2 ks li = some (f, g, cars, sp, br, tol, w, dw, re, em, fu, tr, sl, t, m0, h0, k0, m1, h1, k1, m2, h2, k2, ks, li) := by
 rw [kit_OwnConfig.f, own_f g hg, Option.bind_some, own_f ks hl, Option.bind_some]
 exact ownc_l0 f g cars sp br tol w dw re em fu tr sl t m0 h0 k0 m1 h1 k1 m2 h2 k2 ks li hrow ht t.length 0 k (by omega) hk
end
end Go.Proofs.Ytmdcjmackhjchaa.P
end
