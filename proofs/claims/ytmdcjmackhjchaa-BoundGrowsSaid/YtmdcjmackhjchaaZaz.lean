import Derived.Test.YtmdcjmackhjchaaZav
import Derived.Test.YtmdcjmackhjchaaZaw
import Derived.Test.YtmdcjmackhjchaaZay
section
/- BoundGrows: what its calls answer for a small configuration, and the law. -/
namespace Go.Proofs.Ytmdcjmackhjchaa.P
open Go.RowKit Go.Proofs.YtmdcjmackhjchaaW.PrintWords Go.Proofs.YtmdcjmackhjchaaW.PrintLast Go.Proofs.YtmdcjmackhjchaaW.PrintMore
set_option linter.unusedVariables false
set_option linter.unusedSimpArgs false

theorem rule_k {f m h k : Int} (e : ruleE f m h k = 0) : 1 ≤ k ∧ k ≤ 32 := by
 unfold ruleE at e
 split at e
 ·omega
 split at e
 ·omega
 split at e
 ·split at e
  ·rename_i q
   unfold inb at q
   simp at q
   omega
  ·omega
 ·omega
theorem rule_up {f m h k : Int} (e : ruleE f m h k = 0) (h5 : k ≤ 5) : ruleE f m h (wrap64 (k + 1)) = 0 ∧ wrap64 (k + 1) = k + 1 := by
 have hk := rule_k e
 have hw : wrap64 (k + 1) = k + 1 := by unfold wrap64; omega
 refine ⟨?_, hw⟩
 rw [hw]
 unfold ruleE at e ⊢
 have i1 : inb k 1 32 = true := by unfold inb; simp; omega
 have i2 : inb (k + 1) 1 32 = true := by unfold inb; simp; omega
 rw [i1] at e
 rw [i2]
 exact e
namespace Cont
def kd (i : Cont) (D : Int) : Int := if D = 1 then i.k0 else if D = 2 then i.k1 else i.k2
/-- One call more for a domain. -/
def up (i : Cont) (D : Int) : Cont := if D = 1 then { i with k0 := wrap64 (i.k0 + 1) } else if D = 2 then { i with k1 := wrap64 (i.k1 + 1) } else { i with k2 := wrap64 (i.k2 + 1) }
/-- One slot more. -/
def gr (i : Cont) : Cont := { i with sl := wrap64 (i.sl + 1), t := i.t.map (· ++ [0]) }
variable {i j : Cont} {kk ss D : Int}
theorem Sm.len (S : i.Sm kk ss) : i.g.length ≤ 1000 ∧ i.t.length ≤ 1000 ∧ i.ks.length ≤ 1000 := by
 have h1 := Small.gl S
 have h2 := Small.f1 S
 have h3 := Small.tl S
 have h4 := Small.c1 S
 have h5 := Small.kl S
 omega
theorem Sm.kd (S : i.Sm kk ss) (hD : D = 1 ∨ D = 2 ∨ D = 3) (hk : kk ≤ 32) : 1 ≤ i.kd D ∧ i.kd D ≤ 32 := by
 have h0 := rule_k (Small.r0 S)
 have h1 := rule_k (Small.r1 S)
 have h2 := rule_k (Small.r2 S)
 obtain rfl | rfl | rfl := hD
 ·exact h0
 ·exact h1
 ·exact h2
theorem up_Sm (S : i.Sm 5 4) (hD : D = 1 ∨ D = 2 ∨ D = 3) : (i.up D).Sm 6 4 ∧ (i.up D).kd D = i.kd D + 1 := by
 obtain ⟨f0, f1, gl, ge, c0, c1, sp0, sp1, br0, br1, to0, to1, w0, w1, dw0, dw1, re0, re1, em0, em1, fu0, fu1, tr0, tr1, sl0, sl1, tl, te, r0, r1, r2, ka, kb, kc, ma, mb, mc, ky, kl, li0, li1⟩ := S
 have u0 := rule_up r0 ka
 have u1 := rule_up r1 kb
 have u2 := rule_up r2 kc
 obtain rfl | rfl | rfl := hD
 ·exact ⟨⟨f0, f1, gl, ge, c0, c1, sp0, sp1, br0, br1, to0, to1, w0, w1, dw0, dw1, re0, re1, em0, em1, fu0, fu1, tr0, tr1, sl0, sl1, tl, te, u0.1, r1, r2, by show wrap64 (i.k0 + 1) ≤ 6; omega, by show i.k1 ≤ 6; omega, by show i.k2 ≤ 6; omega, ma, mb, mc, ky, kl, li0, li1⟩, u0.2⟩
 ·exact ⟨⟨f0, f1, gl, ge, c0, c1, sp0, sp1, br0, br1, to0, to1, w0, w1, dw0, dw1, re0, re1, em0, em1, fu0, fu1, tr0, tr1, sl0, sl1, tl, te, r0, u1.1, r2, by show i.k0 ≤ 6; omega, by show wrap64 (i.k1 + 1) ≤ 6; omega, by show i.k2 ≤ 6; omega, ma, mb, mc, ky, kl, li0, li1⟩, u1.2⟩
 ·exact ⟨⟨f0, f1, gl, ge, c0, c1, sp0, sp1, br0, br1, to0, to1, w0, w1, dw0, dw1, re0, re1, em0, em1, fu0, fu1, tr0, tr1, sl0, sl1, tl, te, r0, r1, u2.1, by show i.k0 ≤ 6; omega, by show i.k1 ≤ 6; omega, by show wrap64 (i.k2 + 1) ≤ 6; omega, ma, mb, mc, ky, kl, li0, li1⟩, u2.2⟩
theorem gr_Sm (S : i.Sm 5 4) : i.gr.Sm 5 5 ∧ i.gr.sl = i.sl + 1 := by
 obtain ⟨f0, f1, gl, ge, c0, c1, sp0, sp1, br0, br1, to0, to1, w0, w1, dw0, dw1, re0, re1, em0, em1, fu0, fu1, tr0, tr1, sl0, sl1, tl, te, r0, r1, r2, ka, kb, kc, ma, mb, mc, ky, kl, li0, li1⟩ := S
 have e : wrap64 (i.sl + 1) = i.sl + 1 := by unfold wrap64; omega
 refine ⟨⟨f0, f1, gl, ge, c0, c1, sp0, sp1, br0, br1, to0, to1, w0, w1, dw0, dw1, re0, re1, em0, em1, fu0, fu1, tr0, tr1, ?_, ?_, ?_, ?_, r0, r1, r2, ka, kb, kc, ma, mb, mc, ky, kl, li0, li1⟩, e⟩
 ·show 1 ≤ wrap64 (i.sl + 1)
  omega
 ·show wrap64 (i.sl + 1) ≤ 5
  omega
 ·show ((i.t.map (· ++ [0])).length : Int) = i.cars
  rw [List.length_map]; exact tl
 ·intro r hr
  obtain ⟨x, hx, rfl⟩ := List.mem_map.1 hr
  have := te x hx
  refine ⟨by show ((x ++ [0]).length : Int) = wrap64 (i.sl + 1); rw [e, List.length_append, List.length_singleton]; omega, fun y hy => ?_⟩
  rcases List.mem_append.1 hy with h | h
  ·exact this.2 y h
  ·rw [List.mem_singleton.1 h]; omega
theorem gr_any (hD : D = 1 ∨ D = 2 ∨ D = 3) : (i.gr.t.any fun x => hasv x D) = (i.t.any fun x => hasv x D) := by
 show ((i.t.map (· ++ [0])).any fun x => hasv x D) = _
 rw [List.any_map]
 congr 1
 funext x
 show hasv (x ++ [0]) D = hasv x D
 unfold hasv
 rw [List.contains_eq_any_beq, List.contains_eq_any_beq, List.any_append]
 have : ([0] : List Int).any (fun y => D == y) = false := by
  obtain rfl | rfl | rfl := hD <;> rfl
 rw [this, Bool.or_false]
theorem times_ex (S : i.Sm kk ss) (hk : kk ≤ 32) (hs : ss ≤ 24) : ∃ mv dv q sn, 1 ≤ sn ∧ sn ≤ 10000000 ∧ ∀ (j : Cont) (ka sb : Int), j.Sm ka sb → ka ≤ 32 → sb ≤ 24 → j.g = i.g → j.sp = i.sp → j.br = i.br → j.w = i.w → j.dw = i.dw → j.re = i.re → j.tr = i.tr →
  config_Times.f j.f j.g j.cars j.sp j.br j.tol j.w j.dw j.re j.em j.fu j.tr j.sl j.t j.m0 j.h0 j.k0 j.m1 j.h1 j.k1 j.m2 j.h2 j.k2 j.ks j.li = some (mv, dv, q, sn, wrap64 (j.sl * sn), 0) := by
 obtain ⟨mv, dv, q, sn, h1, h2, h3⟩ := times_val i.sp i.br i.w i.dw i.re i.tr i.f i.g (Small.gl S) ⟨Small.f0 S, Small.f1 S⟩ (Small.ge S) ⟨Small.sp0 S, Small.sp1 S⟩ ⟨Small.br0 S, Small.br1 S⟩ ⟨Small.w0 S, Small.w1 S⟩ ⟨Small.dw0 S, Small.dw1 S⟩ ⟨Small.re0 S, Small.re1 S⟩ ⟨Small.tr0 S, Small.tr1 S⟩
 refine ⟨mv, dv, q, sn, h1, h2, ?_⟩
 intro j ka sb T hka hsb e1 e2 e3 e4 e5 e6 e7
 have hz := Small.check T hka hsb
 have hl := Sm.len T
 rw [e1, e2, e3, e4, e5, e6, e7] at hz ⊢
 exact h3 _ _ _ _ _ _ _ _ _ _ _ _ _ _ _ _ _ _ hz hl.2.1 hl.2.2 (Small.ma T).1 (Small.ma T).2 (Small.mb T).1 (Small.mb T).2 (Small.mc T).1 (Small.mc T).2
theorem tick_f (T : j.Sm kk ss) (hk : kk ≤ 32) (hs : ss ≤ 24) (hD : D = 1 ∨ D = 2 ∨ D = 3) (mv dv q sn : Int) (sn0 : 1 ≤ sn) (sn1 : sn ≤ 10000000)
  (hT : config_Times.f j.f j.g j.cars j.sp j.br j.tol j.w j.dw j.re j.em j.fu j.tr j.sl j.t j.m0 j.h0 j.k0 j.m1 j.h1 j.k1 j.m2 j.h2 j.k2 j.ks j.li = some (mv, dv, q, sn, wrap64 (j.sl * sn), 0)) :
  bound_Ticks.f j.f j.g j.cars j.sp j.br j.tol j.w j.dw j.re j.em j.fu j.tr j.sl j.t j.m0 j.h0 j.k0 j.m1 j.h1 j.k1 j.m2 j.h2 j.k2 j.ks j.li D = (if (j.t.any fun x => hasv x D) = true then some (((j.kd D + (j.tr + 1) / 2 - 1) / ((j.tr + 1) / 2) + 4) * (j.sl * sn), 0) else some (0, 6)) := by
 have hl := Sm.len T
 have hkd := Sm.kd T hD hk
 exact small_ticks (Small.check T hk hs) hl.1 hl.2.1 hl.2.2 (Small.ma T) (Small.mb T) (Small.mc T) (Small.tr0 T) (Small.tr1 T) (Small.sl0 T) (by have := Small.sl1 T; omega) D hD mv dv q sn sn0 sn1 hT hkd.1 hkd.2
theorem At.below {c : Cfg} {W W' : World} (h : i.At c W) (hb : Below W.heap.size W W') : i.At c W' := by
 obtain ⟨B1, q1, B2, q2, B3, q3, hc, D1, r1, D2, r2, D3, r3⟩ := h
 exact ⟨B1, q1, B2, q2, B3, q3, hc, Kd.C_below D1 hb, r1, Kd.C_below D2 hb, r2, Kd.C_below D3 hb, r3⟩
theorem At.ticks {c : Cfg} {W : World} (h : j.At c W) {x y : Int} (hf : bound_Ticks.f j.f j.g j.cars j.sp j.br j.tol j.w j.dw j.re j.em j.fu j.tr j.sl j.t j.m0 j.h0 j.k0 j.m1 j.h1 j.k1 j.m2 j.h2 j.k2 j.ks j.li D = some (x, y)) : Calls Try.prog 10 #[.agg c.cells, .int .i64 D] W fun e w' => e = .returned (.tuple #[.int .i64 x, .int .i64 y]) ∧ Below W.heap.size W w' := by
 obtain ⟨B1, q1, B2, q2, B3, q3, rfl, D1, r1, D2, r2, D3, r3⟩ := h
 exact bound_Ticks.calls j.f _ _ j.g j.cars j.sp j.br j.tol j.w j.dw j.re j.em j.fu j.tr j.sl _ _ j.t j.m0 j.h0 j.k0 j.m1 j.h1 j.k1 j.m2 j.h2 j.k2 _ _ j.ks j.li D x y W D1 r1 D2 r2 D3 r3 hf
theorem At.times {c : Cfg} {W : World} (h : j.At c W) {a b d e x y : Int} (hf : config_Times.f j.f j.g j.cars j.sp j.br j.tol j.w j.dw j.re j.em j.fu j.tr j.sl j.t j.m0 j.h0 j.k0 j.m1 j.h1 j.k1 j.m2 j.h2 j.k2 j.ks j.li = some (a, b, d, e, x, y)) : Calls Try.prog 15 #[.agg c.cells] W fun z w' => z = .returned (.tuple #[.agg #[.int .i64 a, .int .i64 b, .int .i64 d, .int .i64 e, .int .i64 x], .int .i64 y]) ∧ Below W.heap.size W w' := by
 obtain ⟨B1, q1, B2, q2, B3, q3, rfl, D1, r1, D2, r2, D3, r3⟩ := h
 exact config_Times.calls j.f _ _ j.g j.cars j.sp j.br j.tol j.w j.dw j.re j.em j.fu j.tr j.sl _ _ j.t j.m0 j.h0 j.k0 j.m1 j.h1 j.k1 j.m2 j.h2 j.k2 _ _ j.ks j.li a b d e x y W D1 r1 D2 r2 D3 r3 hf
/-- A configuration of this content, its lists in the blocks 'ok'. -/
def FX (i : Cont) (c : Cfg) (ok : Nat → Prop) (W : World) : Prop := ∃ B1 q1 B2 q2 B3 q3, c = (⟨i.f, .slice B1 i.g.length q1, i.cars, i.sp, i.br, i.tol, i.w, i.dw, i.re, i.em, i.fu, i.tr, i.sl, .slice B2 i.t.length q2, .int .u64 i.m0, i.h0, i.k0, .int .u64 i.m1, i.h1, i.k1, .int .u64 i.m2, i.h2, i.k2, .slice B3 i.ks.length q3, i.li⟩ : Cfg) ∧ Kd.F (Kd.int .i64) W ok B1 i.g.length i.g ∧ i.g.length ≤ q1 ∧ Kd.F (Kd.slice 3 (Kd.int .i64)) W ok B2 i.t.length i.t ∧ i.t.length ≤ q2 ∧ Kd.F (Kd.int .i64) W ok B3 i.ks.length i.ks ∧ i.ks.length ≤ q3
/-- The same, but for the slots. -/
def GX (i : Cont) (c : Cfg) (ok : Nat → Prop) (W : World) : Prop := ∃ B1 q1 v B3 q3, c = (⟨i.f, .slice B1 i.g.length q1, i.cars, i.sp, i.br, i.tol, i.w, i.dw, i.re, i.em, i.fu, i.tr, i.sl, v, .int .u64 i.m0, i.h0, i.k0, .int .u64 i.m1, i.h1, i.k1, .int .u64 i.m2, i.h2, i.k2, .slice B3 i.ks.length q3, i.li⟩ : Cfg) ∧ Kd.F (Kd.int .i64) W ok B1 i.g.length i.g ∧ i.g.length ≤ q1 ∧ Kd.F (Kd.int .i64) W ok B3 i.ks.length i.ks ∧ i.ks.length ≤ q3
theorem own_f (S : i.Sm kk ss) (hs : ss ≤ 24) : kit_OwnConfig.f (i.t.length + 1) i.f i.g i.cars i.sp i.br i.tol i.w i.dw i.re i.em i.fu i.tr i.sl i.t i.m0 i.h0 i.k0 i.m1 i.h1 i.k1 i.m2 i.h2 i.k2 i.ks i.li = some (i.f, i.g, i.cars, i.sp, i.br, i.tol, i.w, i.dw, i.re, i.em, i.fu, i.tr, i.sl, i.t, i.m0, i.h0, i.k0, i.m1, i.h1, i.k1, i.m2, i.h2, i.k2, i.ks, i.li) := by
 have hl := Sm.len S
 have h4 := Small.te S
 refine ownc_f i.f i.g i.cars i.sp i.br i.tol i.w i.dw i.re i.em i.fu i.tr i.sl i.t i.m0 i.h0 i.k0 i.m1 i.h1 i.k1 i.m2 i.h2 i.k2 i.ks i.li hl.1 hl.2.1 hl.2.2 (fun n hn => ?_) _ (Nat.le_refl _)
 have := (h4 _ (rdL_mem i.t n hn)).1
 have := Small.sl1 S
 omega
theorem At.own {c : Cfg} {W : World} (S : i.Sm kk ss) (hs : ss ≤ 24) (h : i.At c W) : Calls Try.prog 7 #[.agg c.cells] W fun e w' => ∃ x1 x13 x23 : Value, e = .returned (.agg (⟨i.f, x1, i.cars, i.sp, i.br, i.tol, i.w, i.dw, i.re, i.em, i.fu, i.tr, i.sl, x13, .int .u64 i.m0, i.h0, i.k0, .int .u64 i.m1, i.h1, i.k1, .int .u64 i.m2, i.h2, i.k2, x23, i.li⟩ : Cfg).cells) ∧ Kd.R (Kd.int .i64) 3 w' W.heap.size (fun k_ => some k_ ≠ x23.ownBlock) x1 i.g ∧ Kd.S (Kd.slice 3 (Kd.int .i64)) 22 w' W.heap.size (fun k_ => some k_ ≠ x1.ownBlock ∧ some k_ ≠ x23.ownBlock) x13 i.t ∧ Kd.R (Kd.int .i64) 3 w' W.heap.size (fun k_ => some k_ ≠ x1.ownBlock) x23 i.ks ∧ Below W.heap.size W w' := by
 obtain ⟨B1, q1, B2, q2, B3, q3, rfl, D1, r1, D2, r2, D3, r3⟩ := h
 refine (kit_OwnConfig.calls (i.t.length + 1) i.f _ _ i.g i.cars i.sp i.br i.tol i.w i.dw i.re i.em i.fu i.tr i.sl _ _ i.t i.m0 i.h0 i.k0 i.m1 i.h1 i.k1 i.m2 i.h2 i.k2 _ _ i.ks i.li i.f i.g i.cars i.sp i.br i.tol i.w i.dw i.re i.em i.fu i.tr i.sl i.t i.m0 i.h0 i.k0 i.m1 i.h1 i.k1 i.m2 i.h2 i.k2 i.ks i.li W D1 r1 D2 r2 D3 r3 (own_f S hs)).mono ?_
 rintro e w' ⟨x1, x13, x23, rfl, z1, z13, z23, hb⟩
 exact ⟨x1, x13, x23, rfl, z1, z13, z23, hb⟩
theorem At.ownF {c : Cfg} {W : World} (S : i.Sm kk ss) (hs : ss ≤ 24) (h : i.At c W) : Calls Try.prog 7 #[.agg c.cells] W fun e w' => ∃ x : Cfg, e = .returned (.agg x.cells) ∧ x.cells.toList.all (·.oneCell') = true ∧ i.FX x (fun k => W.heap.size ≤ k ∧ k < w'.heap.size) w' ∧ Below W.heap.size W w' := by
 refine (At.own S hs h).mono ?_
 rintro e w' ⟨x1, x13, x23, rfl, z1, z13, z23, hb⟩
 obtain ⟨B1, q1, rfl⟩ := Kd.R_slice z1
 obtain ⟨B2, q2, rfl, r2, -⟩ := Kd.S_reads z13
 obtain ⟨B3, q3, rfl⟩ := Kd.R_slice z23
 refine ⟨_, rfl, rfl, ⟨B1, q1, B2, q2, B3, q3, rfl, Kd.F_mono (Kd.R_F (Kd.R_bound z1)) (fun k hk => ⟨hk.2.1, hk.2.2.1⟩), (Kd.R_reads' z1).2.1, Kd.F_mono (Kd.S_F (Kd.S_bound z13)) (fun k hk => ⟨hk.2.1, hk.2.2.1⟩), r2, Kd.F_mono (Kd.R_F (Kd.R_bound z23)) (fun k hk => ⟨hk.2.1, hk.2.2.1⟩), (Kd.R_reads' z23).2.1⟩, hb⟩
theorem At.ownG {c : Cfg} {W : World} (S : i.Sm kk ss) (hs : ss ≤ 24) (h : i.At c W) : Calls Try.prog 7 #[.agg c.cells] W fun e w' => ∃ y : Cfg, e = .returned (.agg y.cells) ∧ y.cells.toList.all (·.oneCell') = true ∧ (∃ okg ok0 : Nat → Prop, i.GX y okg w' ∧ Kd.S (Kd.slice 3 (Kd.int .i64)) 22 w' W.heap.size ok0 y.rota i.t ∧ (∀ k, ok0 k → W.heap.size ≤ k ∧ k < w'.heap.size ∧ ¬ okg k) ∧ (∀ k, okg k → W.heap.size ≤ k ∧ k < w'.heap.size)) ∧ Below W.heap.size W w' := by
 refine (At.own S hs h).mono ?_
 rintro e w' ⟨x1, x13, x23, rfl, z1, z13, z23, hb⟩
 obtain ⟨B1, q1, e1⟩ := Kd.R_slice z1
 obtain ⟨B2, q2, e2, r2, -⟩ := Kd.S_reads z13
 obtain ⟨B3, q3, e3⟩ := Kd.R_slice z23
 have t1 := Kd.R_bound (Kd.R_tight rfl z1)
 have t3 := Kd.R_bound (Kd.R_tight rfl z23)
 refine ⟨_, rfl, by rw [e1, e2, e3]; rfl, ⟨fun k => (some k = x1.ownBlock ∨ some k = x23.ownBlock) ∧ W.heap.size ≤ k ∧ k < w'.heap.size, fun k => (some k ≠ x1.ownBlock ∧ some k ≠ x23.ownBlock) ∧ W.heap.size ≤ k ∧ k < w'.heap.size, ⟨B1, q1, x13, B3, q3, by rw [← e1, ← e3], ?_, ?_, ?_, ?_⟩, Kd.S_mono (Kd.S_bound z13) (fun k hk => ⟨hk.1, hk.2.1, hk.2.2.1⟩), fun k hk => ⟨hk.2.1, hk.2.2, fun q => q.1.elim hk.1.1 hk.1.2⟩, fun k hk => hk.2⟩, hb⟩
 ·rw [e1] at t1
  exact Kd.F_mono (Kd.R_F t1) (fun k hk => ⟨.inl (by rw [e1]; exact hk.1), hk.2.1, hk.2.2.1⟩)
 ·rw [e1] at z1; exact (Kd.R_reads' z1).2.1
 ·rw [e3] at t3
  exact Kd.F_mono (Kd.R_F t3) (fun k hk => ⟨.inr (by rw [e3]; exact hk.1), hk.2.1, hk.2.2.1⟩)
 ·rw [e3] at z23; exact (Kd.R_reads' z23).2.1
theorem FX.up {x : Cfg} {ok : Nat → Prop} {W : World} (hD : D = 1 ∨ D = 2 ∨ D = 3) (h : i.FX x ok W) : (i.up D).At (bump D x) W := by
 obtain ⟨B1, q1, B2, q2, B3, q3, rfl, D1, r1, D2, r2, D3, r3⟩ := h
 obtain rfl | rfl | rfl := hD
 ·exact ⟨B1, q1, B2, q2, B3, q3, rfl, Kd.F_now D1, r1, Kd.F_now D2, r2, Kd.F_now D3, r3⟩
 ·exact ⟨B1, q1, B2, q2, B3, q3, rfl, Kd.F_now D1, r1, Kd.F_now D2, r2, Kd.F_now D3, r3⟩
 ·exact ⟨B1, q1, B2, q2, B3, q3, rfl, Kd.F_now D1, r1, Kd.F_now D2, r2, Kd.F_now D3, r3⟩
theorem GX.gr {y : Cfg} {okg ok : Nat → Prop} {W : World} {base : Nat} (h : i.GX y okg W) (hs : Kd.S (Kd.slice 3 (Kd.int .i64)) 22 W base ok y.rota (i.t.map (· ++ [0]))) : i.gr.At (grow y) W := by
 obtain ⟨B1, q1, v, B3, q3, rfl, D1, r1, D3, r3⟩ := h
 obtain ⟨B2, q2, e2, r2, D2⟩ := Kd.S_reads hs
 simp only at e2
 subst e2
 exact ⟨B1, q1, B2, q2, B3, q3, rfl, Kd.F_now D1, r1, D2, r2, Kd.F_now D3, r3⟩
/-- Each small configuration either misses the domain, or the law's numbers are as it asks. -/
theorem grows (D : Int) (hD : D = 1 ∨ D = 2 ∨ D = 3) (i : Cont) :
  (∃ a, ∀ c W, (i.Sm 5 4 ∧ i.At c W) → Calls Try.prog 10 #[.agg c.cells, .int .i64 D] W fun e w' => e = .returned (.tuple #[.int .i64 a, .int .i64 6]) ∧ Below W.heap.size W w') ∨ (∃ a b mm mv dv q sn cy t F G, GOk D (fun c W => i.Sm 5 4 ∧ i.At c W) a b mm mv dv q sn cy t F G) := by
 by_cases hS : i.Sm 5 4
 case neg => exact .inl ⟨0, fun c W h => absurd h.1 hS⟩
 obtain ⟨mv, dv, q, sn, s0, s1, hT⟩ := times_ex hS (by omega) (by omega)
 have hT0 := hT i 5 4 hS (by omega) (by omega) rfl rfl rfl rfl rfl rfl rfl
 have f0 := tick_f hS (by omega) (by omega) hD mv dv q sn s0 s1 hT0
 by_cases ha : (i.t.any fun x => hasv x D) = true
 case neg =>
  rw [if_neg ha] at f0
  exact .inl ⟨0, fun c W h => At.ticks h.2 f0⟩
 rw [if_pos ha] at f0
 have hup := up_Sm (D := D) hS hD
 have hgr := gr_Sm hS
 have e1 : (i.up D).g = i.g ∧ (i.up D).sp = i.sp ∧ (i.up D).br = i.br ∧ (i.up D).w = i.w ∧ (i.up D).dw = i.dw ∧ (i.up D).re = i.re ∧ (i.up D).tr = i.tr ∧ (i.up D).sl = i.sl ∧ (i.up D).t = i.t := by
  obtain rfl | rfl | rfl := hD <;> exact ⟨rfl, rfl, rfl, rfl, rfl, rfl, rfl, rfl, rfl⟩
 have hT1 := hT (i.up D) 6 4 hup.1 (by omega) (by omega) e1.1 e1.2.1 e1.2.2.1 e1.2.2.2.1 e1.2.2.2.2.1 e1.2.2.2.2.2.1 e1.2.2.2.2.2.2.1
 have hT2 := hT i.gr 5 5 hgr.1 (by omega) (by omega) rfl rfl rfl rfl rfl rfl rfl
 have f1 := (tick_f hup.1 (by omega) (by omega) hD mv dv q sn s0 s1 hT1).trans (show _ = some (((i.kd D + 1 + (i.tr + 1) / 2 - 1) / ((i.tr + 1) / 2) + 4) * (i.sl * sn), 0) by
  rw [e1.2.2.2.2.2.2.2.2, if_pos ha, hup.2, e1.2.2.2.2.2.2.2.1, e1.2.2.2.2.2.2.1])
 have f2 := (tick_f hgr.1 (by omega) (by omega) hD mv dv q sn s0 s1 hT2).trans (show _ = some (((i.kd D + (i.tr + 1) / 2 - 1) / ((i.tr + 1) / 2) + 4) * ((i.sl + 1) * sn), 0) by
  rw [gr_any hD, if_pos ha, hgr.2, show i.gr.kd D = i.kd D from rfl, show i.gr.tr = i.tr from rfl])
 have hkd := Sm.kd hS hD (by omega)
 have t0 := Small.tr0 hS
 have t1 := Small.tr1 hS
 have l0 := Small.sl0 hS
 have l1 := Small.sl1 hS
 have hg := grows_ok (i.kd D) ((i.tr + 1) / 2) i.sl sn hkd.1 (by omega) (by omega) l0 s0
 have hm1 : 1 ≤ i.sl * sn := by
  have := Int.mul_le_mul l0 s0 (by omega) (by omega)
  omega
 have hm2 : i.sl * sn ≤ 4 * 10000000 := Int.mul_le_mul l1 s1 (by omega) (by omega)
 have hw : wrap64 (i.sl * sn) = i.sl * sn := by unfold wrap64; omega
 rw [hw] at hT0
 refine .inr ⟨_, _, _, mv, dv, q, sn, i.sl * sn, i.t, i.FX, i.GX, ?_, ?_, ?_, fun c W h => At.ticks h.2 f0, ?_, ?_, fun c W h => At.ownF hS (by omega) h.2, fun c W h => At.ownG hS (by omega) h.2, fun x ok W h => At.ticks (FX.up hD h) f1, fun y okg ok W base h hs => At.ticks (GX.gr h hs) f2, fun c W h => At.times h.2 hT0, hg.1, hg.2.1, by omega, hg.2.2.1, ?_⟩
 ·have := Small.tl hS
  have := Small.c0 hS
  omega
 ·intro r hr
  have := (Small.te hS r hr).1
  omega
 ·have := Sm.len hS
  omega
 ·rintro c ok W W' ⟨B1, q1, B2, q2, B3, q3, hc, D1, r1, D2, r2, D3, r3⟩ hk
  exact ⟨B1, q1, B2, q2, B3, q3, hc, Kd.F_step D1 (fun k h _ => hk k h), r1, Kd.F_step D2 (fun k h _ => hk k h), r2, Kd.F_step D3 (fun k h _ => hk k h), r3⟩
 ·rintro c ok W W' ⟨B1, q1, v, B3, q3, hc, D1, r1, D3, r3⟩ hk
  exact ⟨B1, q1, v, B3, q3, hc, Kd.F_step D1 (fun k h _ => hk k h), r1, Kd.F_step D3 (fun k h _ => hk k h), r3⟩
 ·rw [show wrap64 (5 * (i.sl * sn)) = 5 * (i.sl * sn) by unfold wrap64; omega]
  exact hg.2.2.2
end Cont
theorem mod3_f (d : Int) : ∃ m, kit_Mod.f d 3 = some m ∧ 0 ≤ m ∧ m ≤ 2 := by
 unfold kit_Mod.f
 rw [if_neg (by decide), if_neg (by decide)]
 have h1 : Int.tmod d 3 < 3 := Int.tmod_lt_of_pos d (by decide)
 have h2 : -3 < Int.tmod d 3 := Int.lt_tmod_of_pos d (by decide)
 by_cases h : Int.tmod d 3 < 0
 ·rw [if_pos h]
  exact ⟨_, rfl, by unfold wrap64; omega, by unfold wrap64; omega⟩
 ·rw [if_neg h]
  exact ⟨_, rfl, by omega, by omega⟩
/-- BoundGrows returns true, whatever the numbers. -/
theorem bg_walk (n d : Int) (w : World) : Calls Try.prog 4 #[.int .i64 n, .int .i64 d] w fun e w' => e = .returned (.bool true) ∧ Below w.heap.size w w' := by
 obtain ⟨m, hm, m0, m1⟩ := mod3_f d
 have hw : wrap64 (1 + m) = 1 + m := by unfold wrap64; omega
 have hD : 1 + m = 1 ∨ 1 + m = 2 ∨ 1 + m = 3 := by omega
 refine bg_both n d m (1 + m) w (fun (i : Cont) c W => i.Sm 5 4 ∧ i.At c W) hw hD (config_walk n w) (fun i c W W' h hb => ⟨h.1, h.2.below hb⟩) (fun W => ?_) (fun W => q_awake.calls true W rfl) (fun i => Cont.grows (1 + m) hD i)
 refine (kit_Mod.calls d 3 m W hm).mono ?_
 rintro e w' ⟨rfl, nd, rfl⟩
 exact ⟨rfl, pw_below_drewN (Below.refl _ _) _⟩
end Go.Proofs.Ytmdcjmackhjchaa.P
end
