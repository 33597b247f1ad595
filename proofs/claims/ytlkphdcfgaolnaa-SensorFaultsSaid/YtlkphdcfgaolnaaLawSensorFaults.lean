-- Printed by wip/myprint.py of this repo (over the kit's printer). Not trusted: Lean checks it.
import Derived.Test.YtlkphdcfgaolnaaRows
import Derived.Test.YtlkphdcfgaolnaaLSensorFaults
import Derived.Test.YtlkphdcfgaolnaaPureSensorFaults
import Derived.Deep.Grids
import Derived.ChangeArms
import Derived.Test.YtlkphdcfgaolnaaWWords
import Derived.WalkKit
import Derived.ProofKit
import Derived.OpenShut
import Derived.ShutString
import Derived.ChangeOld
import Derived.Below
import Derived.SizedLaws
import Derived.Test.YtlkphdcfgaolnaaWSized
namespace Go.Proofs.Ytlkphdcfgaolnaa.sensorFaults
open Go.ChangeShapes Go.WideShapes Go.ChangeAt Go.RowKit
open Go.ChangeMaps (open_string shut_string)
set_option linter.unusedVariables false
theorem own : ownKnob Try.prog.godebug = none := by kernel_rfl
theorem laidOut : laidOutB Try.prog = true := by kernel_rfl
def IsRow (k : IntKind) (w : World) (a : Option Addr) (len cap : Nat) (zs : List Int) : Prop :=
  (a = none ∧ len = 0 ∧ cap = 0 ∧ zs = []) ∨
  ∃ x, a = some x ∧ len ≤ cap ∧ cap ≤ maxLen ∧ zs.length = cap ∧ (∀ i, i < zs.length → w.cell? (x.add i) = some (.int k (zs.getD i 0))) ∧ ∀ n ∈ zs, (Lit.int k n).wf = true
theorem openC68 {H : Type} {enc : TypeId × Value → H} {w : World} {base : Nat} {spare : Nat → Bool} {held : Bool} {fuel : Nat} {cs : List Value} {x : DataW H × List MemPlace} (h : DataW.trod enc Try.prog w base spare held fuel 68 cs = some x) :
    ∃ (x0 : Int) (x1 : Int) (x2 : Int) (x3 : ByteArray) (x4 : Int) (x5 : Int) (x6 : Int), cs = [.int .i64 x0, .int .i64 x1, .int .i64 x2, .string x3, .int .i64 x4, .int .i64 x5, .int .i64 x6] ∧ (Lit.int .i64 x0).wf = true ∧ (Lit.int .i64 x1).wf = true ∧ (Lit.int .i64 x2).wf = true ∧ (Lit.int .i64 x4).wf = true ∧ (Lit.int .i64 x5).wf = true ∧ (Lit.int .i64 x6).wf = true := by
  obtain ⟨xs, m, _, _, hl, _, hf⟩ := DataW.trod_struct Try.underlying68 h
  have hn : Try.prog.cellsOf 68 = 7 := by kernel_rfl
  rw [hn] at hl
  obtain ⟨c0, c1, c2, c3, c4, c5, c6, rfl⟩ : ∃ c0 c1 c2 c3 c4 c5 c6 : Value, cs = [c0, c1, c2, c3, c4, c5, c6] := by
    match cs, hl with
    | [c0, c1, c2, c3, c4, c5, c6], _ => exact ⟨c0, c1, c2, c3, c4, c5, c6, rfl⟩
  have e0 : DataW.trod enc Try.prog w base spare held m 3 (([c0, c1, c2, c3, c4, c5, c6].drop 0).take (Try.prog.cellsOf 3)) = xs[0]? := hf 0 _ rfl
  have e1 : DataW.trod enc Try.prog w base spare held m 3 (([c0, c1, c2, c3, c4, c5, c6].drop 1).take (Try.prog.cellsOf 3)) = xs[1]? := hf 1 _ rfl
  have e2 : DataW.trod enc Try.prog w base spare held m 3 (([c0, c1, c2, c3, c4, c5, c6].drop 2).take (Try.prog.cellsOf 3)) = xs[2]? := hf 2 _ rfl
  have e3 : DataW.trod enc Try.prog w base spare held m 9 (([c0, c1, c2, c3, c4, c5, c6].drop 3).take (Try.prog.cellsOf 9)) = xs[3]? := hf 3 _ rfl
  have e4 : DataW.trod enc Try.prog w base spare held m 3 (([c0, c1, c2, c3, c4, c5, c6].drop 4).take (Try.prog.cellsOf 3)) = xs[4]? := hf 4 _ rfl
  have e5 : DataW.trod enc Try.prog w base spare held m 3 (([c0, c1, c2, c3, c4, c5, c6].drop 5).take (Try.prog.cellsOf 3)) = xs[5]? := hf 5 _ rfl
  have e6 : DataW.trod enc Try.prog w base spare held m 3 (([c0, c1, c2, c3, c4, c5, c6].drop 6).take (Try.prog.cellsOf 3)) = xs[6]? := hf 6 _ rfl
  have s0 : Try.prog.cellsOf 3 = 1 := by kernel_rfl
  obtain ⟨y0, e0⟩ : ∃ y, DataW.trod enc Try.prog w base spare held m 3 [c0] = some y := by
    rw [s0] at e0
    cases hq : xs[0]? with
    | none => exact absurd (hq ▸ e0) (by have hh := ‹xs.length = _›; simp at hh; have := List.getElem?_eq_none_iff.1 hq; omega)
    | some y => exact ⟨y, (hq ▸ e0 : _)⟩
  obtain ⟨x0, g0, _, w0⟩ := DataW.trod_int Try.underlying3 e0
  obtain rfl : c0 = .int .i64 x0 := by simpa using g0
  have s1 : Try.prog.cellsOf 3 = 1 := by kernel_rfl
  obtain ⟨y1, e1⟩ : ∃ y, DataW.trod enc Try.prog w base spare held m 3 [c1] = some y := by
    rw [s1] at e1
    cases hq : xs[1]? with
    | none => exact absurd (hq ▸ e1) (by have hh := ‹xs.length = _›; simp at hh; have := List.getElem?_eq_none_iff.1 hq; omega)
    | some y => exact ⟨y, (hq ▸ e1 : _)⟩
  obtain ⟨x1, g1, _, w1⟩ := DataW.trod_int Try.underlying3 e1
  obtain rfl : c1 = .int .i64 x1 := by simpa using g1
  have s2 : Try.prog.cellsOf 3 = 1 := by kernel_rfl
  obtain ⟨y2, e2⟩ : ∃ y, DataW.trod enc Try.prog w base spare held m 3 [c2] = some y := by
    rw [s2] at e2
    cases hq : xs[2]? with
    | none => exact absurd (hq ▸ e2) (by have hh := ‹xs.length = _›; simp at hh; have := List.getElem?_eq_none_iff.1 hq; omega)
    | some y => exact ⟨y, (hq ▸ e2 : _)⟩
  obtain ⟨x2, g2, _, w2⟩ := DataW.trod_int Try.underlying3 e2
  obtain rfl : c2 = .int .i64 x2 := by simpa using g2
  have s3 : Try.prog.cellsOf 9 = 1 := by kernel_rfl
  obtain ⟨y3, e3⟩ : ∃ y, DataW.trod enc Try.prog w base spare held m 9 [c3] = some y := by
    rw [s3] at e3
    cases hq : xs[3]? with
    | none => exact absurd (hq ▸ e3) (by have hh := ‹xs.length = _›; simp at hh; have := List.getElem?_eq_none_iff.1 hq; omega)
    | some y => exact ⟨y, (hq ▸ e3 : _)⟩
  obtain ⟨x3, g3, _, _⟩ := DataW.trod_string Try.underlying9 e3
  obtain rfl : c3 = .string x3 := by simpa using g3
  have s4 : Try.prog.cellsOf 3 = 1 := by kernel_rfl
  obtain ⟨y4, e4⟩ : ∃ y, DataW.trod enc Try.prog w base spare held m 3 [c4] = some y := by
    rw [s4] at e4
    cases hq : xs[4]? with
    | none => exact absurd (hq ▸ e4) (by have hh := ‹xs.length = _›; simp at hh; have := List.getElem?_eq_none_iff.1 hq; omega)
    | some y => exact ⟨y, (hq ▸ e4 : _)⟩
  obtain ⟨x4, g4, _, w4⟩ := DataW.trod_int Try.underlying3 e4
  obtain rfl : c4 = .int .i64 x4 := by simpa using g4
  have s5 : Try.prog.cellsOf 3 = 1 := by kernel_rfl
  obtain ⟨y5, e5⟩ : ∃ y, DataW.trod enc Try.prog w base spare held m 3 [c5] = some y := by
    rw [s5] at e5
    cases hq : xs[5]? with
    | none => exact absurd (hq ▸ e5) (by have hh := ‹xs.length = _›; simp at hh; have := List.getElem?_eq_none_iff.1 hq; omega)
    | some y => exact ⟨y, (hq ▸ e5 : _)⟩
  obtain ⟨x5, g5, _, w5⟩ := DataW.trod_int Try.underlying3 e5
  obtain rfl : c5 = .int .i64 x5 := by simpa using g5
  have s6 : Try.prog.cellsOf 3 = 1 := by kernel_rfl
  obtain ⟨y6, e6⟩ : ∃ y, DataW.trod enc Try.prog w base spare held m 3 [c6] = some y := by
    rw [s6] at e6
    cases hq : xs[6]? with
    | none => exact absurd (hq ▸ e6) (by have hh := ‹xs.length = _›; simp at hh; have := List.getElem?_eq_none_iff.1 hq; omega)
    | some y => exact ⟨y, (hq ▸ e6 : _)⟩
  obtain ⟨x6, g6, _, w6⟩ := DataW.trod_int Try.underlying3 e6
  obtain rfl : c6 = .int .i64 x6 := by simpa using g6
  exact ⟨x0, x1, x2, x3, x4, x5, x6, rfl, w0, w1, w2, w4, w5, w6⟩
theorem openV68 {H : Type} {enc : TypeId × Value → H} {w : World} {base : Nat} {spare : Nat → Bool} {held : Bool} {r : Reach} {b0 : Nat} {v : Value} {d : DataW H} {ps : List MemPlace} (hval : Value.okWide Try.prog w r b0 68 v) (h : DataW.Trod enc Try.prog w base spare held 68 v d ps) :
    ∃ (x0 : Int) (x1 : Int) (x2 : Int) (x3 : ByteArray) (x4 : Int) (x5 : Int) (x6 : Int), v = .agg #[.int .i64 x0, .int .i64 x1, .int .i64 x2, .string x3, .int .i64 x4, .int .i64 x5, .int .i64 x6] ∧ (Lit.int .i64 x0).wf = true ∧ (Lit.int .i64 x1).wf = true ∧ (Lit.int .i64 x2).wf = true ∧ (Lit.int .i64 x4).wf = true ∧ (Lit.int .i64 x5).wf = true ∧ (Lit.int .i64 x6).wf = true := by
  obtain ⟨cs, rfl, hsz⟩ := okWide_struct Try.underlying68 hval
  obtain ⟨fuel, hf⟩ := h
  obtain ⟨x0, x1, x2, x3, x4, x5, x6, g, w0, w1, w2, w4, w5, w6⟩ := openC68 hf
  obtain ⟨l⟩ := cs
  have g2 : l = [.int .i64 x0, .int .i64 x1, .int .i64 x2, .string x3, .int .i64 x4, .int .i64 x5, .int .i64 x6] := by simpa [Value.cells] using g
  subst g2
  exact ⟨x0, x1, x2, x3, x4, x5, x6, rfl, w0, w1, w2, w4, w5, w6⟩
section
variable {H : Type} {enc : TypeId × Value → H} {P : Program} {w : World} {base : Nat} {held : Bool}
theorem rows_open {α : Type} {R : α → List Value → Prop} {sz : Nat} {t e : TypeId} {a : Option Addr} {len cap : Nat} {d : DataW H} {ps : List MemPlace} (ht : P.underlying t = some (.slice e)) (hc : P.cellsOf e = sz)
    (hR : ∀ (cs : List Value) (n : Nat) (x : DataW H × List MemPlace), DataW.trod enc P w base (fun _ => true) held n e cs = some x → ∃ z, cs.length = sz ∧ R z cs)
    (h : DataW.Trod enc P w base (fun _ => true) held t (.slice a len cap) d ps) : ∃ l : List α, len = l.length ∧ Go.Proofs.YtlkphdcfgaolnaaW.PrintWords.ReadsRow R sz w a l.length l ∧ l.length ≤ cap ∧ l.length ≤ maxLen := by
  obtain ⟨fuel, hf⟩ := h
  rcases Go.Deep.open_slice ht hf with ⟨hcs, _⟩ | ⟨x, l, c, m, n, D, Pl, hcs, _, hl, hm, hmm, hx, hi⟩
  · simp [Value.cells] at hcs
    obtain ⟨rfl, rfl, rfl⟩ := hcs
    exact ⟨[], rfl, ⟨rfl, by simp, fun h => by simp at h⟩, by simp, by simp⟩
  · simp [Value.cells] at hcs
    obtain ⟨rfl, rfl, rfl⟩ := hcs
    have hle : len ≤ m := by rw [hmm]; split <;> omega
    have hz : ∀ i : Fin len, ∃ q : α × List Value, q.2.length = sz ∧ R q.1 q.2 ∧ ∀ j u, q.2[j]? = some u → w.cell? (x.add (i.val * sz + j)) = some u := by
      intro i
      obtain ⟨cs', h1, h2⟩ := hi i.val (by have := i.isLt; omega)
      obtain ⟨z, hlen, hz⟩ := hR cs' n _ h2
      obtain ⟨_, hcl, hat⟩ := World.cells?_some h1
      refine ⟨(z, cs'), hlen, hz, fun j u hj => ?_⟩
      have hjl : j < P.cellsOf e := by rw [hc, ← hlen]; exact (List.getElem?_eq_some_iff.1 hj).1
      have h3 := hat j hjl
      rw [hc] at h3
      rw [← Go.Deep.add_add, h3]
      exact hj
    obtain ⟨f, hf2⟩ := Classical.axiomOfChoice hz
    have hm2 : (9223372036854775807 : Nat) = maxLen := rfl
    refine ⟨List.ofFn (fun i => (f i).1), by simp, ⟨rfl, by simp; omega, fun _ => ⟨x, rfl, fun j p hj => ?_⟩⟩, by simpa using hl, by simp; omega⟩
    have hjl : j < len := by simpa using (List.getElem?_eq_some_iff.1 hj).1
    rw [List.getElem?_ofFn, dif_pos hjl] at hj
    obtain rfl := Option.some.inj hj
    obtain ⟨g1, g2, g3⟩ := hf2 ⟨j, hjl⟩
    exact ⟨(f ⟨j, hjl⟩).2, g1, g2, g3⟩
theorem rows_sized (B : Nat) {t e : TypeId} {a : Option Addr} {len cap : Nat} {d : DataW H} {ps : List MemPlace} {ts : List TypeId} {ds : List (DataW H)} {j : Nat}
    (hsz : (DataW.weightsEach P ts ds).all (· ≤ reachBytes) = true) (ht : ts[j]? = some t) (hd : ds[j]? = some d) (hu : P.underlying t = some (.slice e)) (hB : P.bytesOf e = B)
    (h : DataW.Trod enc P w base (fun _ => true) held t (.slice a len cap) d ps) : len * B ≤ 140737488351232 := by
  obtain ⟨fuel, hf⟩ := h
  rcases Go.Deep.open_slice hu hf with ⟨hcs, _⟩ | ⟨x, l, c, m, n, D, Pl, hcs, _, hl, hm, hmm, hx, _⟩
  · simp [Value.cells] at hcs
    obtain ⟨rfl, rfl, rfl⟩ := hcs
    simp
  · simp [Value.cells] at hcs
    obtain ⟨rfl, rfl, rfl⟩ := hcs
    obtain ⟨hx, _⟩ := Prod.mk.inj hx
    subst hx
    have z := sized_slice hsz ht hd hu
    rw [hB] at z
    have : reachBytes = 140737488351232 := rfl
    exact Nat.le_trans (Nat.mul_le_mul_right _ (by simp)) z
end
set_option maxRecDepth 100000 in
theorem lifted (os : Os) (started : os.Started) (H : Type) (enc : TypeId × Value → H) :
    ReturnsInHanded {} Try.checked os 5 .any (Rows.sensorFaultsSpec.pre6 enc Try.prog Try.f5 Rows.sensorFaultsRow.domain false) (Rows.sensorFaultsSpec.post enc Try.prog Try.f5 false true false false) := by
  refine returnsInHanded_of_change_sized (C := Try.checked) own started (by kernel_rfl) Try.func5
    (ChangeSpec.witness6 (enc := enc) (C := Try.checked) false ⟨#[], #[.slice none 0 0, .int .i64 0], []⟩ 8 (by kernel_rfl) (by kernel_rfl) (by kernel_rfl) (by kernel_rfl)) ?_
  intro W base args ds gs before hval0 hW hcnd hsz0 _
  have hsz : (DataW.weightsEach Try.prog (Try.f5.params.toList ++ Rows.sensorFaultsSpec.plain.varTypes Try.prog) (ds ++ gs)).all (· ≤ reachBytes) = true := hsz0
  have hval : ∀ (j : Nat) t v, Try.f5.params[j]? = some t → args[j]? = some v → Value.okWide Try.prog W .any base t v := hval0
  have hW' := hW
  obtain ⟨p, q, hA0, hV, rfl, hfz, hnd⟩ := hW
  have hA : DataW.TrodAll enc Try.prog W 0 (fun _ => true) true Try.f5.params.toList args.toList ds p := hA0
  rw [Try.params5] at hA hval hsz
  obtain ⟨v0, vs0, d0, ds0, p0, q0, hargs, rfl, rfl, h0, r0⟩ := trodAll_cons hA
  obtain ⟨v1, vs1, d1, ds1, p1, q1, rfl, rfl, rfl, h1, r1⟩ := trodAll_cons r0
  obtain ⟨rfl, rfl, rfl⟩ := trodAll_nil r1
  obtain rfl : args = #[v0, v1] := by cases args; simp_all
  obtain ⟨rfl, rfl⟩ := trodVars_none hV
  obtain ⟨a0, len0, cap0, rfl⟩ := okWide_slice Try.underlying37 (hval 0 37 v0 rfl rfl)
  have k0 := h0
  have lt0 : ∀ x ∈ p0, x.block < W.heap.size := by obtain ⟨m, hm⟩ := k0; exact DataW.trod_lt m _ _ _ hm
  obtain ⟨l0, rfl, r0_, c0_, m0_⟩ := rows_open (R := P.k68.K W) (sz := 7) Try.underlying37 (by kernel_rfl) (fun cs n x hx => by obtain ⟨x0, x1, x2, x3, x4, x5, x6, rfl, _, _, _, _, _, _⟩ := openC68 hx; exact ⟨⟨x0, x1, x2, x3, x4, x5, x6⟩, rfl, P.k68_mk W ⟨x0, x1, x2, x3, x4, x5, x6⟩⟩) h0
  have y0 : l0.length * 64 ≤ 140737488351232 := rows_sized 64 hsz (j := 0) (t := 37) rfl rfl Try.underlying37 (by kernel_rfl) h0
  obtain ⟨a1, rfl, rfl, rfl, w1⟩ := open_int Try.underlying3 (hval 1 3 v1 rfl rfl) h1
  clear hA0 hval0 hsz0 hsz
  refine (P.q_SensorFaults.walk Pure.SensorFaults _ _ l0 a1 W r0_ c0_ m0_ y0 w1).mono fun e W' ⟨he, bel⟩ => ?_
  subst he
  exact ⟨_, rfl, _, _, _, [], _, [], hW', trodAll_mk1 (shut_bool Try.underlying4 _), (trodAll_cons_mk (Below.trod laidOut (by kernel_rfl) (of_decide_eq_true (by kernel_rfl)) k0 bel lt0) (trodAll_cons_mk (shut_int Try.underlying3 w1) trodAll_mk0)), rfl, bel.frame _, fun h => by cases h⟩
theorem over : Rows.sensorFaultsRow.holds Try.pinned (OpenSpec.ofChange Rows.sensorFaultsSpec) :=
  OpenClaim.holds_of_wide 5 Try.f5 rfl rfl rfl rfl rfl rfl rfl ⟨rfl, rfl, rfl, rfl, rfl⟩ rfl rfl rfl rfl rfl (by kernel_rfl) Try.func5 (by kernel_rfl)
    (of_decide_eq_true (by kernel_rfl)) (by unfold Func.isWrapper; first | (rw [if_pos (by decide +kernel)]; kernel_rfl) | (rw [if_neg (by decide +kernel)]; exact ⟨rfl, rfl⟩))
    (fun os started H enc _ => lifted os started H enc)
theorem proved : Rows.SensorFaultsSaid := over
#print axioms proved
end Go.Proofs.Ytlkphdcfgaolnaa.sensorFaults
namespace Go.Proofs.Ytlkphdcfgaolnaa
/-- The row, under a short name, for the claim. -/
theorem sensorFaults_holds : Rows.SensorFaultsSaid := sensorFaults.proved
end Go.Proofs.Ytlkphdcfgaolnaa
