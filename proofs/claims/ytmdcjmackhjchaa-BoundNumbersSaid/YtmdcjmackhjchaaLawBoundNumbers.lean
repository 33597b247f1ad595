import Derived.Test.YtmdcjmackhjchaaRows
import Derived.Test.YtmdcjmackhjchaaZaw
import Derived.Deep.Grids
import Derived.ChangeArms
import Derived.Test.YtmdcjmackhjchaaZaa
import Derived.WalkKit
import Derived.ProofKit
import Derived.OpenShut
import Derived.ShutString
import Derived.ChangeOld
import Derived.Below
import Derived.SizedLaws
section
/- tipstafflaw41.BoundNumbers: the given statement, out of the walk for every configuration. -/
namespace Go.Proofs.Ytmdcjmackhjchaa.boundNumbers
open Go.ChangeShapes Go.WideShapes Go.ChangeAt Go.RowKit
open Go.ChangeMaps (open_string shut_string)
set_option linter.unusedVariables false
set_option linter.unusedSimpArgs false
theorem own : ownKnob Try.prog.godebug = none := by kernel_rfl
theorem laidOut : laidOutB Try.prog = true := by kernel_rfl
section
variable {H : Type} {enc : TypeId × Value → H} {P : Program} {w : World} {base : Nat} {held : Bool}
theorem rows_open {α : Type} {R : α → List Value → Prop} {sz : Nat} {t e : TypeId} {a : Option Addr} {len cap : Nat} {d : DataW H} {ps : List MemPlace} (ht : P.underlying t = some (.slice e)) (hc : P.cellsOf e = sz)
    (hR : ∀ (cs : List Value) (n : Nat) (x : DataW H × List MemPlace), DataW.trod enc P w base (fun _ => true) held n e cs = some x → ∃ z, cs.length = sz ∧ R z cs)
    (h : DataW.Trod enc P w base (fun _ => true) held t (.slice a len cap) d ps) : ∃ l : List α, len = l.length ∧ Go.Proofs.YtmdcjmackhjchaaW.PrintWords.ReadsRow R sz w a l.length l ∧ l.length ≤ cap ∧ l.length ≤ maxLen := by
  obtain ⟨fuel, hf⟩ := h
  rcases Go.Deep.open_slice ht hf with ⟨hcs, _⟩ | ⟨x, l, c, m, n, D, Pl, hcs, _, hl, hm, hmm, hx, hi⟩
  · simp [Value.cells] at hcs
    obtain ⟨rfl, rfl, rfl⟩ := hcs
    exact ⟨[], rfl, ⟨rfl, by simp, fun h => by simp at h⟩, by simp, by simp⟩
  · simp [Value.cells] at hcs
    obtain ⟨rfl, rfl, rfl⟩ := hcs
    have hle : len ≤ m := by rw [hmm]; split <;> omega
    have hz : ∀ i : Fin len, ∃ q : α × List Value, q.2.length = sz ∧ R q.1 q.2 ∧ ∀ j u, q.2[j]? = some u → w.cell? (x.add (i.val * sz + j)) = some u := by
      intro i
      obtain ⟨cs', h1, h2⟩ := hi i.val (by have := i.isLt; omega)
      obtain ⟨z, hlen, hz⟩ := hR cs' n _ h2
      obtain ⟨_, hcl, hat⟩ := World.cells?_some h1
      refine ⟨(z, cs'), hlen, hz, fun j u hj => ?_⟩
      have hjl : j < P.cellsOf e := by rw [hc, ← hlen]; exact (List.getElem?_eq_some_iff.1 hj).1
      have h3 := hat j hjl
      rw [hc] at h3
      rw [← Go.Deep.add_add, h3]
      exact hj
    obtain ⟨f, hf2⟩ := Classical.axiomOfChoice hz
    have hm2 : (9223372036854775807 : Nat) = maxLen := rfl
    refine ⟨List.ofFn (fun i => (f i).1), by simp, ⟨rfl, by simp; omega, fun _ => ⟨x, rfl, fun j p hj => ?_⟩⟩, by simpa using hl, by simp; omega⟩
    have hjl : j < len := by simpa using (List.getElem?_eq_some_iff.1 hj).1
    rw [List.getElem?_ofFn, dif_pos hjl] at hj
    obtain rfl := Option.some.inj hj
    obtain ⟨g1, g2, g3⟩ := hf2 ⟨j, hjl⟩
    exact ⟨(f ⟨j, hjl⟩).2, g1, g2, g3⟩
theorem trod_array {spare : Nat → Bool} {fuel : Nat} {t e : TypeId} {n : Nat} {cs : List Value} {x : DataW H × List MemPlace} (ht : P.underlying t = some (.array n e)) (h : DataW.trod enc P w base spare held fuel t cs = some x) :
    ∃ (xs : List (DataW H × List MemPlace)) (m : Nat), cs.length = P.cellsOf t ∧ xs.length = n ∧
      ∀ i, i < n → DataW.trod enc P w base spare held m e ((cs.drop (i * P.cellsOf e)).take (P.cellsOf e)) = xs[i]? := by
  cases fuel with
  | zero => simp [DataW.trod] at h
  | succ m =>
    unfold DataW.trod at h
    rw [ht] at h
    split at h <;> simp_all
    obtain ⟨hl, h⟩ := h
    obtain ⟨xs, hp, hd⟩ := h
    exact ⟨xs, by simpa using mapM_some_length hp, m, fun i hi => mapM_some_get hp i i (by simp [hi])⟩
/-- A slice's value, and what it is. -/
theorem slice_cell {t e : TypeId} {fuel : Nat} {c : Value} {x : DataW H × List MemPlace} (ht : P.underlying t = some (.slice e)) (h : DataW.trod enc P w base (fun _ => true) held fuel t [c] = some x) :
    ∃ (A : Option Addr) (len cap : Nat), c = .slice A len cap ∧ DataW.Trod enc P w base (fun _ => true) held t (.slice A len cap) x.1 x.2 := by
  rcases Go.Deep.open_slice ht h with ⟨hc, _⟩ | ⟨a, l, k, m, n, D, Pl, hc, _⟩
  · obtain rfl : c = .slice none 0 0 := by simpa using hc
    exact ⟨none, 0, 0, rfl, fuel, by simpa [Value.cells] using h⟩
  · obtain rfl : c = .slice (some a) l k := by simpa using hc
    exact ⟨some a, l, k, rfl, fuel, by simpa [Value.cells] using h⟩
end
theorem openC26 {H : Type} {enc : TypeId × Value → H} {w : World} {base : Nat} {held : Bool} {fuel : Nat} {cs : List Value} {x : DataW H × List MemPlace} (h : DataW.trod enc Try.prog w base (fun _ => true) held fuel 26 cs = some x) :
    ∃ (x0 x1 x2 : Int), cs = [.int .u64 x0, .int .i64 x1, .int .i64 x2] ∧ (Lit.int .u64 x0).wf = true ∧ (Lit.int .i64 x1).wf = true ∧ (Lit.int .i64 x2).wf = true := by
  obtain ⟨xs, m, _, _, hl, _, hf⟩ := DataW.trod_struct Try.underlying26 h
  have hn : Try.prog.cellsOf 26 = 3 := by kernel_rfl
  rw [hn] at hl
  obtain ⟨c0, c1, c2, rfl⟩ : ∃ c0 c1 c2 : Value, cs = [c0, c1, c2] := by
    match cs, hl with
    | [c0, c1, c2], _ => exact ⟨c0, c1, c2, rfl⟩
  have e0 : DataW.trod enc Try.prog w base (fun _ => true) held m 24 (([c0, c1, c2].drop 0).take (Try.prog.cellsOf 24)) = xs[0]? := hf 0 _ rfl
  have e1 : DataW.trod enc Try.prog w base (fun _ => true) held m 3 (([c0, c1, c2].drop 1).take (Try.prog.cellsOf 3)) = xs[1]? := hf 1 _ rfl
  have e2 : DataW.trod enc Try.prog w base (fun _ => true) held m 3 (([c0, c1, c2].drop 2).take (Try.prog.cellsOf 3)) = xs[2]? := hf 2 _ rfl
  have s0 : Try.prog.cellsOf 24 = 1 := by kernel_rfl
  obtain ⟨y0, e0⟩ : ∃ y, DataW.trod enc Try.prog w base (fun _ => true) held m 24 [c0] = some y := by
    rw [s0] at e0
    cases hq : xs[0]? with
    | none => exact absurd (hq ▸ e0) (by have hh := ‹xs.length = _›; simp at hh; have := List.getElem?_eq_none_iff.1 hq; omega)
    | some y => exact ⟨y, (hq ▸ e0 : _)⟩
  obtain ⟨x0, g0, _, w0⟩ := DataW.trod_int Try.underlying24 e0
  obtain rfl : c0 = .int .u64 x0 := by simpa using g0
  have s1 : Try.prog.cellsOf 3 = 1 := by kernel_rfl
  obtain ⟨y1, e1⟩ : ∃ y, DataW.trod enc Try.prog w base (fun _ => true) held m 3 [c1] = some y := by
    rw [s1] at e1
    cases hq : xs[1]? with
    | none => exact absurd (hq ▸ e1) (by have hh := ‹xs.length = _›; simp at hh; have := List.getElem?_eq_none_iff.1 hq; omega)
    | some y => exact ⟨y, (hq ▸ e1 : _)⟩
  obtain ⟨x1, g1, _, w1⟩ := DataW.trod_int Try.underlying3 e1
  obtain rfl : c1 = .int .i64 x1 := by simpa using g1
  have s2 : Try.prog.cellsOf 3 = 1 := by kernel_rfl
  obtain ⟨y2, e2⟩ : ∃ y, DataW.trod enc Try.prog w base (fun _ => true) held m 3 [c2] = some y := by
    rw [s2] at e2
    cases hq : xs[2]? with
    | none => exact absurd (hq ▸ e2) (by have hh := ‹xs.length = _›; simp at hh; have := List.getElem?_eq_none_iff.1 hq; omega)
    | some y => exact ⟨y, (hq ▸ e2 : _)⟩
  obtain ⟨x2, g2, _, w2⟩ := DataW.trod_int Try.underlying3 e2
  obtain rfl : c2 = .int .i64 x2 := by simpa using g2
  exact ⟨x0, x1, x2, rfl, w0, w1, w2⟩
theorem openC27 {H : Type} {enc : TypeId × Value → H} {w : World} {base : Nat} {held : Bool} {fuel : Nat} {cs : List Value} {x : DataW H × List MemPlace} (h : DataW.trod enc Try.prog w base (fun _ => true) held fuel 27 cs = some x) :
    ∃ (x0 x1 x2 x3 x4 x5 x6 x7 x8 : Int), cs = [.int .u64 x0, .int .i64 x1, .int .i64 x2, .int .u64 x3, .int .i64 x4, .int .i64 x5, .int .u64 x6, .int .i64 x7, .int .i64 x8] ∧ (Lit.int .u64 x0).wf = true ∧ (Lit.int .i64 x1).wf = true ∧ (Lit.int .i64 x2).wf = true ∧ (Lit.int .u64 x3).wf = true ∧ (Lit.int .i64 x4).wf = true ∧ (Lit.int .i64 x5).wf = true ∧ (Lit.int .u64 x6).wf = true ∧ (Lit.int .i64 x7).wf = true ∧ (Lit.int .i64 x8).wf = true := by
  obtain ⟨xs, m, hl, _, hf⟩ := trod_array Try.underlying27 h
  have hn : Try.prog.cellsOf 27 = 9 := by kernel_rfl
  rw [hn] at hl
  obtain ⟨c0, c1, c2, c3, c4, c5, c6, c7, c8, rfl⟩ : ∃ c0 c1 c2 c3 c4 c5 c6 c7 c8 : Value, cs = [c0, c1, c2, c3, c4, c5, c6, c7, c8] := by
    match cs, hl with
    | [c0, c1, c2, c3, c4, c5, c6, c7, c8], _ => exact ⟨c0, c1, c2, c3, c4, c5, c6, c7, c8, rfl⟩
  have s26 : Try.prog.cellsOf 26 = 3 := by kernel_rfl
  have e0 := hf 0 (by decide)
  rw [s26] at e0
  obtain ⟨y0, e0⟩ : ∃ y, DataW.trod enc Try.prog w base (fun _ => true) held m 26 [c0, c1, c2] = some y := by
    cases hq : xs[0]? with
    | none => exact absurd hq (by have hh := ‹xs.length = _›; intro hq2; have := List.getElem?_eq_none_iff.1 hq2; omega)
    | some y => exact ⟨y, (hq ▸ e0 : _)⟩
  obtain ⟨x0, x1, x2, g0, w0, w1, w2⟩ := openC26 e0
  simp only [List.cons.injEq, and_true] at g0
  obtain ⟨rfl, rfl, rfl⟩ := g0
  have e1 := hf 1 (by decide)
  rw [s26] at e1
  obtain ⟨y1, e1⟩ : ∃ y, DataW.trod enc Try.prog w base (fun _ => true) held m 26 [c3, c4, c5] = some y := by
    cases hq : xs[1]? with
    | none => exact absurd hq (by have hh := ‹xs.length = _›; intro hq2; have := List.getElem?_eq_none_iff.1 hq2; omega)
    | some y => exact ⟨y, (hq ▸ e1 : _)⟩
  obtain ⟨x3, x4, x5, g1, w3, w4, w5⟩ := openC26 e1
  simp only [List.cons.injEq, and_true] at g1
  obtain ⟨rfl, rfl, rfl⟩ := g1
  have e2 := hf 2 (by decide)
  rw [s26] at e2
  obtain ⟨y2, e2⟩ : ∃ y, DataW.trod enc Try.prog w base (fun _ => true) held m 26 [c6, c7, c8] = some y := by
    cases hq : xs[2]? with
    | none => exact absurd hq (by have hh := ‹xs.length = _›; intro hq2; have := List.getElem?_eq_none_iff.1 hq2; omega)
    | some y => exact ⟨y, (hq ▸ e2 : _)⟩
  obtain ⟨x6, x7, x8, g2, w6, w7, w8⟩ := openC26 e2
  simp only [List.cons.injEq, and_true] at g2
  obtain ⟨rfl, rfl, rfl⟩ := g2
  exact ⟨x0, x1, x2, x3, x4, x5, x6, x7, x8, rfl, w0, w1, w2, w3, w4, w5, w6, w7, w8⟩
theorem openC29 {H : Type} {enc : TypeId × Value → H} {w : World} {base : Nat} {held : Bool} {fuel : Nat} {cs : List Value} {x : DataW H × List MemPlace} (h : DataW.trod enc Try.prog w base (fun _ => true) held fuel 29 cs = some x) :
    ∃ (x0 x2 x3 x4 x5 x6 x7 x8 x9 x10 x11 x12 x14 x15 x16 x17 x18 x19 x20 x21 x22 x24 : Int) (A1 A13 A23 : Option Addr) (n1 n13 n23 k1 k13 k23 : Nat) (d1 d13 d23 : DataW H) (ps1 ps13 ps23 : List MemPlace), cs = [.int .i64 x0, .slice A1 n1 k1, .int .i64 x2, .int .i64 x3, .int .i64 x4, .int .i64 x5, .int .i64 x6, .int .i64 x7, .int .i64 x8, .int .i64 x9, .int .i64 x10, .int .i64 x11, .int .i64 x12, .slice A13 n13 k13, .int .u64 x14, .int .i64 x15, .int .i64 x16, .int .u64 x17, .int .i64 x18, .int .i64 x19, .int .u64 x20, .int .i64 x21, .int .i64 x22, .slice A23 n23 k23, .int .i64 x24] ∧ (Lit.int .u64 x14).wf = true ∧ (Lit.int .u64 x17).wf = true ∧ (Lit.int .u64 x20).wf = true ∧ DataW.Trod enc Try.prog w base (fun _ => true) held 22 (.slice A1 n1 k1) d1 ps1 ∧ DataW.Trod enc Try.prog w base (fun _ => true) held 23 (.slice A13 n13 k13) d13 ps13 ∧ DataW.Trod enc Try.prog w base (fun _ => true) held 22 (.slice A23 n23 k23) d23 ps23 := by
  obtain ⟨xs, m, _, _, hl, _, hf⟩ := DataW.trod_struct Try.underlying29 h
  have hn : Try.prog.cellsOf 29 = 25 := by kernel_rfl
  rw [hn] at hl
  obtain ⟨c0, c1, c2, c3, c4, c5, c6, c7, c8, c9, c10, c11, c12, c13, c14, c15, c16, c17, c18, c19, c20, c21, c22, c23, c24, rfl⟩ : ∃ c0 c1 c2 c3 c4 c5 c6 c7 c8 c9 c10 c11 c12 c13 c14 c15 c16 c17 c18 c19 c20 c21 c22 c23 c24 : Value, cs = [c0, c1, c2, c3, c4, c5, c6, c7, c8, c9, c10, c11, c12, c13, c14, c15, c16, c17, c18, c19, c20, c21, c22, c23, c24] := by
    match cs, hl with
    | [c0, c1, c2, c3, c4, c5, c6, c7, c8, c9, c10, c11, c12, c13, c14, c15, c16, c17, c18, c19, c20, c21, c22, c23, c24], _ => exact ⟨c0, c1, c2, c3, c4, c5, c6, c7, c8, c9, c10, c11, c12, c13, c14, c15, c16, c17, c18, c19, c20, c21, c22, c23, c24, rfl⟩
  have e0 : DataW.trod enc Try.prog w base (fun _ => true) held m 3 (([c0, c1, c2, c3, c4, c5, c6, c7, c8, c9, c10, c11, c12, c13, c14, c15, c16, c17, c18, c19, c20, c21, c22, c23, c24].drop 0).take (Try.prog.cellsOf 3)) = xs[0]? := hf 0 _ rfl
  have e1 : DataW.trod enc Try.prog w base (fun _ => true) held m 22 (([c0, c1, c2, c3, c4, c5, c6, c7, c8, c9, c10, c11, c12, c13, c14, c15, c16, c17, c18, c19, c20, c21, c22, c23, c24].drop 1).take (Try.prog.cellsOf 22)) = xs[1]? := hf 1 _ rfl
  have e2 : DataW.trod enc Try.prog w base (fun _ => true) held m 3 (([c0, c1, c2, c3, c4, c5, c6, c7, c8, c9, c10, c11, c12, c13, c14, c15, c16, c17, c18, c19, c20, c21, c22, c23, c24].drop 2).take (Try.prog.cellsOf 3)) = xs[2]? := hf 2 _ rfl
  have e3 : DataW.trod enc Try.prog w base (fun _ => true) held m 3 (([c0, c1, c2, c3, c4, c5, c6, c7, c8, c9, c10, c11, c12, c13, c14, c15, c16, c17, c18, c19, c20, c21, c22, c23, c24].drop 3).take (Try.prog.cellsOf 3)) = xs[3]? := hf 3 _ rfl
  have e4 : DataW.trod enc Try.prog w base (fun _ => true) held m 3 (([c0, c1, c2, c3, c4, c5, c6, c7, c8, c9, c10, c11, c12, c13, c14, c15, c16, c17, c18, c19, c20, c21, c22, c23, c24].drop 4).take (Try.prog.cellsOf 3)) = xs[4]? := hf 4 _ rfl
  have e5 : DataW.trod enc Try.prog w base (fun _ => true) held m 3 (([c0, c1, c2, c3, c4, c5, c6, c7, c8, c9, c10, c11, c12, c13, c14, c15, c16, c17, c18, c19, c20, c21, c22, c23, c24].drop 5).take (Try.prog.cellsOf 3)) = xs[5]? := hf 5 _ rfl
  have e6 : DataW.trod enc Try.prog w base (fun _ => true) held m 3 (([c0, c1, c2, c3, c4, c5, c6, c7, c8, c9, c10, c11, c12, c13, c14, c15, c16, c17, c18, c19, c20, c21, c22, c23, c24].drop 6).take (Try.prog.cellsOf 3)) = xs[6]? := hf 6 _ rfl
  have e7 : DataW.trod enc Try.prog w base (fun _ => true) held m 3 (([c0, c1, c2, c3, c4, c5, c6, c7, c8, c9, c10, c11, c12, c13, c14, c15, c16, c17, c18, c19, c20, c21, c22, c23, c24].drop 7).take (Try.prog.cellsOf 3)) = xs[7]? := hf 7 _ rfl
  have e8 : DataW.trod enc Try.prog w base (fun _ => true) held m 3 (([c0, c1, c2, c3, c4, c5, c6, c7, c8, c9, c10, c11, c12, c13, c14, c15, c16, c17, c18, c19, c20, c21, c22, c23, c24].drop 8).take (Try.prog.cellsOf 3)) = xs[8]? := hf 8 _ rfl
  have e9 : DataW.trod enc Try.prog w base (fun _ => true) held m 3 (([c0, c1, c2, c3, c4, c5, c6, c7, c8, c9, c10, c11, c12, c13, c14, c15, c16, c17, c18, c19, c20, c21, c22, c23, c24].drop 9).take (Try.prog.cellsOf 3)) = xs[9]? := hf 9 _ rfl
  have e10 : DataW.trod enc Try.prog w base (fun _ => true) held m 3 (([c0, c1, c2, c3, c4, c5, c6, c7, c8, c9, c10, c11, c12, c13, c14, c15, c16, c17, c18, c19, c20, c21, c22, c23, c24].drop 10).take (Try.prog.cellsOf 3)) = xs[10]? := hf 10 _ rfl
  have e11 : DataW.trod enc Try.prog w base (fun _ => true) held m 3 (([c0, c1, c2, c3, c4, c5, c6, c7, c8, c9, c10, c11, c12, c13, c14, c15, c16, c17, c18, c19, c20, c21, c22, c23, c24].drop 11).take (Try.prog.cellsOf 3)) = xs[11]? := hf 11 _ rfl
  have e12 : DataW.trod enc Try.prog w base (fun _ => true) held m 3 (([c0, c1, c2, c3, c4, c5, c6, c7, c8, c9, c10, c11, c12, c13, c14, c15, c16, c17, c18, c19, c20, c21, c22, c23, c24].drop 12).take (Try.prog.cellsOf 3)) = xs[12]? := hf 12 _ rfl
  have e13 : DataW.trod enc Try.prog w base (fun _ => true) held m 23 (([c0, c1, c2, c3, c4, c5, c6, c7, c8, c9, c10, c11, c12, c13, c14, c15, c16, c17, c18, c19, c20, c21, c22, c23, c24].drop 13).take (Try.prog.cellsOf 23)) = xs[13]? := hf 13 _ rfl
  have e14 : DataW.trod enc Try.prog w base (fun _ => true) held m 27 (([c0, c1, c2, c3, c4, c5, c6, c7, c8, c9, c10, c11, c12, c13, c14, c15, c16, c17, c18, c19, c20, c21, c22, c23, c24].drop 14).take (Try.prog.cellsOf 27)) = xs[14]? := hf 14 _ rfl
  have e15 : DataW.trod enc Try.prog w base (fun _ => true) held m 22 (([c0, c1, c2, c3, c4, c5, c6, c7, c8, c9, c10, c11, c12, c13, c14, c15, c16, c17, c18, c19, c20, c21, c22, c23, c24].drop 23).take (Try.prog.cellsOf 22)) = xs[15]? := hf 15 _ rfl
  have e16 : DataW.trod enc Try.prog w base (fun _ => true) held m 3 (([c0, c1, c2, c3, c4, c5, c6, c7, c8, c9, c10, c11, c12, c13, c14, c15, c16, c17, c18, c19, c20, c21, c22, c23, c24].drop 24).take (Try.prog.cellsOf 3)) = xs[16]? := hf 16 _ rfl
  have s0 : Try.prog.cellsOf 3 = 1 := by kernel_rfl
  obtain ⟨y0, e0⟩ : ∃ y, DataW.trod enc Try.prog w base (fun _ => true) held m 3 [c0] = some y := by
    rw [s0] at e0
    cases hq : xs[0]? with
    | none => exact absurd (hq ▸ e0) (by have hh := ‹xs.length = _›; simp at hh; have := List.getElem?_eq_none_iff.1 hq; omega)
    | some y => exact ⟨y, (hq ▸ e0 : _)⟩
  obtain ⟨x0, g0, _, w0⟩ := DataW.trod_int Try.underlying3 e0
  obtain rfl : c0 = .int .i64 x0 := by simpa using g0
  have s1 : Try.prog.cellsOf 22 = 1 := by kernel_rfl
  obtain ⟨y1, e1⟩ : ∃ y, DataW.trod enc Try.prog w base (fun _ => true) held m 22 [c1] = some y := by
    rw [s1] at e1
    cases hq : xs[1]? with
    | none => exact absurd (hq ▸ e1) (by have hh := ‹xs.length = _›; simp at hh; have := List.getElem?_eq_none_iff.1 hq; omega)
    | some y => exact ⟨y, (hq ▸ e1 : _)⟩
  obtain ⟨A1, n1, k1, g1, t1⟩ := slice_cell Try.underlying22 e1
  subst g1
  have s2 : Try.prog.cellsOf 3 = 1 := by kernel_rfl
  obtain ⟨y2, e2⟩ : ∃ y, DataW.trod enc Try.prog w base (fun _ => true) held m 3 [c2] = some y := by
    rw [s2] at e2
    cases hq : xs[2]? with
    | none => exact absurd (hq ▸ e2) (by have hh := ‹xs.length = _›; simp at hh; have := List.getElem?_eq_none_iff.1 hq; omega)
    | some y => exact ⟨y, (hq ▸ e2 : _)⟩
  obtain ⟨x2, g2, _, w2⟩ := DataW.trod_int Try.underlying3 e2
  obtain rfl : c2 = .int .i64 x2 := by simpa using g2
  have s3 : Try.prog.cellsOf 3 = 1 := by kernel_rfl
  obtain ⟨y3, e3⟩ : ∃ y, DataW.trod enc Try.prog w base (fun _ => true) held m 3 [c3] = some y := by
    rw [s3] at e3
    cases hq : xs[3]? with
    | none => exact absurd (hq ▸ e3) (by have hh := ‹xs.length = _›; simp at hh; have := List.getElem?_eq_none_iff.1 hq; omega)
    | some y => exact ⟨y, (hq ▸ e3 : _)⟩
  obtain ⟨x3, g3, _, w3⟩ := DataW.trod_int Try.underlying3 e3
  obtain rfl : c3 = .int .i64 x3 := by simpa using g3
  have s4 : Try.prog.cellsOf 3 = 1 := by kernel_rfl
  obtain ⟨y4, e4⟩ : ∃ y, DataW.trod enc Try.prog w base (fun _ => true) held m 3 [c4] = some y := by
    rw [s4] at e4
    cases hq : xs[4]? with
    | none => exact absurd (hq ▸ e4) (by have hh := ‹xs.length = _›; simp at hh; have := List.getElem?_eq_none_iff.1 hq; omega)
    | some y => exact ⟨y, (hq ▸ e4 : _)⟩
  obtain ⟨x4, g4, _, w4⟩ := DataW.trod_int Try.underlying3 e4
  obtain rfl : c4 = .int .i64 x4 := by simpa using g4
  have s5 : Try.prog.cellsOf 3 = 1 := by kernel_rfl
  obtain ⟨y5, e5⟩ : ∃ y, DataW.trod enc Try.prog w base (fun _ => true) held m 3 [c5] = some y := by
    rw [s5] at e5
    cases hq : xs[5]? with
    | none => exact absurd (hq ▸ e5) (by have hh := ‹xs.length = _›; simp at hh; have := List.getElem?_eq_none_iff.1 hq; omega)
    | some y => exact ⟨y, (hq ▸ e5 : _)⟩
  obtain ⟨x5, g5, _, w5⟩ := DataW.trod_int Try.underlying3 e5
  obtain rfl : c5 = .int .i64 x5 := by simpa using g5
  have s6 : Try.prog.cellsOf 3 = 1 := by kernel_rfl
  obtain ⟨y6, e6⟩ : ∃ y, DataW.trod enc Try.prog w base (fun _ => true) held m 3 [c6] = some y := by
    rw [s6] at e6
    cases hq : xs[6]? with
    | none => exact absurd (hq ▸ e6) (by have hh := ‹xs.length = _›; simp at hh; have := List.getElem?_eq_none_iff.1 hq; omega)
    | some y => exact ⟨y, (hq ▸ e6 : _)⟩
  obtain ⟨x6, g6, _, w6⟩ := DataW.trod_int Try.underlying3 e6
  obtain rfl : c6 = .int .i64 x6 := by simpa using g6
  have s7 : Try.prog.cellsOf 3 = 1 := by kernel_rfl
  obtain ⟨y7, e7⟩ : ∃ y, DataW.trod enc Try.prog w base (fun _ => true) held m 3 [c7] = some y := by
    rw [s7] at e7
    cases hq : xs[7]? with
    | none => exact absurd (hq ▸ e7) (by have hh := ‹xs.length = _›; simp at hh; have := List.getElem?_eq_none_iff.1 hq; omega)
    | some y => exact ⟨y, (hq ▸ e7 : _)⟩
  obtain ⟨x7, g7, _, w7⟩ := DataW.trod_int Try.underlying3 e7
  obtain rfl : c7 = .int .i64 x7 := by simpa using g7
  have s8 : Try.prog.cellsOf 3 = 1 := by kernel_rfl
  obtain ⟨y8, e8⟩ : ∃ y, DataW.trod enc Try.prog w base (fun _ => true) held m 3 [c8] = some y := by
    rw [s8] at e8
    cases hq : xs[8]? with
    | none => exact absurd (hq ▸ e8) (by have hh := ‹xs.length = _›; simp at hh; have := List.getElem?_eq_none_iff.1 hq; omega)
    | some y => exact ⟨y, (hq ▸ e8 : _)⟩
  obtain ⟨x8, g8, _, w8⟩ := DataW.trod_int Try.underlying3 e8
  obtain rfl : c8 = .int .i64 x8 := by simpa using g8
  have s9 : Try.prog.cellsOf 3 = 1 := by kernel_rfl
  obtain ⟨y9, e9⟩ : ∃ y, DataW.trod enc Try.prog w base (fun _ => true) held m 3 [c9] = some y := by
    rw [s9] at e9
    cases hq : xs[9]? with
    | none => exact absurd (hq ▸ e9) (by have hh := ‹xs.length = _›; simp at hh; have := List.getElem?_eq_none_iff.1 hq; omega)
    | some y => exact ⟨y, (hq ▸ e9 : _)⟩
  obtain ⟨x9, g9, _, w9⟩ := DataW.trod_int Try.underlying3 e9
  obtain rfl : c9 = .int .i64 x9 := by simpa using g9
  have s10 : Try.prog.cellsOf 3 = 1 := by kernel_rfl
  obtain ⟨y10, e10⟩ : ∃ y, DataW.trod enc Try.prog w base (fun _ => true) held m 3 [c10] = some y := by
    rw [s10] at e10
    cases hq : xs[10]? with
    | none => exact absurd (hq ▸ e10) (by have hh := ‹xs.length = _›; simp at hh; have := List.getElem?_eq_none_iff.1 hq; omega)
    | some y => exact ⟨y, (hq ▸ e10 : _)⟩
  obtain ⟨x10, g10, _, w10⟩ := DataW.trod_int Try.underlying3 e10
  obtain rfl : c10 = .int .i64 x10 := by simpa using g10
  have s11 : Try.prog.cellsOf 3 = 1 := by kernel_rfl
  obtain ⟨y11, e11⟩ : ∃ y, DataW.trod enc Try.prog w base (fun _ => true) held m 3 [c11] = some y := by
    rw [s11] at e11
    cases hq : xs[11]? with
    | none => exact absurd (hq ▸ e11) (by have hh := ‹xs.length = _›; simp at hh; have := List.getElem?_eq_none_iff.1 hq; omega)
    | some y => exact ⟨y, (hq ▸ e11 : _)⟩
  obtain ⟨x11, g11, _, w11⟩ := DataW.trod_int Try.underlying3 e11
  obtain rfl : c11 = .int .i64 x11 := by simpa using g11
  have s12 : Try.prog.cellsOf 3 = 1 := by kernel_rfl
  obtain ⟨y12, e12⟩ : ∃ y, DataW.trod enc Try.prog w base (fun _ => true) held m 3 [c12] = some y := by
    rw [s12] at e12
    cases hq : xs[12]? with
    | none => exact absurd (hq ▸ e12) (by have hh := ‹xs.length = _›; simp at hh; have := List.getElem?_eq_none_iff.1 hq; omega)
    | some y => exact ⟨y, (hq ▸ e12 : _)⟩
  obtain ⟨x12, g12, _, w12⟩ := DataW.trod_int Try.underlying3 e12
  obtain rfl : c12 = .int .i64 x12 := by simpa using g12
  have s13 : Try.prog.cellsOf 23 = 1 := by kernel_rfl
  obtain ⟨y13, e13⟩ : ∃ y, DataW.trod enc Try.prog w base (fun _ => true) held m 23 [c13] = some y := by
    rw [s13] at e13
    cases hq : xs[13]? with
    | none => exact absurd (hq ▸ e13) (by have hh := ‹xs.length = _›; simp at hh; have := List.getElem?_eq_none_iff.1 hq; omega)
    | some y => exact ⟨y, (hq ▸ e13 : _)⟩
  obtain ⟨A13, n13, k13, g13, t13⟩ := slice_cell Try.underlying23 e13
  subst g13
  have s14 : Try.prog.cellsOf 27 = 9 := by kernel_rfl
  obtain ⟨y14, e14⟩ : ∃ y, DataW.trod enc Try.prog w base (fun _ => true) held m 27 [c14, c15, c16, c17, c18, c19, c20, c21, c22] = some y := by
    rw [s14] at e14
    cases hq : xs[14]? with
    | none => exact absurd (hq ▸ e14) (by have hh := ‹xs.length = _›; simp at hh; have := List.getElem?_eq_none_iff.1 hq; omega)
    | some y => exact ⟨y, (hq ▸ e14 : _)⟩
  obtain ⟨x14, x15, x16, x17, x18, x19, x20, x21, x22, g14, w14, w15, w16, w17, w18, w19, w20, w21, w22⟩ := openC27 e14
  simp only [List.cons.injEq, and_true] at g14
  obtain ⟨rfl, rfl, rfl, rfl, rfl, rfl, rfl, rfl, rfl⟩ := g14
  have s15 : Try.prog.cellsOf 22 = 1 := by kernel_rfl
  obtain ⟨y15, e15⟩ : ∃ y, DataW.trod enc Try.prog w base (fun _ => true) held m 22 [c23] = some y := by
    rw [s15] at e15
    cases hq : xs[15]? with
    | none => exact absurd (hq ▸ e15) (by have hh := ‹xs.length = _›; simp at hh; have := List.getElem?_eq_none_iff.1 hq; omega)
    | some y => exact ⟨y, (hq ▸ e15 : _)⟩
  obtain ⟨A23, n23, k23, g15, t23⟩ := slice_cell Try.underlying22 e15
  subst g15
  have s16 : Try.prog.cellsOf 3 = 1 := by kernel_rfl
  obtain ⟨y16, e16⟩ : ∃ y, DataW.trod enc Try.prog w base (fun _ => true) held m 3 [c24] = some y := by
    rw [s16] at e16
    cases hq : xs[16]? with
    | none => exact absurd (hq ▸ e16) (by have hh := ‹xs.length = _›; simp at hh; have := List.getElem?_eq_none_iff.1 hq; omega)
    | some y => exact ⟨y, (hq ▸ e16 : _)⟩
  obtain ⟨x24, g16, _, w24⟩ := DataW.trod_int Try.underlying3 e16
  obtain rfl : c24 = .int .i64 x24 := by simpa using g16
  exact ⟨x0, x2, x3, x4, x5, x6, x7, x8, x9, x10, x11, x12, x14, x15, x16, x17, x18, x19, x20, x21, x22, x24, A1, A13, A23, n1, n13, n23, k1, k13, k23, _, _, _, _, _, _, rfl, w14, w17, w20, t1, t13, t23⟩
theorem int_cell {H : Type} {enc : TypeId × Value → H} {W : World} {base : Nat} {held : Bool} (cs : List Value) (n : Nat) (x : DataW H × List MemPlace) (h : DataW.trod enc Try.prog W base (fun _ => true) held n 3 cs = some x) : ∃ z : Int, cs.length = 1 ∧ (Go.Proofs.YtmdcjmackhjchaaW.PrintWords.Kd.int .i64).K W z cs := by
  obtain ⟨z, g, _, _⟩ := DataW.trod_int Try.underlying3 h
  subst g
  exact ⟨z, rfl, rfl⟩
theorem ints_row {H : Type} {enc : TypeId × Value → H} {W : World} {base : Nat} {held : Bool} {A : Option Addr} {n k : Nat} {d : DataW H} {ps : List MemPlace} (h : DataW.Trod enc Try.prog W base (fun _ => true) held 22 (.slice A n k) d ps) :
    ∃ l : List Int, n = l.length ∧ Go.Proofs.YtmdcjmackhjchaaW.PrintWords.Kd.C (Go.Proofs.YtmdcjmackhjchaaW.PrintWords.Kd.int .i64) W A l.length l ∧ l.length ≤ k := by
  obtain ⟨l, hl, hr, hc, _⟩ := rows_open (R := (Go.Proofs.YtmdcjmackhjchaaW.PrintWords.Kd.int .i64).K W) (sz := 1) Try.underlying22 (by kernel_rfl) int_cell h
  exact ⟨l, hl, hr, hc⟩
theorem rows_row {H : Type} {enc : TypeId × Value → H} {W : World} {base : Nat} {held : Bool} {A : Option Addr} {n k : Nat} {d : DataW H} {ps : List MemPlace} (h : DataW.Trod enc Try.prog W base (fun _ => true) held 23 (.slice A n k) d ps) :
    ∃ l : List (List Int), n = l.length ∧ Go.Proofs.YtmdcjmackhjchaaW.PrintWords.Kd.C (Go.Proofs.YtmdcjmackhjchaaW.PrintWords.Kd.slice 3 (Go.Proofs.YtmdcjmackhjchaaW.PrintWords.Kd.int .i64)) W A l.length l ∧ l.length ≤ k := by
  obtain ⟨l, hl, hr, hc, _⟩ := rows_open (R := (Go.Proofs.YtmdcjmackhjchaaW.PrintWords.Kd.slice 3 (Go.Proofs.YtmdcjmackhjchaaW.PrintWords.Kd.int .i64)).K W) (sz := 1) Try.underlying23 (by kernel_rfl) (fun cs n x hx => by
    have hlen : ∃ c, cs = [c] := by
      rcases Go.Deep.open_slice Try.underlying22 hx with ⟨hcs, _⟩ | ⟨a, l, k, m, n, D, Pl, hcs, _⟩
      · exact ⟨_, hcs⟩
      · exact ⟨_, hcs⟩
    obtain ⟨c, rfl⟩ := hlen
    obtain ⟨B, n2, k2, rfl, ht⟩ := slice_cell Try.underlying22 hx
    obtain ⟨z, rfl, hz, hk⟩ := ints_row ht
    exact ⟨z, rfl, B, k2, rfl, hk, hz⟩) h
  exact ⟨l, hl, hr, hc⟩
theorem openV29 {H : Type} {enc : TypeId × Value → H} {W : World} {base : Nat} {held : Bool} {r : Reach} {b0 : Nat} {v : Value} {d : DataW H} {ps : List MemPlace} (hval : Value.okWide Try.prog W r b0 29 v) (h : DataW.Trod enc Try.prog W base (fun _ => true) held 29 v d ps) :
    ∃ (x0 x2 x3 x4 x5 x6 x7 x8 x9 x10 x11 x12 x14 x15 x16 x17 x18 x19 x20 x21 x22 x24 : Int) (A1 A13 A23 : Option Addr) (l1 : List Int) (l13 : List (List Int)) (l23 : List Int) (k1 k13 k23 : Nat), v = .agg #[.int .i64 x0, .slice A1 l1.length k1, .int .i64 x2, .int .i64 x3, .int .i64 x4, .int .i64 x5, .int .i64 x6, .int .i64 x7, .int .i64 x8, .int .i64 x9, .int .i64 x10, .int .i64 x11, .int .i64 x12, .slice A13 l13.length k13, .int .u64 x14, .int .i64 x15, .int .i64 x16, .int .u64 x17, .int .i64 x18, .int .i64 x19, .int .u64 x20, .int .i64 x21, .int .i64 x22, .slice A23 l23.length k23, .int .i64 x24] ∧ (Lit.int .u64 x14).wf = true ∧ (Lit.int .u64 x17).wf = true ∧ (Lit.int .u64 x20).wf = true ∧ Go.Proofs.YtmdcjmackhjchaaW.PrintWords.Kd.C (Go.Proofs.YtmdcjmackhjchaaW.PrintWords.Kd.int .i64) W A1 l1.length l1 ∧ l1.length ≤ k1 ∧ Go.Proofs.YtmdcjmackhjchaaW.PrintWords.Kd.C (Go.Proofs.YtmdcjmackhjchaaW.PrintWords.Kd.slice 3 (Go.Proofs.YtmdcjmackhjchaaW.PrintWords.Kd.int .i64)) W A13 l13.length l13 ∧ l13.length ≤ k13 ∧ Go.Proofs.YtmdcjmackhjchaaW.PrintWords.Kd.C (Go.Proofs.YtmdcjmackhjchaaW.PrintWords.Kd.int .i64) W A23 l23.length l23 ∧ l23.length ≤ k23 := by
  obtain ⟨cs, rfl, hsz⟩ := okWide_struct Try.underlying29 hval
  obtain ⟨fuel, hf⟩ := h
  obtain ⟨x0, x2, x3, x4, x5, x6, x7, x8, x9, x10, x11, x12, x14, x15, x16, x17, x18, x19, x20, x21, x22, x24, A1, A13, A23, n1, n13, n23, k1, k13, k23, d1, d13, d23, ps1, ps13, ps23, g, w14, w17, w20, t1, t13, t23⟩ := openC29 hf
  obtain ⟨l⟩ := cs
  have g2 : l = [.int .i64 x0, .slice A1 n1 k1, .int .i64 x2, .int .i64 x3, .int .i64 x4, .int .i64 x5, .int .i64 x6, .int .i64 x7, .int .i64 x8, .int .i64 x9, .int .i64 x10, .int .i64 x11, .int .i64 x12, .slice A13 n13 k13, .int .u64 x14, .int .i64 x15, .int .i64 x16, .int .u64 x17, .int .i64 x18, .int .i64 x19, .int .u64 x20, .int .i64 x21, .int .i64 x22, .slice A23 n23 k23, .int .i64 x24] := by simpa [Value.cells] using g
  subst g2
  obtain ⟨l1, rfl, r1, c1⟩ := ints_row t1
  obtain ⟨l13, rfl, r13, c13⟩ := rows_row t13
  obtain ⟨l23, rfl, r23, c23⟩ := ints_row t23
  exact ⟨x0, x2, x3, x4, x5, x6, x7, x8, x9, x10, x11, x12, x14, x15, x16, x17, x18, x19, x20, x21, x22, x24, A1, A13, A23, l1, l13, l23, k1, k13, k23, rfl, w14, w17, w20, r1, c1, r13, c13, r23, c23⟩
theorem wf64 {n : Int} (h : (Lit.int .u64 n).wf = true) : 0 ≤ n ∧ n < 18446744073709551616 := by
  simp [Lit.wf, IntKind.min, IntKind.max, IntKind.signed, IntKind.bits] at h
  omega
set_option maxRecDepth 100000 in
theorem lifted (os : Os) (started : os.Started) (H : Type) (enc : TypeId × Value → H) :
    ReturnsInHanded {} Try.checked os 3 .any (Rows.boundNumbersSpec.pre6 enc Try.prog Try.f3 Rows.boundNumbersRow.domain false) (Rows.boundNumbersSpec.post enc Try.prog Try.f3 false true false false) := by
  refine returnsInHanded_of_change_sized (C := Try.checked) own started (by kernel_rfl) Try.func3
    (ChangeSpec.witness6 (enc := enc) (C := Try.checked) false ⟨#[], #[.agg #[.int .i64 0, .slice none 0 0, .int .i64 0, .int .i64 0, .int .i64 0, .int .i64 0, .int .i64 0, .int .i64 0, .int .i64 0, .int .i64 0, .int .i64 0, .int .i64 0, .int .i64 0, .slice none 0 0, .int .u64 0, .int .i64 0, .int .i64 0, .int .u64 0, .int .i64 0, .int .i64 0, .int .u64 0, .int .i64 0, .int .i64 0, .slice none 0 0, .int .i64 0], .int .i64 0], []⟩ 8 (by kernel_rfl) (by kernel_rfl) (by kernel_rfl) (by kernel_rfl)) ?_
  intro W base args ds gs before hval0 hW hcnd hsz0 _
  have hval : ∀ (j : Nat) t v, Try.f3.params[j]? = some t → args[j]? = some v → Value.okWide Try.prog W .any base t v := hval0
  have hW' := hW
  obtain ⟨p, q, hA0, hV, rfl, hfz, hnd⟩ := hW
  have hA : DataW.TrodAll enc Try.prog W 0 (fun _ => true) true Try.f3.params.toList args.toList ds p := hA0
  rw [Try.params3] at hA hval
  obtain ⟨v0, vs0, d0, ds0, p0, q0, hargs, rfl, rfl, h0, r0⟩ := trodAll_cons hA
  obtain ⟨v1, vs1, d1, ds1, p1, q1, rfl, rfl, rfl, h1, r1⟩ := trodAll_cons r0
  obtain ⟨rfl, rfl, rfl⟩ := trodAll_nil r1
  obtain rfl : args = #[v0, v1] := by cases args; simp_all
  obtain ⟨rfl, rfl⟩ := trodVars_none hV
  have k0 := h0
  have lt0 : ∀ x ∈ p0, x.block < W.heap.size := by obtain ⟨m, hm⟩ := k0; exact DataW.trod_lt m _ _ _ hm
  obtain ⟨x0, x2, x3, x4, x5, x6, x7, x8, x9, x10, x11, x12, x14, x15, x16, x17, x18, x19, x20, x21, x22, x24, A1, A13, A23, l1, l13, l23, k1, k13, k23, rfl, w14, w17, w20, r1, c1, r13, c13, r23, c23⟩ := openV29 (hval 0 29 v0 rfl rfl) h0
  obtain ⟨a1, rfl, rfl, rfl, w1⟩ := open_int Try.underlying3 (hval 1 3 v1 rfl rfl) h1
  clear hA0 hval0 hsz0
  refine (P.bn_walk x0 l1 x2 x3 x4 x5 x6 x7 x8 x9 x10 x11 x12 l13 x14 x15 x16 x17 x18 x19 x20 x21 x22 l23 x24 a1 A1 A13 A23 k1 k13 k23 W r1 c1 r13 c13 r23 c23 (wf64 w14).1 (wf64 w14).2 (wf64 w17).1 (wf64 w17).2 (wf64 w20).1 (wf64 w20).2).mono fun e W' ⟨he, bel⟩ => ?_
  subst he
  exact ⟨_, rfl, _, _, _, [], _, [], hW', trodAll_mk1 (shut_bool Try.underlying4 _), (trodAll_cons_mk (Below.trod laidOut (by kernel_rfl) (of_decide_eq_true (by kernel_rfl)) k0 bel lt0) (trodAll_cons_mk (shut_int Try.underlying3 w1) trodAll_mk0)), rfl, bel.frame _, fun h => by cases h⟩
theorem over : Rows.boundNumbersRow.holds Try.pinned (OpenSpec.ofChange Rows.boundNumbersSpec) :=
  OpenClaim.holds_of_wide 3 Try.f3 rfl rfl rfl rfl rfl rfl rfl ⟨rfl, rfl, rfl, rfl, rfl⟩ rfl rfl rfl rfl rfl (by kernel_rfl) Try.func3 (by kernel_rfl)
    (of_decide_eq_true (by kernel_rfl)) (by unfold Func.isWrapper; first | (rw [if_pos (by decide +kernel)]; kernel_rfl) | (rw [if_neg (by decide +kernel)]; exact ⟨rfl, rfl⟩))
    (fun os started H enc _ => lifted os started H enc)
theorem proved : Rows.BoundNumbersSaid := over
#print axioms proved
end Go.Proofs.Ytmdcjmackhjchaa.boundNumbers
namespace Go.Proofs.Ytmdcjmackhjchaa
/-- The row, under a short name, for the claim. -/
theorem boundNumbers_holds : Rows.BoundNumbersSaid := boundNumbers.proved
end Go.Proofs.Ytmdcjmackhjchaa
end
