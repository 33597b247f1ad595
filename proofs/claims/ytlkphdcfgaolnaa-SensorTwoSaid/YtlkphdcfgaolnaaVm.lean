/- Package sensor: a table of readings and how often each is there: what the map holds, and what the operations on it do. -/
import Derived.Test.YtlkphdcfgaolnaaP0
import Derived.Maps.OwnOps
import Derived.Maps.RangeRun
import Derived.DeepKeys5
import Derived.WideKeyEntry
namespace Go.Proofs.Ytlkphdcfgaolnaa.P
open Go.RowKit Go.Proofs.YtlkphdcfgaolnaaW.PrintWords Go.Proofs.YtlkphdcfgaolnaaW.PrintLast Go.Proofs.YtlkphdcfgaolnaaW.PrintMore
open Go.Maps (Keyed)
open Go.ChangeMaps
set_option linter.unusedVariables false
set_option linter.unusedSimpArgs false
theorem wsv (x : Int) (h : -1000000000000 ≤ x) (h2 : x ≤ 1000000000000) : wrap64 x = x := by unfold wrap64; omega

/-- A reading. -/
abbrev R3 := Bool × Int × Int
def rv (x : R3) : Value := .agg #[.bool x.1, .int .i64 x.2.1, .int .i64 x.2.2]
theorem rv_inj {x y : R3} (h : rv x = rv y) : x = y := by
  obtain ⟨a, b, c⟩ := x
  obtain ⟨d, e, f⟩ := y
  simp [rv] at h
  simp [h]

theorem read_laid : laidOutB Try.prog = true := by kernel_rfl
theorem read_keyed : Keyed Try.prog 23 := Keyed.of_law (deep_law_gate read_laid (Nat.le_of_ble_eq_true (by kernel_rfl)) (Nat.le_of_ble_eq_true (by kernel_rfl)) (by kernel_rfl) (by kernel_rfl))
theorem read_key0 : Try.prog.keyType 23 = true := by kernel_rfl
theorem read_cells : Try.prog.cellsOf 23 = 3 := by kernel_rfl
theorem rint_cells : Try.prog.cellsOf 3 = 1 := by kernel_rfl
theorem rbool_cells : Try.prog.cellsOf 4 = 1 := by kernel_rfl
theorem read_size : ∃ m, Try.prog.types.size = m + 1 := ⟨Try.prog.types.size - 1, by kernel_rfl⟩

def Rok (x : R3) : Prop := (-1000 ≤ x.2.1 ∧ x.2.1 ≤ 1000) ∧ (-1000 ≤ x.2.2 ∧ x.2.2 ≤ 1000)
theorem rv_key {x : R3} (h : Rok x) : ∃ kl, keyOf Try.prog 23 (rv x) = some kl := by
  have h1 : (Lit.int .i64 x.2.1).wf = true := WalkArith.wf_i64 (by have := h.1; omega)
  have h2 : (Lit.int .i64 x.2.2).wf = true := WalkArith.wf_i64 (by have := h.2; omega)
  unfold keyOf rv
  simp only [Try.underlying23, read_key0, Value.formed, read_cells, List.size_toArray, List.length_cons, List.length_nil, Bool.true_and]
  obtain ⟨m, hm⟩ := read_size
  rw [hm]
  simp [Program.keyLits, Try.underlying23, Try.underlying3, Try.underlying4, read_cells, rint_cells, rbool_cells, Value.cells, h1, h2]

/-- What the map holds when the readings of l were counted. -/
structure VM (es : Array MapEntry) (clock : Nat) (l : List R3) : Prop where
  ent : ∀ e ∈ es.toList, ∃ y, y ∈ l ∧ e.key = rv y ∧ e.val = .int .i64 (l.count y : Nat)
  all : ∀ y ∈ l, ∃ e ∈ es.toList, e.key = rv y
  keys : (es.toList.map (·.key)).Nodup
  born : ∀ e ∈ es.toList, e.born < clock
  stamps : (es.toList.map (·.born)).Nodup
theorem VM.empty (c : Nat) : VM #[] c [] := ⟨by simp, by simp, by simp, by simp, by simp⟩
theorem VM.keyed {es : Array MapEntry} {clock : Nat} {l : List R3} (h : VM es clock l) (hl : ∀ y ∈ l, Rok y) : ∀ e ∈ es.toList, ∃ k, keyOf Try.prog 23 e.key = some k := fun e he => by
  obtain ⟨y, hy, e1, _⟩ := h.ent e he
  rw [e1]; exact rv_key (hl y hy)

theorem vm_look {es : Array MapEntry} {clock : Nat} {l : List R3} (h : VM es clock l) (hl : ∀ y ∈ l, Rok y) {x : R3} (hx : Rok x) {W : World} {mb : Nat} (hb : W.heap[mb]? = some (.map es clock)) :
    (Instr.lookup 63 (.map (some mb)) (rv x) false).run Try.prog W = .ok (.int .i64 (l.count x : Nat)) W := by
  obtain ⟨kl, hk⟩ := rv_key hx
  have hz : ∀ W', (zeroValue 3).run Try.prog W' = .ok (.int .i64 0) W' := fun W' => Try.zeroValue3 W'
  rcases read_keyed.find W hk es.toList (h.keyed hl) with ⟨g1, g2⟩ | ⟨i, e0, g1, g2, g3⟩
  · have h0 : l.count x = 0 := List.count_eq_zero.2 fun hin => by
      obtain ⟨e, he, e1⟩ := h.all x hin
      exact g2 e he e1
    rw [h0]
    simp [Instr.lookup, run_underlying Try.underlying63, MapKept.run_getObj_map hb, read_keyed.check W _ hk, g1, hz, Result.andThen]
  · obtain ⟨y, hy, e1, e2⟩ := h.ent e0 (List.mem_of_getElem? g2)
    rw [g3] at e1
    obtain rfl := rv_inj e1
    rw [e2] at g1
    simp [Instr.lookup, run_underlying Try.underlying63, MapKept.run_getObj_map hb, read_keyed.check W _ hk, g1, Result.andThen]

/-- 'out[x]++': the entry, what is looked up behind it, and the store. -/
theorem vm_entry {es : Array MapEntry} {clock : Nat} {l : List R3} (h : VM es clock l) (hl : ∀ y ∈ l, Rok y) {x : R3} (hx : Rok x) {W : World} {mb : Nat} (hb : W.heap[mb]? = some (.map es clock)) :
    ∃ (v0 : Value) (st : Nat) (es1 : Array MapEntry) (clock1 : Nat), (Instr.mapEntry 63 (.map (some mb)) (rv x)).run Try.prog W = .ok (.tuple #[v0, goInt st]) (setBlock W mb (.map es1 clock1)) ∧
      (∀ W2 : World, W2.heap[mb]? = some (.map es1 clock1) → (Instr.lookup 63 (.map (some mb)) (rv x) false).run Try.prog W2 = .ok (.int .i64 (l.count x : Nat)) W2) ∧
      ∀ W2 : World, W2.heap[mb]? = some (.map es1 clock1) → ∃ es' clock', (Instr.entryStore 63 (.map (some mb)) (goInt st) (.int .i64 ((l.count x : Nat) + 1))).run Try.prog W2 = .ok () (setBlock W2 mb (.map es' clock')) ∧ VM es' clock' (l ++ [x]) := by
  obtain ⟨kl, hk⟩ := rv_key hx
  have hz : ∀ W', (zeroValue 3).run Try.prog W' = .ok (.int .i64 0) W' := fun W' => Try.zeroValue3 W'
  rcases read_keyed.find W hk es.toList (h.keyed hl) with ⟨h1, h2⟩ | ⟨j, e0, h1, h2, h3⟩
  · have hnl : x ∉ l := fun hin => by
      obtain ⟨e, he, e1⟩ := h.all x hin
      exact h2 e he e1
    have h0 : l.count x = 0 := List.count_eq_zero.2 hnl
    refine ⟨.int .i64 0, clock, es.push ⟨rv x, .int .i64 0, clock⟩, clock + 1, ?_, fun W2 hW2 => ?_, fun W2 hW2 => ⟨es.push ⟨rv x, .int .i64 ((l.count x : Nat) + 1), clock⟩, clock + 1, ?_, ?_⟩⟩
    · simp [Instr.mapEntry, run_underlying Try.underlying63, MapKept.run_getObj_map hb, read_keyed.check W false hk, h1, hz, MapKept.run_setObj_map _ hb, Result.andThen, setBlock]
    · have hks : ∀ e ∈ (es.push ⟨rv x, .int .i64 0, clock⟩).toList, ∃ k, keyOf Try.prog 23 e.key = some k := fun e he => by
        simp only [Array.toList_push, List.mem_append, List.mem_singleton] at he
        rcases he with he | rfl
        · exact h.keyed hl e he
        · exact ⟨kl, hk⟩
      rcases read_keyed.find W2 hk _ hks with ⟨g1, g2⟩ | ⟨i, e1, g1, g2, g3⟩
      · exact absurd rfl (g2 ⟨rv x, .int .i64 0, clock⟩ (by simp))
      · have he := List.mem_of_getElem? g2
        simp only [Array.toList_push, List.mem_append, List.mem_singleton] at he
        rcases he with he | rfl
        · exact absurd g3 (h2 e1 he)
        · rw [h0]
          simp only [Array.toList_push] at g1
          simp [Instr.lookup, run_underlying Try.underlying63, MapKept.run_getObj_map hW2, read_keyed.check W2 _ hk, g1, Result.andThen]
    · have hidx : (es.push ⟨rv x, .int .i64 0, clock⟩).findIdx? (fun e => ((e.born : Nat) : Int) == ((clock : Nat) : Int)) = some es.size := by
        rw [WideElems.findIdx_arr]
        have := WideElems.findIdx_born (l := (es.push ⟨rv x, .int .i64 0, clock⟩).toList) (j := es.size) (e0 := ⟨rv x, .int .i64 0, clock⟩) (by
          simp only [Array.toList_push, List.map_append, List.map_cons, List.map_nil]
          refine List.nodup_append.2 ⟨h.stamps, by simp, fun a ha c hc e1 => ?_⟩
          simp only [List.mem_singleton] at hc
          obtain ⟨x, hx, rfl⟩ := List.mem_map.1 ha
          have := h.born x hx
          omega) (by simp)
        exact this
      have hmod : (es.push ⟨rv x, .int .i64 0, clock⟩).modify es.size (fun e => { e with val := .int .i64 ((l.count x : Nat) + 1) }) = es.push ⟨rv x, .int .i64 ((l.count x : Nat) + 1), clock⟩ := by
        apply Array.ext'
        rw [Array.toList_modify, Array.toList_push, Array.toList_push, ← Array.length_toList, WideElems.modify_last]
      simp [Instr.entryStore, MapKept.run_getObj_map hW2, asInt, asIntOf, goInt, hidx, hmod, MapKept.run_setObj_map _ hW2, Result.andThen, setBlock]
    · refine ⟨fun e he => ?_, fun y hy => ?_, ?_, fun e he => ?_, ?_⟩
      · simp only [Array.toList_push, List.mem_append, List.mem_singleton] at he
        rcases he with he | rfl
        · obtain ⟨y, hy, e1, e2⟩ := h.ent e he
          have hne : y ≠ x := fun q => hnl (q ▸ hy)
          exact ⟨y, List.mem_append_left _ hy, e1, by rw [e2, List.count_append, show [x].count y = 0 from List.count_eq_zero.2 (by simpa using hne)]; rfl⟩
        · exact ⟨x, by simp, rfl, by rw [List.count_append]; simp⟩
      · simp only [List.mem_append, List.mem_singleton] at hy
        simp only [Array.toList_push, List.mem_append, List.mem_singleton]
        rcases hy with hy | rfl
        · obtain ⟨e, he, e1⟩ := h.all y hy
          exact ⟨e, .inl he, e1⟩
        · exact ⟨_, .inr rfl, rfl⟩
      · simp only [Array.toList_push, List.map_append, List.map_cons, List.map_nil]
        refine List.nodup_append.2 ⟨h.keys, by simp, fun a ha c hc e1 => ?_⟩
        simp only [List.mem_singleton] at hc
        obtain ⟨e, he, rfl⟩ := List.mem_map.1 ha
        exact h2 e he (e1.trans hc)
      · simp only [Array.toList_push, List.mem_append, List.mem_singleton] at he
        rcases he with he | rfl
        · have := h.born e he; omega
        · exact Nat.lt_succ_self _
      · simp only [Array.toList_push, List.map_append, List.map_cons, List.map_nil]
        refine List.nodup_append.2 ⟨h.stamps, by simp, fun a ha c hc e1 => ?_⟩
        simp only [List.mem_singleton] at hc
        obtain ⟨e, he, rfl⟩ := List.mem_map.1 ha
        have := h.born e he
        omega
  · have hj : es[j]? = some e0 := by simpa using h2
    have hsame : es.modify j (fun e => { e with key := rv x }) = es := by
      apply Array.ext'
      rw [Array.toList_modify, modify_eq_set _ _ _ _ h2]
      have : ({ e0 with key := rv x } : MapEntry) = e0 := by rw [← h3]
      rw [this]
      exact WideElems.set_self _ _ _ h2
    obtain ⟨y0, hy0, e01, e02⟩ := h.ent e0 (List.mem_of_getElem? h2)
    obtain rfl : y0 = x := rv_inj (e01.symm.trans h3)
    refine ⟨e0.val, e0.born, es, clock, ?_, fun W2 hW2 => vm_look h hl hx hW2, fun W2 hW2 => ⟨es.modify j (fun e' => { e' with val := .int .i64 ((l.count y0 : Nat) + 1) }), clock, ?_, ?_⟩⟩
    · simp [Instr.mapEntry, run_underlying Try.underlying63, MapKept.run_getObj_map hb, read_keyed.check W false hk, h1, hj, h3, read_keyed.stays W hk, hsame, MapKept.run_setObj_map _ hb, Result.andThen, setBlock]
    · have hidx : es.findIdx? (fun e => ((e.born : Nat) : Int) == ((e0.born : Nat) : Int)) = some j := by
        rw [WideElems.findIdx_arr]
        exact WideElems.findIdx_born h.stamps h2
      simp [Instr.entryStore, MapKept.run_getObj_map hW2, asInt, asIntOf, goInt, hidx, MapKept.run_setObj_map _ hW2, Result.andThen, setBlock]
    · have hL : (es.modify j (fun e' => { e' with val := .int .i64 ((l.count y0 : Nat) + 1) })).toList = es.toList.set j { e0 with val := .int .i64 ((l.count y0 : Nat) + 1) } := by
        rw [Array.toList_modify, modify_eq_set _ _ _ _ h2]
      have hjl : j < es.toList.length := (List.getElem?_eq_some_iff.1 h2).1
      have hmk : ((es.toList.set j { e0 with val := .int .i64 ((l.count y0 : Nat) + 1) }).map (·.key)) = es.toList.map (·.key) := by
        rw [List.map_set]
        exact WideElems.set_self _ _ _ (by simp only [List.getElem?_map, h2, Option.map_some])
      have hmb : ((es.toList.set j { e0 with val := .int .i64 ((l.count y0 : Nat) + 1) }).map (·.born)) = es.toList.map (·.born) := by
        rw [List.map_set]
        exact WideElems.set_self _ _ _ (by simp only [List.getElem?_map, h2, Option.map_some])
      have hin : ∀ e ∈ es.toList.set j { e0 with val := .int .i64 ((l.count y0 : Nat) + 1) }, e = { e0 with val := .int .i64 ((l.count y0 : Nat) + 1) } ∨ e ∈ es.toList ∧ e.key ≠ rv y0 := fun e he => by
        obtain ⟨k, hk'⟩ := List.mem_iff_getElem?.1 he
        rw [List.getElem?_set] at hk'
        by_cases q : j = k
        · subst q
          rw [if_pos rfl, if_pos hjl] at hk'
          exact .inl (Option.some.inj hk').symm
        · rw [if_neg q] at hk'
          refine .inr ⟨List.mem_of_getElem? hk', fun e1 => q ?_⟩
          refine (List.getElem?_inj (l := es.toList.map (·.key)) (by simpa using hjl) h.keys).1 ?_
          simp only [List.getElem?_map, h2, hk', Option.map_some, h3, e1]
      refine ⟨fun e he => ?_, fun y hy => ?_, by rw [hL, hmk]; exact h.keys, fun e he => ?_, by rw [hL, hmb]; exact h.stamps⟩
      · rw [hL] at he
        rcases hin e he with rfl | ⟨he, hne⟩
        · exact ⟨y0, by simp, h3, by rw [List.count_append]; simp⟩
        · obtain ⟨y, hy, e1, e2⟩ := h.ent e he
          have hne2 : y ≠ y0 := fun q => hne (q ▸ e1)
          exact ⟨y, List.mem_append_left _ hy, e1, by rw [e2, List.count_append, show [y0].count y = 0 from List.count_eq_zero.2 (by simpa using hne2)]; rfl⟩
      · have hy2 : y ∈ l := by
          simp only [List.mem_append, List.mem_singleton] at hy
          rcases hy with hy | rfl
          · exact hy
          · exact hy0
        obtain ⟨e, he, e1⟩ := h.all y hy2
        have hmem : e.key ∈ (es.toList.set j { e0 with val := .int .i64 ((l.count y0 : Nat) + 1) }).map (·.key) := by rw [hmk]; exact List.mem_map.2 ⟨e, he, rfl⟩
        obtain ⟨e', he', e2⟩ := List.mem_map.1 hmem
        exact ⟨e', by rw [hL]; exact he', e2.trans e1⟩
      · rw [hL] at he
        have hmem : e.born ∈ (es.toList.set j { e0 with val := .int .i64 ((l.count y0 : Nat) + 1) }).map (·.born) := List.mem_map.2 ⟨e, he, rfl⟩
        rw [hmb] at hmem
        obtain ⟨e', he', e2⟩ := List.mem_map.1 hmem
        have := h.born e' he'
        omega
end Go.Proofs.Ytlkphdcfgaolnaa.P
