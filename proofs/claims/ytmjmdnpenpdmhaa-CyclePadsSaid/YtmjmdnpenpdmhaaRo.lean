/- A region that draws its order, walked by hand: loads are taken first under a condition on the world that is owed behind every operation but one, which waits for them (a last store may hit a cell that was read); outside of rounds and inside the round of a range over a function. Plain laws, no program. -/
import Derived.OrdersHeld
import Derived.Deep.RegionHeld
import Derived.OrdersIn
import Derived.RangeFuncCalls
import Derived.TacticsIn
import Derived.WalkKit
import Derived.RangeFuncNested
import Derived.RangeFuncBound
import Derived.RangeFuncLeaves
import Derived.RangeFuncRecord
namespace Go.Proofs.Ytmjmdnpenpdmhaa.P
open Go Go.RowKit
/-! A range over a function whose iterator keeps state (as XRf). -/

/-- Where the body of a round may be left. -/
def rfPost {α : Type} (lr D : Nat) (Post : α → World → World → Prop) (Stop : α → World → Code → World → Prop) (x : α) (W1 W2 : World) : Exit → Act → World → Prop
  | .normal, _, W3 => W3.heap[lr]? = W2.heap[lr]? ∧ W3.heap[D]? = W2.heap[D]? ∧ ∀ Ra, Post x W1 (W3.putObj lr Ra)
  | .ret, _, W3 => W3.heap[lr]? = W2.heap[lr]? ∧ W3.heap[D]? = W2.heap[D]? ∧ ∀ Ra, Stop x W1 .ret (W3.putObj lr Ra)
  | .exit id, _, W3 => W3.heap[lr]? = W2.heap[lr]? ∧ W3.heap[D]? = W2.heap[D]? ∧ ∀ Ra, Stop x W1 (.exit id) (W3.putObj lr Ra)
  | .goto t, _, W3 => W3.heap[lr]? = W2.heap[lr]? ∧ W3.heap[D]? = W2.heap[D]? ∧ ∀ Ra, Stop x W1 (.goto t) (W3.putObj lr Ra)
  | .panic _, _, _ => False
  | .outgrown, _, _ => False

theorem rf_law {α : Type} {F : Fence} {n : Nat} {P : Program} {g : Operand} {ps : Array Tmp} {assign body : Code} {Q : Exit → Act → World → Prop} {a : Act} {w : World}
    (hro : F.round = none) (h1 : 1 ≤ n) {gf : Nat} {lb : Array Value} (hg : a.eval g = .func (.func gf) #[] lb) (hFg : F.fn gf) (eg : ∀ args w, (callFunc gf args).run P w = .ok (.enter gf args) w)
    {encs : α → Array Value} (hps : ∀ x, (encs x).size = ps.size)
    (Pre : α → World → Prop) (Mid : α → World → Act → World → Prop) (Post : α → World → World → Prop) (Stop : α → World → Code → World → Prop) (E : World → Prop) (Es : Code → World → Prop)
    (hassign : ∀ (x : α) (W1 : World) (K : Act → World → Prop), Pre x W1 →
      (∀ a' W2, W2.heap[w.heap.size + 1]? = W1.heap[w.heap.size + 1]? → W2.heap[w.heap.size]? = W1.heap[w.heap.size]? → Mid x W1 a' W2 → K a' W2) →
      assign.wpIn (F.inRound (w.heap.size + 1)) (n - 1 - 1) P (Exit.then K (fun _ _ _ => False)) { tmps := (ps.zip (encs x)).foldl (fun t (p, v) => t.setIfInBounds p v) a.tmps, defers := [] } W1)
    (hbody : ∀ (x : α) (W1 : World) (a' : Act) (W2 : World) (Rb : Obj), Mid x W1 a' W2 →
      body.wpIn (F.inRound (w.heap.size + 1)) (n - 1 - 1) P (rfPost (w.heap.size + 1) w.heap.size Post Stop x W1 (W2.putObj (w.heap.size + 1) Rb)) a' (W2.putObj (w.heap.size + 1) Rb))
    (hiter : ∀ (R0 : Obj) (Rs : Code → Obj) (W : World), W = (w.alloc (.deferred (some []))).alloc R0 →
      (∀ x W1, Pre x W1 → W1.heap[w.heap.size + 1]? = some R0 → W1.heap[w.heap.size]? = some (.deferred (some [])) →
        YieldAt F (n - 1 - 1) P (w.heap.size + 1) (encs x) W1 fun e W' =>
          (e = .returned (.bool true) ∧ Post x W1 W' ∧ W'.heap[w.heap.size + 1]? = some R0 ∧ W'.heap[w.heap.size]? = some (.deferred (some []))) ∨
          (e = .returned (.bool false) ∧ ∃ c, Stop x W1 c W' ∧ W'.heap[w.heap.size + 1]? = some (Rs c) ∧ W'.heap[w.heap.size]? = some (.deferred (some [])))) →
      CallsIn F (n - 1) P gf (#[.func (.yield (w.heap.size + 1)) #[] #[]] ++ lb) W fun e W' => (∃ v, e = .returned v) ∧ W'.heap[w.heap.size]? = some (.deferred (some [])) ∧
        ((E W' ∧ W'.heap[w.heap.size + 1]? = some R0) ∨ ∃ c, Es c W' ∧ W'.heap[w.heap.size + 1]? = some (Rs c)))
    (hdone : ∀ (W : World) (Rx : Obj), E W → W.heap[w.heap.size]? = some (.deferred (some [])) → Q .normal { a with defers := { target := .collected w.heap.size, args := #[] } :: a.defers } (W.putObj (w.heap.size + 1) Rx))
    (hstop : ∀ (c : Code) (W : World) (Rx : Obj), Es c W → W.heap[w.heap.size]? = some (.deferred (some [])) → c.wpIn F n P Q { a with defers := { target := .collected w.heap.size, args := #[] } :: a.defers } (W.putObj (w.heap.size + 1) Rx)) :
    (Code.rangeFunc g ps assign body).wpIn F n P Q a w := by
  refine wpIn_rangeFunc fun fn hfn => ?_
  rw [hro]
  let rec_ : LoopState → Option Code → Loop := fun st pe => { state := st, pending := pe, fn, tmps := a.tmps, params := ps, assign, body, defers := w.heap.size }
  have hlk : w.heap.size ≠ w.heap.size + 1 := by omega
  refine ⟨w.heap.size + 1, [{ target := .collected w.heap.size, args := #[] }], (w.alloc (.deferred (some []))).alloc (.loop (rec_ .ready none)), { target := .fn (.func gf) lb, args := #[.func (.yield (w.heap.size + 1)) #[] #[]] },
    (w.alloc (.deferred (some []))).alloc (.loop (rec_ .ready none)), gf, #[.func (.yield (w.heap.size + 1)) #[] #[]] ++ lb, (w.alloc (.deferred (some []))).alloc (.loop (rec_ .ready none)), run_enterLoop_outer _ _ _ _ _, ?_, ?_, ?_, fun _ => h1, ?_⟩
  · simp only [resolve, hg]
    simp [go_sem]
  · intro f' hf'
    simp [Target.leads] at hf'
    subst hf'
    exact hFg
  · simp [invoke, go_sem, eg]
  · refine (hiter (.loop (rec_ .ready none)) (fun c => .loop (rec_ .done (some c))) _ rfl ?_).mono ?_
    · intro x W1 hpre hl hk
      refine ⟨fn, _, assign, body, run_yield hl (hps x), roundIn_of_wpIn hfn (hassign x W1 _ hpre fun a' W2 hl2 hk2 hmid => ⟨_, run_beginRound (hl2.trans hl) rfl, ?_⟩)⟩
      have hlt : w.heap.size + 1 < W2.heap.size := (Array.getElem?_eq_some_iff.1 (hl2.trans hl)).1
      refine wpIn_mono (hbody x W1 a' W2 _ hmid) ?_
      have fin : ∀ (jump : Option Code) (W3 : World), W3.heap[w.heap.size + 1]? = (W2.putObj (w.heap.size + 1) (.loop { rec_ .ready none with state := .busy })).heap[w.heap.size + 1]? →
          W3.heap[w.heap.size]? = (W2.putObj (w.heap.size + 1) (.loop { rec_ .ready none with state := .busy })).heap[w.heap.size]? →
          (Instr.endRound (w.heap.size + 1) jump).run P W3 = .ok (.bool jump.isNone) (W3.putObj (w.heap.size + 1) (.loop (rec_ (if jump.isNone then .ready else .done) jump))) ∧
          (W3.putObj (w.heap.size + 1) (.loop (rec_ (if jump.isNone then .ready else .done) jump))).heap[w.heap.size + 1]? = some (.loop (rec_ (if jump.isNone then .ready else .done) jump)) ∧
          (W3.putObj (w.heap.size + 1) (.loop (rec_ (if jump.isNone then .ready else .done) jump))).heap[w.heap.size]? = some (.deferred (some [])) := fun jump W3 q1 q2 => by
        rw [World.putObj_heap_same hlt] at q1
        rw [World.putObj_heap_other hlk] at q2
        exact ⟨run_endRound jump q1, World.putObj_heap_same (Array.getElem?_eq_some_iff.1 q1).1, (World.putObj_heap_other hlk).trans (q2.trans (hk2.trans hk))⟩
      rintro e a3 W3 hp
      cases e with
      | normal =>
        obtain ⟨q1, q2, q3⟩ := hp
        obtain ⟨r1, r2, r3⟩ := fin none W3 q1 q2
        exact ⟨_, _, r1, .inl ⟨rfl, q3 _, r2, r3⟩⟩
      | ret =>
        obtain ⟨q1, q2, q3⟩ := hp
        obtain ⟨r1, r2, r3⟩ := fin (some .ret) W3 q1 q2
        exact ⟨_, _, r1, .inr ⟨rfl, .ret, q3 _, r2, r3⟩⟩
      | exit id =>
        obtain ⟨q1, q2, q3⟩ := hp
        obtain ⟨r1, r2, r3⟩ := fin (some (.exit id)) W3 q1 q2
        exact ⟨_, _, r1, .inr ⟨rfl, .exit id, q3 _, r2, r3⟩⟩
      | goto t =>
        obtain ⟨q1, q2, q3⟩ := hp
        obtain ⟨r1, r2, r3⟩ := fin (some (.goto t)) W3 q1 q2
        exact ⟨_, _, r1, .inr ⟨rfl, .goto t, q3 _, r2, r3⟩⟩
      | panic ch => exact hp.elim
      | outgrown => exact hp.elim
    · rintro e W2 ⟨⟨v, rfl⟩, hk, (⟨hE, hl⟩ | ⟨c, hE, hl⟩)⟩
      · exact ⟨none, _, run_endLoop hl (by simp [rec_]), hdone _ _ hE hk⟩
      · exact ⟨some c, _, run_endLoop hl (by simp [rec_]), hstop c _ _ hE hk⟩
section
variable {P : Program} {ops : Array Oper} {Q : Exit → Act → World → Prop} {md : Region.Mode} {S : World → Prop} {L : Nat}

/-- Number L waits for number i. -/
def waitsFor (md : Region.Mode) (ops : Array Oper) (L i : Nat) : Bool := match ops[L]? with | some o => o.after.any (fun e => Region.binds md e && e.on == i) | none => true

def wpAnyJ (P : Program) (md : Region.Mode) (ops : Array Oper) (Q : Exit → Act → World → Prop) (S : World → Prop) (L : Nat) : Nat → Array Bool → Act → World → Prop
  | 0, listed, a, w => Region.ready md ops listed = [] ∧ Q .normal a w
  | fuel + 1, listed, a, w =>
    (Region.ready md ops listed = [] → Q .normal a w) ∧
    ∀ i ∈ Region.ready md ops listed, wpOp P ops Q i (fun a' w' => ((listed.setIfInBounds i true).getD L false = false → S w') ∧ wpAnyJ P md ops Q S L fuel (listed.setIfInBounds i true) a' w') a w

theorem wpAny_of_J : ∀ (fuel : Nat) (listed : Array Bool) (a : Act) (w : World), wpAnyJ P md ops Q S L fuel listed a w → wpAny P md ops Q fuel listed a w
  | 0, _, _, _, h => h
  | fuel + 1, _, _, _, h => ⟨h.1, fun i hi => wpOp_mono (fun a' w' h' => wpAny_of_J fuel _ a' w' h'.2) (h.2 i hi)⟩

theorem wpAnyJ_first {i : Nat} {oi : Oper} {v : Value} (hi : ops[i]? = some oi) (hsel : ∀ (j : Nat) (o : Oper) cs b, ops[j]? = some o → o.op ≠ .select cs b)
    (hQ : ∀ c a w, Q (.panic c) (a.put oi.dst v) w → Q (.panic c) a w) (hL : waitsFor md ops L i = true) (hiL : i ≠ L) :
    ∀ (fuel : Nat) (listed : Array Bool) (a : Act) (w : World),
      (∀ j oj, ops[j]? = some oj → j ≠ i → listed.getD j true = false → (∀ e ∈ oj.after, Region.binds md e = true → e.on ≠ i) → oi.apart ops oj = true) →
      i ∈ Region.ready md ops listed → YieldsIf P ops S oi v a → listed.getD L false = false → S w →
      wpAnyJ P md ops Q S L fuel (listed.setIfInBounds i true) (a.put oi.dst v) w → wpAnyJ P md ops Q S L (fuel + 1) listed a w := by
  intro fuel
  induction fuel with
  | zero =>
    intro listed a w _ hr hy hun hS H
    refine ⟨fun h => (by rw [h] at hr; cases hr), fun j hj => ?_⟩
    by_cases hji : j = i
    · subst hji; exact hy.wpOp hi hS ⟨fun _ => hS, H⟩
    · have := ready_mono hj hji
      rw [H.1] at this
      cases this
  | succ fuel ih =>
    intro listed a w hfree hr hy hun hS H
    refine ⟨fun h => (by rw [h] at hr; cases hr), fun j hj => ?_⟩
    by_cases hji : j = i
    · subst hji; exact hy.wpOp hi hS ⟨fun _ => hS, H⟩
    · have h1 := H.2 j (ready_mono hj hji)
      obtain ⟨hjun, oj, hoj, hall⟩ := mem_ready.1 hj
      have hnot : ∀ e ∈ oj.after, Region.binds md e = true → e.on ≠ i := fun e he hb heq => by
        have h1 := hall e he hb
        have h0 := (mem_ready.1 hr).1
        rw [heq] at h1
        rcases Nat.lt_or_ge i listed.size with h' | h'
        · simp [h'] at h0 h1; rw [h0] at h1; cases h1
        · simp [Array.getElem?_eq_none h'] at h1
      have hjL : j ≠ L := by
        intro e
        subst e
        unfold waitsFor at hL
        rw [hoj] at hL
        rw [Array.any_eq_true] at hL
        obtain ⟨z, hz, hb⟩ := hL
        simp only [Bool.and_eq_true, beq_iff_eq] at hb
        exact hnot _ (Array.getElem_mem hz) hb.1 hb.2
      have hun' : (listed.setIfInBounds j true).getD L false = false := by rw [getD_set_ne false hjL]; exact hun
      have hun2 : ((listed.setIfInBounds i true).setIfInBounds j true).getD L false = false := by rw [getD_set_ne false hjL, getD_set_ne false hiL]; exact hun
      have h2 := wpOp_putIf hoj (hfree j oj hoj hji hjun hnot) (fun cs b => hsel i oi cs b hi) (fun cs b => hsel j oj cs b hoj) hQ hy h1
      have hfree' : ∀ k ok, ops[k]? = some ok → k ≠ i → (listed.setIfInBounds j true).getD k true = false →
          (∀ e ∈ ok.after, Region.binds md e = true → e.on ≠ i) → oi.apart ops ok = true := fun k ok hk hki hun hno => by
        refine hfree k ok hk hki ?_ hno
        by_cases hjk : j = k
        · subst hjk; exact hjun
        · rw [getD_set_ne true hjk] at hun; exact hun
      refine wpOp_mono (fun a' w' h3 => ⟨fun _ => h3.2.1 hun2, ih (listed.setIfInBounds j true) a' w' hfree' (ready_mono hr (Ne.symm hji)) h3.1 hun' (h3.2.1 hun2) ?_⟩) h2
      rw [Array.setIfInBounds_comm _ _ hji]
      exact h3.2.2

theorem wpAnyJ_first0 {i : Nat} {oi : Oper} {v : Value} (hi : ops[i]? = some oi) (hsel : ∀ (j : Nat) (o : Oper) cs b, ops[j]? = some o → o.op ≠ .select cs b)
    (hQ : ∀ c a w, Q (.panic c) (a.put oi.dst v) w → Q (.panic c) a w) (hiL : i ≠ L) :
    ∀ (fuel : Nat) (listed : Array Bool) (a : Act) (w : World),
      (∀ j oj, ops[j]? = some oj → j ≠ i → listed.getD j true = false → (∀ e ∈ oj.after, Region.binds md e = true → e.on ≠ i) → oi.apart ops oj = true) →
      i ∈ Region.ready md ops listed → YieldsIf P ops (fun _ => True) oi v a → (listed.getD L false = false → S w) →
      wpAnyJ P md ops Q S L fuel (listed.setIfInBounds i true) (a.put oi.dst v) w → wpAnyJ P md ops Q S L (fuel + 1) listed a w := by
  intro fuel
  induction fuel with
  | zero =>
    intro listed a w _ hr hy hS H
    refine ⟨fun h => (by rw [h] at hr; cases hr), fun j hj => ?_⟩
    by_cases hji : j = i
    · subst hji; exact hy.wpOp hi trivial ⟨fun q => hS (by rw [getD_set_ne false hiL] at q; exact q), H⟩
    · have := ready_mono hj hji
      rw [H.1] at this
      cases this
  | succ fuel ih =>
    intro listed a w hfree hr hy hS H
    refine ⟨fun h => (by rw [h] at hr; cases hr), fun j hj => ?_⟩
    by_cases hji : j = i
    · subst hji; exact hy.wpOp hi trivial ⟨fun q => hS (by rw [getD_set_ne false hiL] at q; exact q), H⟩
    · have h1 := H.2 j (ready_mono hj hji)
      obtain ⟨hjun, oj, hoj, hall⟩ := mem_ready.1 hj
      have hnot : ∀ e ∈ oj.after, Region.binds md e = true → e.on ≠ i := fun e he hb heq => by
        have h1 := hall e he hb
        have h0 := (mem_ready.1 hr).1
        rw [heq] at h1
        rcases Nat.lt_or_ge i listed.size with h' | h'
        · simp [h'] at h0 h1; rw [h0] at h1; cases h1
        · simp [Array.getElem?_eq_none h'] at h1
      have hun : ∀ (A : Array Bool), (A.setIfInBounds i true).getD L false = A.getD L false := fun A => getD_set_ne false hiL
      have h2 := wpOp_putIf hoj (hfree j oj hoj hji hjun hnot) (fun cs b => hsel i oi cs b hi) (fun cs b => hsel j oj cs b hoj) hQ hy h1
      have hfree' : ∀ k ok, ops[k]? = some ok → k ≠ i → (listed.setIfInBounds j true).getD k true = false →
          (∀ e ∈ ok.after, Region.binds md e = true → e.on ≠ i) → oi.apart ops ok = true := fun k ok hk hki hun hno => by
        refine hfree k ok hk hki ?_ hno
        by_cases hjk : j = k
        · subst hjk; exact hjun
        · rw [getD_set_ne true hjk] at hun; exact hun
      refine wpOp_mono (fun a' w' h3 => ⟨fun q => h3.2.1 (by rw [Array.setIfInBounds_comm _ _ (Ne.symm hji), hun]; exact q), ih (listed.setIfInBounds j true) a' w' hfree' (ready_mono hr (Ne.symm hji)) h3.1 (fun q => h3.2.1 (by rw [Array.setIfInBounds_comm _ _ (Ne.symm hji), hun]; exact q)) ?_⟩) h2
      rw [Array.setIfInBounds_comm _ _ hji]
      exact h3.2.2

theorem wpAnyJ_take {i : Nat} {oi : Oper} {d : Option Tmp} {v : Value} {fuel : Nat} {listed : Array Bool} {a : Act} {w : World} (hi : ops[i]? = some oi) (hd : (ops[i]?).bind (·.dst) = d)
    (hs : Region.noSelect ops = true) (hf : Region.free md ops listed i = true) (hr : (Region.ready md ops listed).contains i = true) (hL : waitsFor md ops L i = true) (hiL : (i == L) = false) (hun : listed.getD L false = false)
    (hQ : ∀ c a w, Q (.panic c) (a.put d v) w → Q (.panic c) a w) (hy : YieldsIf P ops S oi v a) (hS : S w)
    (h : wpAnyJ P md ops Q S L fuel (listed.setIfInBounds i true) (a.put d v) w) : wpAnyJ P md ops Q S L (fuel + 1) listed a w := by
  rw [hi] at hd
  subst hd
  exact wpAnyJ_first hi (Region.noSelect_spec hs) hQ hL (by simpa using hiL) fuel listed a w (Region.free_spec hi hf) (by simpa using hr) hy hun hS h

theorem wpAnyJ_take0 {i : Nat} {oi : Oper} {d : Option Tmp} {v : Value} {fuel : Nat} {listed : Array Bool} {a : Act} {w : World} (hi : ops[i]? = some oi) (hd : (ops[i]?).bind (·.dst) = d)
    (hs : Region.noSelect ops = true) (hf : Region.free md ops listed i = true) (hr : (Region.ready md ops listed).contains i = true) (hiL : (i == L) = false)
    (hQ : ∀ c a w, Q (.panic c) (a.put d v) w → Q (.panic c) a w) (hy : YieldsIf P ops (fun _ => True) oi v a) (hS : listed.getD L false = false → S w)
    (h : wpAnyJ P md ops Q S L fuel (listed.setIfInBounds i true) (a.put d v) w) : wpAnyJ P md ops Q S L (fuel + 1) listed a w := by
  rw [hi] at hd
  subst hd
  exact wpAnyJ_first0 hi (Region.noSelect_spec hs) hQ (by simpa using hiL) fuel listed a w (Region.free_spec hi hf) (by simpa using hr) hy hS h

theorem tk (i : Nat) (d : Option Tmp) {oi : Oper} {v : Value} {fuel : Nat} {listed : Array Bool} {a : Act} {w : World}
    (h : wpAnyJ P md ops Q S L fuel (listed.setIfInBounds i true) (a.put d v) w)
    (hi : ops[i]? = some oi := by rfl) (hd : (ops[i]?).bind (·.dst) = d := by kernel_rfl)
    (hs : Region.noSelect ops = true := by kernel_rfl) (hf : Region.free md ops listed i = true := by decide +kernel) (hr : (Region.ready md ops listed).contains i = true := by decide +kernel) (hL : waitsFor md ops L i = true := by decide +kernel) (hiL : (i == L) = false := by decide) (hun : listed.getD L false = false := by decide +kernel)
    (hQ : ∀ c a w, Q (.panic c) (a.put d v) w → Q (.panic c) a w := by exact fun _ _ _ h => h) (hy : YieldsIf P ops S oi v a := by exact Or.inl ⟨by rfl, by (intro w hSw; (try dsimp only at hSw); go_simp; first | done | exact rfl)⟩) (hS : S w := by assumption) : wpAnyJ P md ops Q S L (fuel + 1) listed a w :=
  wpAnyJ_take hi hd hs hf hr hL hiL hun hQ hy hS h
theorem tk0 (i : Nat) (d : Option Tmp) {oi : Oper} {v : Value} {fuel : Nat} {listed : Array Bool} {a : Act} {w : World}
    (h : wpAnyJ P md ops Q S L fuel (listed.setIfInBounds i true) (a.put d v) w)
    (hi : ops[i]? = some oi := by rfl) (hd : (ops[i]?).bind (·.dst) = d := by kernel_rfl)
    (hs : Region.noSelect ops = true := by kernel_rfl) (hf : Region.free md ops listed i = true := by decide +kernel) (hr : (Region.ready md ops listed).contains i = true := by decide +kernel) (hiL : (i == L) = false := by decide)
    (hQ : ∀ c a w, Q (.panic c) (a.put d v) w → Q (.panic c) a w := by exact fun _ _ _ h => h) (hy : YieldsIf P ops (fun _ => True) oi v a := by exact Or.inl ⟨by rfl, by (intro w hSw; clear hSw; go_simp; first | done | exact rfl)⟩) (hS : listed.getD L false = false → S w := by first | exact fun _ => by assumption | exact fun q => absurd q (by decide +kernel)) : wpAnyJ P md ops Q S L (fuel + 1) listed a w :=
  wpAnyJ_take0 hi hd hs hf hr hiL hQ hy hS h
theorem tk1 (i : Nat) (d : Option Tmp) {oi : Oper} {v : Value} {fuel : Nat} {listed : Array Bool} {a : Act} {w : World}
    (h : wpAnyJ P md ops Q S L fuel (listed.setIfInBounds i true) (a.put d v) w)
    (hi : ops[i]? = some oi := by rfl) (hd : (ops[i]?).bind (·.dst) = d := by kernel_rfl)
    (hs : Region.noSelect ops = true := by kernel_rfl) (hf : Region.free md ops listed i = true := by decide +kernel) (hr : (Region.ready md ops listed).contains i = true := by decide +kernel) (hiL : (i == L) = false := by decide)
    (hQ : ∀ c a w, Q (.panic c) (a.put d v) w → Q (.panic c) a w := by exact fun _ _ _ h => h) (hy : YieldsIf P ops (fun _ => True) oi v a := by exact Or.inr ⟨by rfl, rfl⟩) (hS : listed.getD L false = false → S w := by first | exact fun _ => by assumption | exact fun q => absurd q (by decide +kernel)) : wpAnyJ P md ops Q S L (fuel + 1) listed a w :=
  wpAnyJ_take0 hi hd hs hf hr hiL hQ hy hS h
/-- Where one operation alone may come up: it is carried out. -/
theorem wpAnyJ_one {i : Nat} {o : Oper} {fuel : Nat} {listed : Array Bool} {a : Act} {w : World} (hr : Region.ready md ops listed = [i]) (ho : ops[i]? = some o)
    (h : ∀ K' : Act → World → Prop, Shut (∀ a w, ((listed.setIfInBounds i true).getD L false = false → S w) → (((listed.setIfInBounds i true).getD L false = false → S w) → wpAnyJ P md ops Q S L fuel (listed.setIfInBounds i true) a w) → K' a w) → if Region.wanted o (yielded ops a.tmps) = true then Oper.wp P o a w K' Q else K' (a.put o.dst undef) w) :
    wpAnyJ P md ops Q S L (fuel + 1) listed a w := by
  refine ⟨fun h0 => (by rw [hr] at h0; cases h0), ?_⟩
  rw [hr]
  intro j hj
  obtain rfl : j = i := by simpa using hj
  exact wpOp_step ho (fun K' hK => h K' (fun a w hS hW => hK a w ⟨hS, hW hS⟩))
theorem wpAnyJ_done {listed : Array Bool} {a : Act} {w : World} (hr : Region.ready md ops listed = []) (h : Q .normal a w) : ∀ fuel, wpAnyJ P md ops Q S L fuel listed a w
  | 0 => ⟨hr, h⟩
  | _ + 1 => ⟨fun _ => h, by rw [hr]; simp⟩
theorem wp_region_J {id : Nat} {a : Act} {w : World} (S : World → Prop) (L : Nat) (hm : P.follows .mixedOrders = true) (hS : S w.drew)
    (h : S w.drew → wpAnyJ P .any ops Q S L ops.size (Array.replicate ops.size false) a w.drew) : (Code.region id ops true).wp P Q a w :=
  wp_region_any hm (wpAny_of_J _ _ _ _ (h hS))

def isDefer : Op → Bool | .defer _ => true | _ => false
theorem not_defer {o : Oper} (h : isDefer o.op = false) : ∀ c, o.op ≠ .defer c := fun c e => by rw [e] at h; cases h

theorem oper_round {l n : Nat} {o : Oper} {a : Act} {w : World} {K : Act → World → Prop} (hd : isDefer o.op = false) (h : o.wp P a w K Q) : o.wpIn (Fence.wide.inRound l) n P a w K Q := by
  unfold Oper.wpIn
  refine ⟨fun _ _ => trivial, ?_⟩
  rw [Fence.inRound_round, Oper.semAt_some l _ o (not_defer hd)]
  unfold Oper.wp at h
  generalize (execOp a.eval o).run P w = r at h ⊢
  cases r with
  | ok x w' =>
    cases x <;> simp only [Oper.uponIn, Oper.upon] at h ⊢ <;>
      first
        | exact h
        | exact ⟨fun q => by simp [Fence.wide] at q, CallsIn.inRound l (callsIn_wide.2 h)⟩
        | exact ⟨fun q => by simp [Fence.wide] at q, fun c cs _ => let ⟨v, w'', r, s⟩ := h c cs; ⟨v, w'', r, stepsIn_wide.2 s⟩⟩
        | exact False.elim h
  | halt x w' => cases x <;> simp only [Oper.uponIn, Oper.upon] at h ⊢ <;> exact h

theorem op_round {l n i : Nat} {K : Act → World → Prop} {a : Act} {w : World} (hd : ∀ (j : Nat) (o : Oper), ops[j]? = some o → isDefer o.op = false) (hQ : ¬ LetsOut Q) (h : wpOp P ops Q i K a w) : wpOpIn (Fence.wide.inRound l) n P ops Q i K a w := by
  unfold wpOp at h
  unfold wpOpIn
  cases ho : ops[i]? with
  | none => rw [ho] at h; exact h
  | some o =>
    rw [ho] at h
    dsimp only at h ⊢
    by_cases hw : Region.wanted o (yielded ops a.tmps) = true
    · rw [if_pos hw] at h ⊢
      exact oper_round (hd i o ho) (h.resolve_right (fun q => hQ q.2))
    · rw [if_neg hw] at h ⊢
      exact ⟨fun _ _ => trivial, h⟩
theorem any_round {l n : Nat} (hd : ∀ (j : Nat) (o : Oper), ops[j]? = some o → isDefer o.op = false) (hQ : ¬ LetsOut Q) : ∀ (fuel : Nat) (listed : Array Bool) (a : Act) (w : World), wpAny P md ops Q fuel listed a w → wpAnyIn (Fence.wide.inRound l) n P md ops Q fuel listed a w
  | 0, _, _, _, h => h
  | fuel + 1, _, _, _, h => ⟨h.1, fun i hi => op_round hd hQ (wpOp_mono (fun a' w' h' => any_round hd hQ fuel _ a' w' h') (h.2 i hi))⟩
/-- A drawn region in the round of a range over a function. -/
theorem wpIn_region_J {l n id : Nat} {a : Act} {w : World} (S : World → Prop) (L : Nat) (hm : P.follows .mixedOrders = true) (hd : ops.all (fun o => !isDefer o.op) = true) (hQ : ¬ LetsOut Q) (hS : S w.drew)
    (h : S w.drew → wpAnyJ P .any ops Q S L ops.size (Array.replicate ops.size false) a w.drew) : (Code.region id ops true).wpIn (Fence.wide.inRound l) n P Q a w :=
  wpIn_region_any hm (any_round (fun j o ho => by
    have := (Array.all_eq_true.mp hd) j (Array.getElem?_eq_some_iff.1 ho).1
    rw [(Array.getElem?_eq_some_iff.1 ho).2] at this
    simpa using this) hQ _ _ _ _ (wpAny_of_J _ _ _ _ (h hS)))
end
end Go.Proofs.Ytmjmdnpenpdmhaa.P
