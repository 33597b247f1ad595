/- A range over a function whose iterator keeps state of its own in memory (it writes what it has captured between two rounds): a law of the walk. The prover says what holds where the iterator stands at yield, behind the assignment, behind the body. -/
import Derived.RangeFuncNested
import Derived.RangeFuncBound
import Derived.RangeFuncCalls
import Derived.RangeFuncLeaves
import Derived.RangeFuncRecord
import Derived.WalkKit
namespace Go.Proofs.Ytckaofgkepcibaa.P
open Go Go.RowKit

/-- Where the body of a round may be left. -/
def rfPost {α : Type} (lr D : Nat) (Post : α → World → World → Prop) (Stop : α → World → Code → World → Prop) (x : α) (W1 W2 : World) : Exit → Act → World → Prop
  | .normal, _, W3 => W3.heap[lr]? = W2.heap[lr]? ∧ W3.heap[D]? = W2.heap[D]? ∧ ∀ Ra, Post x W1 (W3.putObj lr Ra)
  | .ret, _, W3 => W3.heap[lr]? = W2.heap[lr]? ∧ W3.heap[D]? = W2.heap[D]? ∧ ∀ Ra, Stop x W1 .ret (W3.putObj lr Ra)
  | .exit id, _, W3 => W3.heap[lr]? = W2.heap[lr]? ∧ W3.heap[D]? = W2.heap[D]? ∧ ∀ Ra, Stop x W1 (.exit id) (W3.putObj lr Ra)
  | .goto t, _, W3 => W3.heap[lr]? = W2.heap[lr]? ∧ W3.heap[D]? = W2.heap[D]? ∧ ∀ Ra, Stop x W1 (.goto t) (W3.putObj lr Ra)
  | .panic _, _, _ => False
  | .outgrown, _, _ => False

theorem rf_law {α : Type} {F : Fence} {n : Nat} {P : Program} {g : Operand} {ps : Array Tmp} {assign body : Code} {Q : Exit → Act → World → Prop} {a : Act} {w : World}
    (hro : F.round = none) (h1 : 1 ≤ n) {gf : Nat} {lb : Array Value} (hg : a.eval g = .func (.func gf) #[] lb) (hFg : F.fn gf) (eg : ∀ args w, (callFunc gf args).run P w = .ok (.enter gf args) w)
    {encs : α → Array Value} (hps : ∀ x, (encs x).size = ps.size)
    (Pre : α → World → Prop) (Mid : α → World → Act → World → Prop) (Post : α → World → World → Prop) (Stop : α → World → Code → World → Prop) (E : World → Prop) (Es : Code → World → Prop)
    (hassign : ∀ (x : α) (W1 : World) (K : Act → World → Prop), Pre x W1 →
      (∀ a' W2, W2.heap[w.heap.size + 1]? = W1.heap[w.heap.size + 1]? → W2.heap[w.heap.size]? = W1.heap[w.heap.size]? → Mid x W1 a' W2 → K a' W2) →
      assign.wpIn (F.inRound (w.heap.size + 1)) (n - 1 - 1) P (Exit.then K (fun _ _ _ => False)) { tmps := (ps.zip (encs x)).foldl (fun t (p, v) => t.setIfInBounds p v) a.tmps, defers := [] } W1)
    (hbody : ∀ (x : α) (W1 : World) (a' : Act) (W2 : World) (Rb : Obj), Mid x W1 a' W2 →
      body.wpIn (F.inRound (w.heap.size + 1)) (n - 1 - 1) P (rfPost (w.heap.size + 1) w.heap.size Post Stop x W1 (W2.putObj (w.heap.size + 1) Rb)) a' (W2.putObj (w.heap.size + 1) Rb))
    (hiter : ∀ (R0 : Obj) (Rs : Code → Obj) (W : World), W = (w.alloc (.deferred (some []))).alloc R0 →
      (∀ x W1, Pre x W1 → W1.heap[w.heap.size + 1]? = some R0 → W1.heap[w.heap.size]? = some (.deferred (some [])) →
        YieldAt F (n - 1 - 1) P (w.heap.size + 1) (encs x) W1 fun e W' =>
          (e = .returned (.bool true) ∧ Post x W1 W' ∧ W'.heap[w.heap.size + 1]? = some R0 ∧ W'.heap[w.heap.size]? = some (.deferred (some []))) ∨
          (e = .returned (.bool false) ∧ ∃ c, Stop x W1 c W' ∧ W'.heap[w.heap.size + 1]? = some (Rs c) ∧ W'.heap[w.heap.size]? = some (.deferred (some [])))) →
      CallsIn F (n - 1) P gf (#[.func (.yield (w.heap.size + 1)) #[] #[]] ++ lb) W fun e W' => (∃ v, e = .returned v) ∧ W'.heap[w.heap.size]? = some (.deferred (some [])) ∧
        ((E W' ∧ W'.heap[w.heap.size + 1]? = some R0) ∨ ∃ c, Es c W' ∧ W'.heap[w.heap.size + 1]? = some (Rs c)))
    (hdone : ∀ (W : World) (Rx : Obj), E W → W.heap[w.heap.size]? = some (.deferred (some [])) → Q .normal { a with defers := { target := .collected w.heap.size, args := #[] } :: a.defers } (W.putObj (w.heap.size + 1) Rx))
    (hstop : ∀ (c : Code) (W : World) (Rx : Obj), Es c W → W.heap[w.heap.size]? = some (.deferred (some [])) → c.wpIn F n P Q { a with defers := { target := .collected w.heap.size, args := #[] } :: a.defers } (W.putObj (w.heap.size + 1) Rx)) :
    (Code.rangeFunc g ps assign body).wpIn F n P Q a w := by
  refine wpIn_rangeFunc fun fn hfn => ?_
  rw [hro]
  let rec_ : LoopState → Option Code → Loop := fun st pe => { state := st, pending := pe, fn, tmps := a.tmps, params := ps, assign, body, defers := w.heap.size }
  have hlk : w.heap.size ≠ w.heap.size + 1 := by omega
  refine ⟨w.heap.size + 1, [{ target := .collected w.heap.size, args := #[] }], (w.alloc (.deferred (some []))).alloc (.loop (rec_ .ready none)), { target := .fn (.func gf) lb, args := #[.func (.yield (w.heap.size + 1)) #[] #[]] },
    (w.alloc (.deferred (some []))).alloc (.loop (rec_ .ready none)), gf, #[.func (.yield (w.heap.size + 1)) #[] #[]] ++ lb, (w.alloc (.deferred (some []))).alloc (.loop (rec_ .ready none)), run_enterLoop_outer _ _ _ _ _, ?_, ?_, ?_, fun _ => h1, ?_⟩
  · simp only [resolve, hg]
    simp [go_sem]
  · intro f' hf'
    simp [Target.leads] at hf'
    subst hf'
    exact hFg
  · simp [invoke, go_sem, eg]
  · refine (hiter (.loop (rec_ .ready none)) (fun c => .loop (rec_ .done (some c))) _ rfl ?_).mono ?_
    · intro x W1 hpre hl hk
      refine ⟨fn, _, assign, body, run_yield hl (hps x), roundIn_of_wpIn hfn (hassign x W1 _ hpre fun a' W2 hl2 hk2 hmid => ⟨_, run_beginRound (hl2.trans hl) rfl, ?_⟩)⟩
      have hlt : w.heap.size + 1 < W2.heap.size := (Array.getElem?_eq_some_iff.1 (hl2.trans hl)).1
      refine wpIn_mono (hbody x W1 a' W2 _ hmid) ?_
      have fin : ∀ (jump : Option Code) (W3 : World), W3.heap[w.heap.size + 1]? = (W2.putObj (w.heap.size + 1) (.loop { rec_ .ready none with state := .busy })).heap[w.heap.size + 1]? →
          W3.heap[w.heap.size]? = (W2.putObj (w.heap.size + 1) (.loop { rec_ .ready none with state := .busy })).heap[w.heap.size]? →
          (Instr.endRound (w.heap.size + 1) jump).run P W3 = .ok (.bool jump.isNone) (W3.putObj (w.heap.size + 1) (.loop (rec_ (if jump.isNone then .ready else .done) jump))) ∧
          (W3.putObj (w.heap.size + 1) (.loop (rec_ (if jump.isNone then .ready else .done) jump))).heap[w.heap.size + 1]? = some (.loop (rec_ (if jump.isNone then .ready else .done) jump)) ∧
          (W3.putObj (w.heap.size + 1) (.loop (rec_ (if jump.isNone then .ready else .done) jump))).heap[w.heap.size]? = some (.deferred (some [])) := fun jump W3 q1 q2 => by
        rw [World.putObj_heap_same hlt] at q1
        rw [World.putObj_heap_other hlk] at q2
        exact ⟨run_endRound jump q1, World.putObj_heap_same (Array.getElem?_eq_some_iff.1 q1).1, (World.putObj_heap_other hlk).trans (q2.trans (hk2.trans hk))⟩
      rintro e a3 W3 hp
      cases e with
      | normal =>
        obtain ⟨q1, q2, q3⟩ := hp
        obtain ⟨r1, r2, r3⟩ := fin none W3 q1 q2
        exact ⟨_, _, r1, .inl ⟨rfl, q3 _, r2, r3⟩⟩
      | ret =>
        obtain ⟨q1, q2, q3⟩ := hp
        obtain ⟨r1, r2, r3⟩ := fin (some .ret) W3 q1 q2
        exact ⟨_, _, r1, .inr ⟨rfl, .ret, q3 _, r2, r3⟩⟩
      | exit id =>
        obtain ⟨q1, q2, q3⟩ := hp
        obtain ⟨r1, r2, r3⟩ := fin (some (.exit id)) W3 q1 q2
        exact ⟨_, _, r1, .inr ⟨rfl, .exit id, q3 _, r2, r3⟩⟩
      | goto t =>
        obtain ⟨q1, q2, q3⟩ := hp
        obtain ⟨r1, r2, r3⟩ := fin (some (.goto t)) W3 q1 q2
        exact ⟨_, _, r1, .inr ⟨rfl, .goto t, q3 _, r2, r3⟩⟩
      | panic ch => exact hp.elim
      | outgrown => exact hp.elim
    · rintro e W2 ⟨⟨v, rfl⟩, hk, (⟨hE, hl⟩ | ⟨c, hE, hl⟩)⟩
      · exact ⟨none, _, run_endLoop hl (by simp [rec_]), hdone _ _ hE hk⟩
      · exact ⟨some c, _, run_endLoop hl (by simp [rec_]), hstop c _ _ hE hk⟩
end Go.Proofs.Ytckaofgkepcibaa.P
