/- What the walks of whole cycles share: the cells that the loop reads, and a drawn region of which two operations may come up. -/
import Derived.Test.YtmjmdnpenpdmhaaPp
import Derived.Test.YtmjmdnpenpdmhaaRo
import Derived.Deep.RegionHeld3
import Derived.Outline
namespace Go.Proofs.Ytmjmdnpenpdmhaa.P
open Go.RowKit Go.Proofs.YtmjmdnpenpdmhaaW.PrintWords Go.Proofs.YtmjmdnpenpdmhaaW.PrintLast Go.Proofs.YtmjmdnpenpdmhaaW.PrintMore
attribute [local go_sem] cell_same1 cell_some1
set_option linter.unusedVariables false
set_option linter.unusedSimpArgs false

theorem wp_abs {P : Program} {c : Code} {Q : Exit → Act → World → Prop} {a : Act} {w : World} (M : World → Prop) (h : M w) (hK : ∀ w', M w' → c.wp P Q a w') : c.wp P Q a w := hK w h
theorem cellB {W W2 : World} {a : Addr} {v : Value} (h : W.cell? a = some v) (hb : Below W.heap.size W W2) : W2.cell? a = some v := (hb.cell (World.block_lt_of_cell? W _ h)).trans h
theorem ab (a : Addr) (n : Nat) : (a.add n).block = a.block := by unfold Addr.add; split <;> rfl
abbrev rule3 (w dw rt : Int) : Array Value := #[.int .i64 w, .int .i64 dw, .int .i64 rt]
abbrev cyc6 (q : Int × Int × Int × Int) (a : Int) (ps : Bool) : Array Value := #[.int .i64 q.1, .int .i64 q.2.1, .int .i64 q.2.2.1, .int .i64 q.2.2.2, .int .i64 a, .bool ps]
/-- What the loop reads: the rule, the cycle, the samples and the panels. -/
structure PL (w0 : World) (g6 g11 : Nat) (A7 : Option Addr) (ad9 : Addr) (w dw rt : Int) (l : List Bool) (pl : List Int) (q : Int × Int × Int × Int) (a : Int) (ps : Bool) (W : World) : Prop where
  below : Below w0.heap.size w0 W
  a6 : W.heap[g6]? = some (.cells (rule3 w dw rt) 23)
  a11 : W.heap[g11]? = some (.cells (cyc6 q a ps) 39)
  lo : w0.heap.size ≤ g11
  n6 : g6 ≠ g11
  bs : ∀ j : Nat, j < l.length → ∃ ad, A7 = some ad ∧ W.cell? (ad.add j) = some (.bool (l.getD j false)) ∧ ad.block ≠ g11
  ps : ∀ j : Nat, j < pl.length → W.cell? (ad9.add j) = some (.int .i64 (pl.getD j 0))
  n9 : ad9.block ≠ g11
theorem keepP {w0 W : World} {g6 g11 : Nat} {A7 : Option Addr} {ad9 ad : Addr} {w dw rt : Int} {l : List Bool} {pl : List Int} {p x y t : Int} {a : Int} {ps b : Bool} {k : Nat} (h : PL w0 g6 g11 A7 ad9 w dw rt l pl (p, x, y, t) a ps W) (hc : W.cell? (ad.add k) = some (.bool b)) :
    (W.cell? ⟨g11, 0, none⟩ = some (.int .i64 p) ∧ W.cell? ⟨g11, 1, none⟩ = some (.int .i64 x) ∧ W.cell? ⟨g11, 2, none⟩ = some (.int .i64 y) ∧ W.cell? ⟨g11, 3, none⟩ = some (.int .i64 t) ∧ W.cell? ⟨g11, 4, none⟩ = some (.int .i64 a) ∧ W.cell? ⟨g11, 5, none⟩ = some (.bool ps)) ∧ (W.cell? ⟨g6, 0, none⟩ = some (.int .i64 w) ∧ W.cell? ⟨g6, 1, none⟩ = some (.int .i64 dw) ∧ W.cell? ⟨g6, 2, none⟩ = some (.int .i64 rt)) ∧ W.cell? (ad.add k) = some (.bool b) :=
  ⟨cz6 h.a11, cz3 h.a6, hc⟩
theorem keepQ {w0 W : World} {g6 g11 : Nat} {A7 : Option Addr} {ad9 : Addr} {w dw rt : Int} {l : List Bool} {pl : List Int} {p x y t : Int} {a : Int} {ps : Bool} (h : PL w0 g6 g11 A7 ad9 w dw rt l pl (p, x, y, t) a ps W) :
    (W.cell? ⟨g11, 0, none⟩ = some (.int .i64 p) ∧ W.cell? ⟨g11, 1, none⟩ = some (.int .i64 x) ∧ W.cell? ⟨g11, 2, none⟩ = some (.int .i64 y) ∧ W.cell? ⟨g11, 3, none⟩ = some (.int .i64 t) ∧ W.cell? ⟨g11, 4, none⟩ = some (.int .i64 a) ∧ W.cell? ⟨g11, 5, none⟩ = some (.bool ps)) ∧ (W.cell? ⟨g6, 0, none⟩ = some (.int .i64 w) ∧ W.cell? ⟨g6, 1, none⟩ = some (.int .i64 dw) ∧ W.cell? ⟨g6, 2, none⟩ = some (.int .i64 rt)) :=
  ⟨cz6 h.a11, cz3 h.a6⟩
section
variable {w0 : World} {g6 g11 : Nat} {A7 : Option Addr} {ad9 : Addr} {w dw rt : Int} {l : List Bool} {pl : List Int} {q : Int × Int × Int × Int} {a : Int} {ps : Bool} {W W2 : World}
theorem PL.step (h : PL w0 g6 g11 A7 ad9 w dw rt l pl q a ps W) (hb : Below W.heap.size W W2) : PL w0 g6 g11 A7 ad9 w dw rt l pl q a ps W2 :=
  ⟨below_step h.below hb, blk_below h.a6 hb, blk_below h.a11 hb, h.lo, h.n6, fun j hj => by obtain ⟨ad, e, h1, h2⟩ := h.bs j hj; exact ⟨ad, e, cellB h1 hb, h2⟩, fun j hj => cellB (h.ps j hj) hb, h.n9⟩
theorem PL.put (h : PL w0 g6 g11 A7 ad9 w dw rt l pl q a ps W) (q' : Int × Int × Int × Int) (a' : Int) (ps' : Bool) :
    PL w0 g6 g11 A7 ad9 w dw rt l pl q' a' ps' ((((((W.setCell ⟨g11, 0, none⟩ (.int .i64 q'.1)).setCell ⟨g11, 1, none⟩ (.int .i64 q'.2.1)).setCell ⟨g11, 2, none⟩ (.int .i64 q'.2.2.1)).setCell ⟨g11, 3, none⟩ (.int .i64 q'.2.2.2)).setCell ⟨g11, 4, none⟩ (.int .i64 a')).setCell ⟨g11, 5, none⟩ (.bool ps')) := by
  have far : ∀ {x : Addr} {v : Value} (W : World) (n : Nat) (u : Value), x.block ≠ g11 → W.cell? x = some v → (W.setCell ⟨g11, n, none⟩ u).cell? x = some v := fun {x v} W n u hx hc => (World.cell?_setCell_other W _ _ u (fun e => hx (by rw [← e]))).trans hc
  refine ⟨below_set (below_set (below_set (below_set (below_set (below_set h.below h.lo) h.lo) h.lo) h.lo) h.lo) h.lo, ?_, ?_, h.lo, h.n6, fun j hj => ?_, fun j hj => ?_, h.n9⟩
  · exact blk_far (blk_far (blk_far (blk_far (blk_far (blk_far h.a6 h.n6 _) h.n6 _) h.n6 _) h.n6 _) h.n6 _) h.n6 _
  · exact (blk_set (blk_set (blk_set (blk_set (blk_set (blk_set h.a11 0 _) 1 _) 2 _) 3 _) 4 _) 5 _).trans rfl
  · obtain ⟨ad, e, h1, h2⟩ := h.bs j hj
    have h3 : (ad.add j).block ≠ g11 := by rw [ab]; exact h2
    exact ⟨ad, e, far _ _ _ h3 (far _ _ _ h3 (far _ _ _ h3 (far _ _ _ h3 (far _ _ _ h3 (far _ _ _ h3 h1))))), h2⟩
  · have h3 : (ad9.add j).block ≠ g11 := by rw [ab]; exact h.n9
    exact far _ _ _ h3 (far _ _ _ h3 (far _ _ _ h3 (far _ _ _ h3 (far _ _ _ h3 (far _ _ _ h3 (h.ps j hj))))))
end

theorem wpAnyJ_two {P : Program} {md : Region.Mode} {ops : Array Oper} {Q : Exit → Act → World → Prop} {S : World → Prop} {L i j : Nat} {o o2 : Oper} {fuel : Nat} {listed : Array Bool} {a : Act} {w : World} (hr : Region.ready md ops listed = [i, j]) (ho : ops[i]? = some o) (ho2 : ops[j]? = some o2)
    (h : ∀ K' : Act → World → Prop, Shut (∀ a w, ((listed.setIfInBounds i true).getD L false = false → S w) → (((listed.setIfInBounds i true).getD L false = false → S w) → wpAnyJ P md ops Q S L fuel (listed.setIfInBounds i true) a w) → K' a w) → if Region.wanted o (yielded ops a.tmps) = true then Oper.wp P o a w K' Q else K' (a.put o.dst undef) w)
    (h2 : ∀ K' : Act → World → Prop, Shut (∀ a w, ((listed.setIfInBounds j true).getD L false = false → S w) → (((listed.setIfInBounds j true).getD L false = false → S w) → wpAnyJ P md ops Q S L fuel (listed.setIfInBounds j true) a w) → K' a w) → if Region.wanted o2 (yielded ops a.tmps) = true then Oper.wp P o2 a w K' Q else K' (a.put o2.dst undef) w) :
    wpAnyJ P md ops Q S L (fuel + 1) listed a w := by
  refine ⟨fun h0 => (by rw [hr] at h0; cases h0), ?_⟩
  rw [hr]
  intro z hz
  obtain rfl | rfl : z = i ∨ z = j := by simpa using hz
  · exact wpOp_step ho (fun K' hK => h K' (fun a w hS hW => hK a w ⟨hS, hW hS⟩))
  · exact wpOp_step ho2 (fun K' hK => h2 K' (fun a w hS hW => hK a w ⟨hS, hW hS⟩))
theorem keepS {w0 W : World} {g6 g11 g15 : Nat} {A7 : Option Addr} {ad9 : Addr} {w dw rt : Int} {l : List Bool} {pl : List Int} {q : Int × Int × Int × Int} {p' x' y' t' : Int} {a b : Int} {ps bs : Bool} {k : Nat} (h : PL w0 g6 g11 A7 ad9 w dw rt l pl q a ps W) (h15 : W.heap[g15]? = some (.cells (cyc6 (p', x', y', t') b bs) 39)) (hp : pl.getD k 0 = x') (hk : k < pl.length) :
    (W.cell? ⟨g15, 0, none⟩ = some (.int .i64 p') ∧ W.cell? ⟨g15, 1, none⟩ = some (.int .i64 x') ∧ W.cell? ⟨g15, 2, none⟩ = some (.int .i64 y') ∧ W.cell? ⟨g15, 3, none⟩ = some (.int .i64 t') ∧ W.cell? ⟨g15, 4, none⟩ = some (.int .i64 b) ∧ W.cell? ⟨g15, 5, none⟩ = some (.bool bs)) ∧ W.cell? (ad9.add k) = some (.int .i64 x') :=
  ⟨cz6 h15, by rw [← hp]; exact h.ps k hk⟩
theorem keepR {w0 W : World} {g6 g11 g15 : Nat} {A7 : Option Addr} {ad9 : Addr} {w dw rt : Int} {l : List Bool} {pl : List Int} {q : Int × Int × Int × Int} {p' x' y' t' : Int} {a b : Int} {ps bs : Bool} {k : Nat} (h : PL w0 g6 g11 A7 ad9 w dw rt l pl q a ps W) (h15 : W.heap[g15]? = some (.cells (cyc6 (p', x', y', t') b bs) 39)) (n15 : g15 ≠ g11) (hp : pl.getD k 0 = x') (hk : k < pl.length) {b1 b2 b3 b4 b5 : Int} {b6 : Bool} :
    ((((((((W.setCell ⟨g11, 0, none⟩ (.int .i64 b1)).setCell ⟨g11, 1, none⟩ (.int .i64 b2)).setCell ⟨g11, 2, none⟩ (.int .i64 b3)).setCell ⟨g11, 3, none⟩ (.int .i64 b4)).setCell ⟨g11, 4, none⟩ (.int .i64 b5)).setCell ⟨g11, 5, none⟩ (.bool b6))).drew.cell? ⟨g15, 0, none⟩ = some (.int .i64 p') ∧ ((((((W.setCell ⟨g11, 0, none⟩ (.int .i64 b1)).setCell ⟨g11, 1, none⟩ (.int .i64 b2)).setCell ⟨g11, 2, none⟩ (.int .i64 b3)).setCell ⟨g11, 3, none⟩ (.int .i64 b4)).setCell ⟨g11, 4, none⟩ (.int .i64 b5)).setCell ⟨g11, 5, none⟩ (.bool b6)).drew.cell? ⟨g15, 1, none⟩ = some (.int .i64 x') ∧ ((((((W.setCell ⟨g11, 0, none⟩ (.int .i64 b1)).setCell ⟨g11, 1, none⟩ (.int .i64 b2)).setCell ⟨g11, 2, none⟩ (.int .i64 b3)).setCell ⟨g11, 3, none⟩ (.int .i64 b4)).setCell ⟨g11, 4, none⟩ (.int .i64 b5)).setCell ⟨g11, 5, none⟩ (.bool b6)).drew.cell? ⟨g15, 2, none⟩ = some (.int .i64 y') ∧ ((((((W.setCell ⟨g11, 0, none⟩ (.int .i64 b1)).setCell ⟨g11, 1, none⟩ (.int .i64 b2)).setCell ⟨g11, 2, none⟩ (.int .i64 b3)).setCell ⟨g11, 3, none⟩ (.int .i64 b4)).setCell ⟨g11, 4, none⟩ (.int .i64 b5)).setCell ⟨g11, 5, none⟩ (.bool b6)).drew.cell? ⟨g15, 3, none⟩ = some (.int .i64 t') ∧ ((((((W.setCell ⟨g11, 0, none⟩ (.int .i64 b1)).setCell ⟨g11, 1, none⟩ (.int .i64 b2)).setCell ⟨g11, 2, none⟩ (.int .i64 b3)).setCell ⟨g11, 3, none⟩ (.int .i64 b4)).setCell ⟨g11, 4, none⟩ (.int .i64 b5)).setCell ⟨g11, 5, none⟩ (.bool b6)).drew.cell? ⟨g15, 4, none⟩ = some (.int .i64 b) ∧ ((((((W.setCell ⟨g11, 0, none⟩ (.int .i64 b1)).setCell ⟨g11, 1, none⟩ (.int .i64 b2)).setCell ⟨g11, 2, none⟩ (.int .i64 b3)).setCell ⟨g11, 3, none⟩ (.int .i64 b4)).setCell ⟨g11, 4, none⟩ (.int .i64 b5)).setCell ⟨g11, 5, none⟩ (.bool b6)).drew.cell? ⟨g15, 5, none⟩ = some (.bool bs)) ∧ ((((((W.setCell ⟨g11, 0, none⟩ (.int .i64 b1)).setCell ⟨g11, 1, none⟩ (.int .i64 b2)).setCell ⟨g11, 2, none⟩ (.int .i64 b3)).setCell ⟨g11, 3, none⟩ (.int .i64 b4)).setCell ⟨g11, 4, none⟩ (.int .i64 b5)).setCell ⟨g11, 5, none⟩ (.bool b6)).drew.cell? (ad9.add k) = some (.int .i64 x') :=
  keepS ((h.put (b1, b2, b3, b4) b5 b6).step (below_drew1 (Below.refl _ _))) (blk_drew (blk_far (blk_far (blk_far (blk_far (blk_far (blk_far h15 n15 _) n15 _) n15 _) n15 _) n15 _) n15 _)) hp hk
theorem dput {w0 W : World} {g6 g11 : Nat} {A7 : Option Addr} {ad9 : Addr} {w dw rt : Int} {l : List Bool} {pl : List Int} {q : Int × Int × Int × Int} {a : Int} {ps : Bool} (h : PL w0 g6 g11 A7 ad9 w dw rt l pl q a ps W) (b1 b2 b3 b4 b5 : Int) (b6 : Bool) :
    PL w0 g6 g11 A7 ad9 w dw rt l pl (b1, b2, b3, b4) b5 b6 ((((((W.setCell ⟨g11, 0, none⟩ (.int .i64 b1)).setCell ⟨g11, 1, none⟩ (.int .i64 b2)).setCell ⟨g11, 2, none⟩ (.int .i64 b3)).setCell ⟨g11, 3, none⟩ (.int .i64 b4)).setCell ⟨g11, 4, none⟩ (.int .i64 b5)).setCell ⟨g11, 5, none⟩ (.bool b6)).drew := (h.put (b1, b2, b3, b4) b5 b6).step (below_drew1 (Below.refl _ _))
end Go.Proofs.Ytmjmdnpenpdmhaa.P
