import Derived.Test.YtmdcjmackhjchaaProg
import Derived.Below
import Derived.Deep.Draws
import Derived.Deep.AppendLies
import Derived.Maps.AppendAt
import Derived.OwnWalk
import Derived.Laws.BytesArg
import Derived.Laws.MakeOwn
import Derived.Laws.OwnMore
import Derived.Deep.OwnRows
import Derived.Tactics
import Derived.Lib.ConvBytes
import Derived.Laws.Slices
import Derived.WalkKit
import Derived.KernelRfl
import Derived.RowKit3
import Derived.Deep.LoopGhost
import Derived.Deep.QuietTactic
import Derived.BigQuiet
import Derived.WideLaws
import Derived.Deep.DeepCutAuto
import Derived.Deep.CutBlock
import Derived.Deep.RegionHeld3
import Derived.Laws.Rows
import Derived.Lib.AppendStr
import Derived.ArgAppend
import Derived.Laws.IdiomCopy
import Derived.OrdersHeld
import Derived.Laws.BitsLemmas
import Derived.RowKit
import Derived.Deep.MidRow
import Derived.Test.YtmdcjmackhjchaaZaa
import Derived.Test.YtmdcjmackhjchaaZab
import Derived.Test.YtmdcjmackhjchaaZac
section
-- Printed by wip/myprint.py of this repo (over the kit's printer). Not trusted: Lean checks it.
namespace Go.Proofs.Ytmdcjmackhjchaa.P
open Go.RowKit Go.Proofs.YtmdcjmackhjchaaW.PrintWords Go.Proofs.YtmdcjmackhjchaaW.PrintLast Go.Proofs.YtmdcjmackhjchaaW.PrintMore
attribute [local go_sem] max2_int min2_int max_two min_two max_three min_three max_four min_four   -- for this text's walks alone
set_option linter.unusedVariables false
set_option linter.unusedSimpArgs false

def errW : Option Int → Value
  | none => .nilIface
  | some c => .iface 0 (.int .i64 c)
theorem errW_none : errW none = .nilIface := rfl
theorem errW_some (c : Int) : errW (some c) = .iface 0 (.int .i64 c) := rfl

theorem info3 : (Try.prog.info? 3).map (fun i => (i.zero, i.size, i.bytes)) = some (some (.int .i64 0), 1, 8) := by kernel_rfl
theorem info22 : (Try.prog.info? 22).map (fun i => (i.zero, i.size, i.bytes)) = some (some (.slice none 0 0), 1, 24) := by kernel_rfl
-- the values' own types
def rd_L1 (xs : List (List Int)) (i : Int) : (List Int) := xs.getD i.toNat ([] : List Int)
theorem at_L1 {w : World} {A : Option Addr} {n : Nat} {xs : List (List Int)} (h : Kd.C (Kd.slice 3 (Kd.int .i64)) w A n xs) (i : Int) (h0 : 0 ≤ i) (h1 : i < n) : ∃ ad A0 c0, A = some ad ∧ w.cell? (ad.add i.toNat) = some (.slice A0 (rd_L1 xs i).length c0) ∧ (rd_L1 xs i).length ≤ c0 ∧ (Kd.int .i64).C w A0 (rd_L1 xs i).length (rd_L1 xs i) := by
  obtain ⟨ad, c, e, _, hK, hc0⟩ := Kd.C_get h ([] : List Int) i h0 h1
  have hc : ∀ j u, c[j]? = some u → w.cell? (ad.add (i.toNat * 1 + j)) = some u := hc0
  obtain ⟨A0, c0, rfl, l0, g0⟩ := hK
  exact ⟨ad, A0, c0, e, by have hq := hc 0 _ rfl; rwa [Nat.mul_one, Nat.add_zero] at hq, l0, g0⟩

theorem cell_same1 {W : World} {a : Addr} {v : Value} (h : (W.cell? a).isSome = true) : (W.setCell a v).cell? a = some v := by
  obtain ⟨x, hx⟩ := Option.isSome_iff_exists.mp h
  exact World.cell?_setCell_same W a v hx
theorem cell_some1 {W : World} {a b : Addr} {v : Value} : ((W.setCell b v).cell? a).isSome = (W.cell? a).isSome := by
  by_cases e : b = a
  · subst e
    simp only [World.setCell, World.cell?, Array.getElem?_modify, ↓reduceIte]
    cases hh : W.heap[b.block]? with
    | none => simp
    | some x => cases x <;> simp <;> cases hs : b.spot <;> simp [Array.getElem?_setIfInBounds] <;> split <;> simp_all
  · rw [World.cell?_setCell_other W b a v e]
section
variable {P : Program} {ops : Array Oper} {Q : Exit → Act → World → Prop} {rest : List Oper} {o : Oper} {a : Act}
theorem bkt {A B : Prop} (h : A) (t : A → B := by
    intro k
    repeat' (first | (with_reducible exact k) | (with_reducible apply blk_drewN) | (with_reducible apply blk_drew) | (with_reducible apply blk_alloc) | (with_reducible apply blk_put) | (with_reducible apply blk_far) | (with_reducible exact Aside0.out (by assumption)))
    all_goals first | (simp only [List.setIfInBounds_toArray, List.set_cons_zero, List.set_cons_succ]; done) | (simp only [List.setIfInBounds_toArray, List.set_cons_zero, List.set_cons_succ]; rfl) | rfl) : B := t h
theorem bkb {w W w1 : World} {g : Nat} {o : Obj} (h : w.heap[g]? = some o) (hb : Below W.heap.size W w1) (t : w.heap[g]? = some o → W.heap[g]? = some o := by
    intro k
    repeat (first | (with_reducible exact k) | (with_reducible refine blk_drewN ?_ _) | (with_reducible refine blk_drew ?_) | (with_reducible refine blk_alloc ?_ _) | (with_reducible refine blk_far ?_ (Aside0.out (by assumption)) _))) : w1.heap[g]? = some o := blk_below (t h) hb
theorem bkl {w W : World} {g e : Nat} {o : Obj} (hg : e = W.heap.size) (h : w.heap[g]? = some o) (t : w.heap[g]? = some o → W.heap[g]? = some o := by
    intro k
    repeat (first | (with_reducible exact k) | (with_reducible refine blk_drewN ?_ _) | (with_reducible refine blk_drew ?_) | (with_reducible refine blk_alloc ?_ _) | (with_reducible refine blk_far ?_ (Aside0.out (by assumption)) _))) : g ≠ e := by
  rw [hg]; exact Nat.ne_of_lt (blk_lt (t h))
theorem bkg {w W : World} {g e : Nat} {o : Obj} (hg : e = W.heap.size) (h : w.heap[g]? = some o) (t : w.heap[g]? = some o → W.heap[g]? = some o := by
    intro k
    repeat (first | (with_reducible exact k) | (with_reducible refine blk_drewN ?_ _) | (with_reducible refine blk_drew ?_) | (with_reducible refine blk_alloc ?_ _) | (with_reducible refine blk_far ?_ (Aside0.out (by assumption)) _))) : e ≠ g := by
  rw [hg]; exact Nat.ne_of_gt (blk_lt (t h))
theorem bel {A B : Prop} (h : A) (t : A → B := by
    intro k
    repeat (first | (with_reducible first | exact k | apply below_alloc | apply pw_below_drewN | apply below_drew1 | refine below_set ?_ (Aside0.out (by assumption))) | exact k)) : B := t h
theorem kdt {A B : Prop} (h : A) (t : A → B := by
    intro k
    (with_reducible repeat (first | apply Kd.R_alloc | apply Kd.R_drewN | apply Kd.R_drew))
    exact k) : B := t h
theorem bst {w w0 W w1 : World} (h : Below w.heap.size w w0) (hb : Below W.heap.size W w1) (t : Below w.heap.size w w0 → Below w.heap.size w W := by
    intro k
    repeat (first | (with_reducible first | exact k | apply below_alloc | apply pw_below_drewN | apply below_drew1 | refine below_set ?_ (Aside0.out (by assumption))) | exact k)) : Below w.heap.size w w1 := below_step (t h) hb
theorem bsz {w w0 W : World} (h : Below w.heap.size w w0) (t : Below w.heap.size w w0 → Below w.heap.size w W := by
    intro k
    repeat (first | (with_reducible first | exact k | apply below_alloc | apply pw_below_drewN | apply below_drew1 | refine below_set ?_ (Aside0.out (by assumption))) | exact k)) : w.heap.size ≤ W.heap.size := below_size (t h)
theorem bge {w w0 W : World} {e : Nat} (hg : e = W.heap.size) (h : Below w.heap.size w w0) (t : Below w.heap.size w w0 → Below w.heap.size w W := by
    intro k
    repeat (first | (with_reducible first | exact k | apply below_alloc | apply pw_below_drewN | apply below_drew1 | refine below_set ?_ (Aside0.out (by assumption))) | exact k)) : w.heap.size ≤ e := by
  rw [hg]; exact below_size (t h)
theorem bfin {A B : Prop} (h : B) (t : A := by first | rfl | (simp [errW_none, errW_some] <;> rfl) | (simp [*, errW_none, errW_some] <;> rfl)) : A ∧ B := ⟨t, h⟩
theorem bxe {W : World} {cs : Array Value} {t : TypeId} {N : Tmp}
    (h : ∀ g, g = W.heap.size → ∀ w1, w1.heap[g]? = some (.cells cs t (0, 0)) → Below W.heap.size W w1 → wpList P ops Q rest (a.put o.dst (.pointer (some ⟨g, 0, none⟩))) w1)
    (hd : o.dst = some N := by rfl) (hgd : o.guard = none := by rfl)
    (hrun : (execOp a.eval o).run P W = .ok (.value (.pointer (some ⟨W.heap.size, 0, none⟩))) (W.alloc (.cells cs t (0, 0))) := by first | (go_simp; done) | (go_simp; rfl)) : wpList P ops Q (o :: rest) a W :=
  box_event hgd hd hrun h
theorem gsl {oi : Oper} {w : World} (N : Option Tmp) {f : FuncId} {fn : Func} {ag : Array Operand} {ts : Array TypeId} (hf : P.funcs[f]? = some fn) (args : Array Value)
    (h : Calls P f args w fun e w' => ∃ v, e = .returned v ∧ wpList P ops Q rest (a.put N v) w') (hd : oi.dst = N := by rfl) (hg : oi.guard = none := by rfl) (hname : (fn.name == "runtime.NumGoroutine") = false := by kernel_rfl) (hb : fn.body.isSome = true := by rfl)
    (hop : oi.op = .call { callee := .value (.func f), args := ag, argTypes := ts } := by rfl) (hargs : ag.map a.eval = args := by (try simp only [List.map_toArray, List.map_cons, List.map_nil]); first | done | rfl | (simp only [List.length_drop, List.length_take]; rfl)) : wpList P ops Q (oi :: rest) a w :=
  goesL_ N hd hg hf hname hb args hop hargs h
end
section
variable {P : Program} {ops : Array Oper} {Q : Exit → Act → World → Prop} {md : Region.Mode} {S : World → Prop} {ds : List Nat}
def bl : Nat → Nat → List Bool
  | 0, _ => []
  | n + 1, x => (x % 2 == 1) :: bl n (x / 2)
def bm (n x : Nat) : Array Bool := ⟨bl n x⟩
variable {oi : Oper} {v : Value} {fuel : Nat} {l : Array Bool} {a a' : Act} {w : World} {T : Bool × List (List Nat × List Nat)} {B : List Nat}
theorem pur (i : Nat) (N : Option Tmp) (l' : Array Bool) (hT : rtab md ops = T) (h : wpAnyLast P md ops Q S ds fuel l' a' w)
    (hi : ops[i]? = some oi := by rfl) (hN : oi.dst = N := by rfl) (hc : anyT T l.toList l'.toList i = true := by kernel_rfl) (hQ : ∀ c a w, Q (.panic c) (a.put oi.dst v) w → Q (.panic c) a w := by exact fun _ _ _ h => h)
    (hy : Yields P ops oi v a := by exact Or.inl ⟨by rfl, by (intro w'; go_simp; with_reducible rfl)⟩)
    (ha : a.put N v = a' := by (simp only [Act.put, List.setIfInBounds_toArray, List.set_cons_zero, List.set_cons_succ, i64_w, i32_w]; rfl)) : wpAnyLast P md ops Q S ds (fuel + 1) l a w :=
  pure_ l' hi hN (any_of hT hc) hQ hy ha h
theorem tkp (i : Nat) (N : Option Tmp) (l' : Array Bool) (hT : rtab md ops = T) (hB : waitsOk T.2 B = true) (hS : S w) (h : wpAnyLast P md ops Q S ds fuel l' a' w)
    (hi : ops[i]? = some oi := by rfl) (hN : oi.dst = N := by rfl) (hc : takeW T B ds l.toList l'.toList i = true := by kernel_rfl) (hQ : ∀ c a w, Q (.panic c) (a.put oi.dst v) w → Q (.panic c) a w := by exact fun _ _ _ h => h)
    (hy : YieldsIf P ops S oi v a := by exact Or.inl ⟨by rfl, by (intro w' hs; (try dsimp only at hs); go_simp; with_reducible rfl)⟩)
    (ha : a.put N v = a' := by (simp only [Act.put, List.setIfInBounds_toArray, List.set_cons_zero, List.set_cons_succ, i64_w, i32_w]; rfl)) : wpAnyLast P md ops Q S ds (fuel + 1) l a w :=
  take_ l' hi hN (take_ofW hT hB hc) hQ hy hS ha h
end
section
variable {w : World} {g : Nat} {t : TypeId}
theorem cz3 {v0 v1 v2 : Value} (h : w.heap[g]? = some (.cells #[v0, v1, v2] t (0, 0))) : w.cell? ⟨g, 0, none⟩ = some v0 ∧ w.cell? ⟨g, 1, none⟩ = some v1 ∧ w.cell? ⟨g, 2, none⟩ = some v2 :=
  ⟨(blk_cell h 0).trans rfl, (blk_cell h 1).trans rfl, (blk_cell h 2).trans rfl⟩
theorem cz4 {v0 v1 v2 v3 : Value} (h : w.heap[g]? = some (.cells #[v0, v1, v2, v3] t (0, 0))) : w.cell? ⟨g, 0, none⟩ = some v0 ∧ w.cell? ⟨g, 1, none⟩ = some v1 ∧ w.cell? ⟨g, 2, none⟩ = some v2 ∧ w.cell? ⟨g, 3, none⟩ = some v3 :=
  ⟨(blk_cell h 0).trans rfl, (blk_cell h 1).trans rfl, (blk_cell h 2).trans rfl, (blk_cell h 3).trans rfl⟩
theorem cz5 {v0 v1 v2 v3 v4 : Value} (h : w.heap[g]? = some (.cells #[v0, v1, v2, v3, v4] t (0, 0))) : w.cell? ⟨g, 0, none⟩ = some v0 ∧ w.cell? ⟨g, 1, none⟩ = some v1 ∧ w.cell? ⟨g, 2, none⟩ = some v2 ∧ w.cell? ⟨g, 3, none⟩ = some v3 ∧ w.cell? ⟨g, 4, none⟩ = some v4 :=
  ⟨(blk_cell h 0).trans rfl, (blk_cell h 1).trans rfl, (blk_cell h 2).trans rfl, (blk_cell h 3).trans rfl, (blk_cell h 4).trans rfl⟩
theorem cz25 {v0 v1 v2 v3 v4 v5 v6 v7 v8 v9 v10 v11 v12 v13 v14 v15 v16 v17 v18 v19 v20 v21 v22 v23 v24 : Value} (h : w.heap[g]? = some (.cells #[v0, v1, v2, v3, v4, v5, v6, v7, v8, v9, v10, v11, v12, v13, v14, v15, v16, v17, v18, v19, v20, v21, v22, v23, v24] t (0, 0))) : w.cell? ⟨g, 0, none⟩ = some v0 ∧ w.cell? ⟨g, 1, none⟩ = some v1 ∧ w.cell? ⟨g, 2, none⟩ = some v2 ∧ w.cell? ⟨g, 3, none⟩ = some v3 ∧ w.cell? ⟨g, 4, none⟩ = some v4 ∧ w.cell? ⟨g, 5, none⟩ = some v5 ∧ w.cell? ⟨g, 6, none⟩ = some v6 ∧ w.cell? ⟨g, 7, none⟩ = some v7 ∧ w.cell? ⟨g, 8, none⟩ = some v8 ∧ w.cell? ⟨g, 9, none⟩ = some v9 ∧ w.cell? ⟨g, 10, none⟩ = some v10 ∧ w.cell? ⟨g, 11, none⟩ = some v11 ∧ w.cell? ⟨g, 12, none⟩ = some v12 ∧ w.cell? ⟨g, 13, none⟩ = some v13 ∧ w.cell? ⟨g, 14, none⟩ = some v14 ∧ w.cell? ⟨g, 15, none⟩ = some v15 ∧ w.cell? ⟨g, 16, none⟩ = some v16 ∧ w.cell? ⟨g, 17, none⟩ = some v17 ∧ w.cell? ⟨g, 18, none⟩ = some v18 ∧ w.cell? ⟨g, 19, none⟩ = some v19 ∧ w.cell? ⟨g, 20, none⟩ = some v20 ∧ w.cell? ⟨g, 21, none⟩ = some v21 ∧ w.cell? ⟨g, 22, none⟩ = some v22 ∧ w.cell? ⟨g, 23, none⟩ = some v23 ∧ w.cell? ⟨g, 24, none⟩ = some v24 :=
  ⟨(blk_cell h 0).trans rfl, (blk_cell h 1).trans rfl, (blk_cell h 2).trans rfl, (blk_cell h 3).trans rfl, (blk_cell h 4).trans rfl, (blk_cell h 5).trans rfl, (blk_cell h 6).trans rfl, (blk_cell h 7).trans rfl, (blk_cell h 8).trans rfl, (blk_cell h 9).trans rfl, (blk_cell h 10).trans rfl, (blk_cell h 11).trans rfl, (blk_cell h 12).trans rfl, (blk_cell h 13).trans rfl, (blk_cell h 14).trans rfl, (blk_cell h 15).trans rfl, (blk_cell h 16).trans rfl, (blk_cell h 17).trans rfl, (blk_cell h 18).trans rfl, (blk_cell h 19).trans rfl, (blk_cell h 20).trans rfl, (blk_cell h 21).trans rfl, (blk_cell h 22).trans rfl, (blk_cell h 23).trans rfl, (blk_cell h 24).trans rfl⟩
section
variable {P : Program} {ops : Array Oper} {Q : Exit → Act → World → Prop} {rest : List Oper} {o : Oper} {a : Act}
theorem lwx {W : World} {g : Nat} {cs : List Value} {t : TypeId} {N : Tmp} {x : Operand} {d : TypeDesc} (hb : W.heap[g]? = some (.cells cs.toArray t (0, 0)))
    (h : wpList P ops Q rest (a.put (some N) (.agg cs.toArray)) W)
    (ho : o.op = .load t x := by rfl) (hd : o.dst = some N := by rfl) (hgd : o.guard = none := by rfl)
    (hx : a.eval x = .pointer (some ⟨g, 0, none⟩) := by rfl) (hu : P.underlying t = some d := by assumption) (hdr : d.isRow = true := by rfl) (hi : (P.info? t).map (·.size) = some cs.length := by kernel_rfl) :
    wpList P ops Q (o :: rest) a W := by
  refine wpList_load_mid hgd t x ho g 0 hx cs d ?_ hu hdr hi ?_
  · intro j v hj
    rw [Nat.zero_add, blk_cell hb j]
    simpa using hj
  · rw [hd]
    exact h
theorem lwx2 {W : World} {g : Nat} {c0 : Array Value} {cs : List Value} {t : TypeId} {N : Tmp} {x : Operand} {d : TypeDesc} (hb : W.heap[g]? = some (.cells c0 t (0, 0)))
    (h : wpList P ops Q rest (a.put (some N) (.agg cs.toArray)) W)
    (ho : o.op = .load t x := by rfl) (hd : o.dst = some N := by rfl) (hgd : o.guard = none := by rfl)
    (hx : a.eval x = .pointer (some ⟨g, 0, none⟩) := by rfl) (hc : c0 = cs.toArray := by (simp only [List.setIfInBounds_toArray, List.set_cons_zero, List.set_cons_succ]); first | done | rfl) (hu : P.underlying t = some d := by assumption) (hdr : d.isRow = true := by rfl) (hi : (P.info? t).map (·.size) = some cs.length := by kernel_rfl) :
    wpList P ops Q (o :: rest) a W := by
  subst hc
  exact lwx hb h ho hd hgd hx hu hdr hi
end
section
variable {P : Program} {d : Nat} {xs ys : Array Value} {a0 b0 a1 b1 a2 b2 : Value} {r0 r1 r2 : Bool} {w : World}
theorem arr3_of {t e : TypeId} {n : Nat} (hu : P.underlying t = some (.array 3 e)) (hn : (sizeOf e).run P w = .ok n w)
    (h0 : (part e xs 0).run P w = .ok a0 w) (g0 : (part e ys 0).run P w = .ok b0 w) (q0 : (Op.equalIn d e a0 b0).run P w = .ok r0 w)
    (h1 : (part e xs n).run P w = .ok a1 w) (g1 : (part e ys n).run P w = .ok b1 w) (q1 : (Op.equalIn d e a1 b1).run P w = .ok r1 w)
    (h2 : (part e xs (2 * n)).run P w = .ok a2 w) (g2 : (part e ys (2 * n)).run P w = .ok b2 w) (q2 : (Op.equalIn d e a2 b2).run P w = .ok r2 w) :
    (Op.equalIn (d + 1) t (.agg xs) (.agg ys)).run P w = .ok (r0 && (r1 && r2)) w := by
  have hU : (underlying t).run P w = .ok (.array 3 e) w := by simp [underlying, hu, go_sem]
  rw [Op.equalIn]
  simp only [Sem.run_bind, hU, Result.andThen_ok]
  simp [Sem.run_bind, hn, Std.Legacy.Range.forIn_eq_forIn_range', List.range'_succ, h0, g0, q0, h1, g1, q1, h2, g2, q2]
  cases r0 <;> cases r1 <;> cases r2 <;> simp
end

end
theorem ix27_0 (w : World) (v0 v1 v2 v3 v4 v5 v6 v7 v8 : Value) : Sem.run Try.prog (Instr.index 27 (.agg #[v0, v1, v2, v3, v4, v5, v6, v7, v8]) (.int .i64 0)) w = .ok (.agg #[v0, v1, v2]) w := by
  have h1 := Try.underlying27
  have h2 := Try.underlying26
  simp [Instr.index, go_sem]
  try rfl
theorem ix27_1 (w : World) (v0 v1 v2 v3 v4 v5 v6 v7 v8 : Value) : Sem.run Try.prog (Instr.index 27 (.agg #[v0, v1, v2, v3, v4, v5, v6, v7, v8]) (.int .i64 1)) w = .ok (.agg #[v3, v4, v5]) w := by
  have h1 := Try.underlying27
  have h2 := Try.underlying26
  simp [Instr.index, go_sem]
  try rfl
theorem ix27_2 (w : World) (v0 v1 v2 v3 v4 v5 v6 v7 v8 : Value) : Sem.run Try.prog (Instr.index 27 (.agg #[v0, v1, v2, v3, v4, v5, v6, v7, v8]) (.int .i64 2)) w = .ok (.agg #[v6, v7, v8]) w := by
  have h1 := Try.underlying27
  have h2 := Try.underlying26
  simp [Instr.index, go_sem]
  try rfl
section
variable {ops : Array Oper} {Q : Exit → Act → World → Prop} {rest : List Oper} {o : Oper} {a : Act}
theorem swx29 {W : World} {g : Nat} {us : Array Value} {x y : Operand} {v0 v1 v2 v3 v4 v5 v6 v7 v8 v9 v10 v11 v12 v13 v14 v15 v16 v17 v18 v19 v20 v21 v22 v23 v24 : Value} (hb : W.heap[g]? = some (.cells us 29 (0, 0)))
    (h : wpList Try.prog ops Q rest a (((((((((((((((((((((((((W.setCell ⟨g, 0, none⟩ v0).setCell ⟨g, 1, none⟩ v1).setCell ⟨g, 2, none⟩ v2).setCell ⟨g, 3, none⟩ v3).setCell ⟨g, 4, none⟩ v4).setCell ⟨g, 5, none⟩ v5).setCell ⟨g, 6, none⟩ v6).setCell ⟨g, 7, none⟩ v7).setCell ⟨g, 8, none⟩ v8).setCell ⟨g, 9, none⟩ v9).setCell ⟨g, 10, none⟩ v10).setCell ⟨g, 11, none⟩ v11).setCell ⟨g, 12, none⟩ v12).setCell ⟨g, 13, none⟩ v13).setCell ⟨g, 14, none⟩ v14).setCell ⟨g, 15, none⟩ v15).setCell ⟨g, 16, none⟩ v16).setCell ⟨g, 17, none⟩ v17).setCell ⟨g, 18, none⟩ v18).setCell ⟨g, 19, none⟩ v19).setCell ⟨g, 20, none⟩ v20).setCell ⟨g, 21, none⟩ v21).setCell ⟨g, 22, none⟩ v22).setCell ⟨g, 23, none⟩ v23).setCell ⟨g, 24, none⟩ v24))
    (ho : o.op = .store 29 x y := by rfl) (hd : o.dst = none := by rfl) (hgd : o.guard = none := by rfl) (hx : a.eval x = .pointer (some ⟨g, 0, none⟩) := by rfl) (hy : a.eval y = .agg #[v0, v1, v2, v3, v4, v5, v6, v7, v8, v9, v10, v11, v12, v13, v14, v15, v16, v17, v18, v19, v20, v21, v22, v23, v24] := by rfl)
    (hs : us.size = 25 := by rfl) (h1 : ([v0, v1, v2, v3, v4, v5, v6, v7, v8, v9, v10, v11, v12, v13, v14, v15, v16, v17, v18, v19, v20, v21, v22, v23, v24] : List Value).all (·.oneCell') = true := by rfl) : wpList Try.prog ops Q (o :: rest) a W := by
  refine wpList_store_mid hgd 29 x y ho g 0 #[v0, v1, v2, v3, v4, v5, v6, v7, v8, v9, v10, v11, v12, v13, v14, v15, v16, v17, v18, v19, v20, v21, v22, v23, v24] hx hy ?_ (by kernel_rfl) (by rw [List.all_toArray]; exact h1) ?_
  · intro j hj
    refine ⟨?_, blk_frozen hb _⟩
    rw [blk_cell hb]
    have hj2 : 0 + j < us.size := by rw [hs]; simpa using hj
    rw [Array.getElem?_eq_getElem hj2]
    rfl
  · rw [hd]
    exact h
end
end Go.Proofs.Ytmdcjmackhjchaa.P
end

section
/- A configuration's cells. -/
namespace Go.Proofs.Ytmdcjmackhjchaa.P
open Go.RowKit Go.Proofs.YtmdcjmackhjchaaW.PrintWords Go.Proofs.YtmdcjmackhjchaaW.PrintLast Go.Proofs.YtmdcjmackhjchaaW.PrintMore
/-- What a configuration holds. -/
structure Cfg where
  floors : Int
  gaps : Value
  cars : Int
  speed : Int
  brake : Int
  tol : Int
  width : Int
  dwell : Int
  retries : Int
  empty : Int
  full : Int
  trips : Int
  slots : Int
  rota : Value
  m0 : Value
  h0 : Int
  k0 : Int
  m1 : Value
  h1 : Int
  k1 : Int
  m2 : Value
  h2 : Int
  k2 : Int
  keys : Value
  life : Int
abbrev Cfg.cells (c : Cfg) : Array Value := #[.int .i64 c.floors, c.gaps, .int .i64 c.cars, .int .i64 c.speed, .int .i64 c.brake, .int .i64 c.tol, .int .i64 c.width, .int .i64 c.dwell, .int .i64 c.retries, .int .i64 c.empty, .int .i64 c.full, .int .i64 c.trips, .int .i64 c.slots, c.rota, c.m0, .int .i64 c.h0, .int .i64 c.k0, c.m1, .int .i64 c.h1, .int .i64 c.k1, c.m2, .int .i64 c.h2, .int .i64 c.k2, c.keys, .int .i64 c.life]
theorem wp_abs {P : Program} {c : Code} {Q : Exit → Act → World → Prop} {a : Act} {w : World} (M : World → Prop) (h : M w) (hK : ∀ w', M w' → c.wp P Q a w') : c.wp P Q a w := hK w h
end Go.Proofs.Ytmdcjmackhjchaa.P
end

section
/- config.Times and the reference's: walked by hand, region by region. -/
namespace Go.Proofs.Ytmdcjmackhjchaa.P
open Go.RowKit Go.Proofs.YtmdcjmackhjchaaW.PrintWords Go.Proofs.YtmdcjmackhjchaaW.PrintLast Go.Proofs.YtmdcjmackhjchaaW.PrintMore
attribute [local go_sem] cell_same1 cell_some1
set_option linter.unusedVariables false
set_option linter.unusedSimpArgs false
/-- What a walk of Times knows of the world: the configuration and the result lie in blocks of their own. -/
structure TM (w : World) (c : Cfg) (g1 g2 : Nat) (W : World) : Prop where
  b1 : W.heap[g1]? = some (.cells c.cells 29)
  b2 : W.heap[g2]? = some (.cells #[.int .i64 0, .int .i64 0, .int .i64 0, .int .i64 0, .int .i64 0] 42)
  ge : w.heap.size ≤ g2
  be : Below w.heap.size w W
/-- .. and the times that are made lie in a third. -/
structure TN (w : World) (c : Cfg) (g1 g2 g3 : Nat) (x0 x1 x2 x3 x4 : Int) (W : World) : Prop extends TM w c g1 g2 W where
  b3 : W.heap[g3]? = some (.cells #[.int .i64 x0, .int .i64 x1, .int .i64 x2, .int .i64 x3, .int .i64 x4] 42)
  g3e : w.heap.size ≤ g3
  n1 : g3 ≠ g1
  n2 : g3 ≠ g2
theorem TM.step {w : World} {c : Cfg} {g1 g2 : Nat} {W W' : World} (h : TM w c g1 g2 W) (hb : Below W.heap.size W W') : TM w c g1 g2 W' :=
  ⟨blk_below h.b1 hb, blk_below h.b2 hb, h.ge, below_step h.be hb⟩
theorem TN.step {w : World} {c : Cfg} {g1 g2 g3 : Nat} {x0 x1 x2 x3 x4 : Int} {W W' : World} (h : TN w c g1 g2 g3 x0 x1 x2 x3 x4 W) (hb : Below W.heap.size W W') : TN w c g1 g2 g3 x0 x1 x2 x3 x4 W' :=
  ⟨h.toTM.step hb, blk_below h.b3 hb, h.g3e, h.n1, h.n2⟩
theorem TN.new {w : World} {c : Cfg} {g1 g2 : Nat} {W : World} (h : TM w c g1 g2 W) (x0 x1 x2 x3 x4 : Int) : TN w c g1 g2 W.heap.size x0 x1 x2 x3 x4 (W.alloc (.cells #[.int .i64 x0, .int .i64 x1, .int .i64 x2, .int .i64 x3, .int .i64 x4] 42)) :=
  ⟨⟨blk_alloc h.b1 _, blk_alloc h.b2 _, h.ge, below_alloc h.be _⟩, blk_new _ _, below_size h.be, Nat.ne_of_gt (blk_lt h.b1), Nat.ne_of_gt (blk_lt h.b2)⟩
theorem TN.put {w : World} {c : Cfg} {g1 g2 g3 : Nat} {x0 x1 x2 x3 x4 y0 y1 y2 y3 y4 : Int} {W : World} (h : TN w c g1 g2 g3 x0 x1 x2 x3 x4 W) (i : Nat) (v : Int)
    (he : (#[.int .i64 x0, .int .i64 x1, .int .i64 x2, .int .i64 x3, .int .i64 x4] : Array Value).setIfInBounds i (.int .i64 v) = #[.int .i64 y0, .int .i64 y1, .int .i64 y2, .int .i64 y3, .int .i64 y4]) : TN w c g1 g2 g3 y0 y1 y2 y3 y4 (W.setCell ⟨g3, i, none⟩ (.int .i64 v)) :=
  ⟨⟨blk_far h.b1 (p := ⟨g3, i, none⟩) (Ne.symm h.n1) _, blk_far h.b2 (p := ⟨g3, i, none⟩) (Ne.symm h.n2) _, h.ge, h.be.setCell h.g3e _⟩, by rw [← he]; exact blk_set h.b3 i _, h.g3e, h.n1, h.n2⟩

set_option maxHeartbeats 4000000 in
set_option maxRecDepth 100000 in
theorem times_ok (c : Cfg) (h he mv dv de tr t1 t2 sl cy : Int) (w : World) (q1 : wrap64 (mv + dv) = tr) (q2 : wrap64 (c.trips + 1) = t1) (q3 : wrap64 (t1 * tr) = t2) (q4 : wrap64 (mv + t2) = sl) (q5 : wrap64 (c.slots * sl) = cy)
    (HC : ∀ W, Below w.heap.size w W → Calls Try.prog 18 #[.agg c.cells] W fun e w' => e = .returned (.int .i64 0) ∧ Below W.heap.size W w')
    (HH : ∀ W, Below w.heap.size w W → Calls Try.prog 27 #[c.gaps] W fun e w' => e = .returned (.tuple #[.int .i64 h, .int .i64 he]) ∧ Below W.heap.size W w')
    (HW : ∀ W, Below w.heap.size w W → Calls Try.prog 28 #[.agg c.cells, .int .i64 h] W fun e w' => e = .returned (.int .i64 mv) ∧ Below W.heap.size W w')
    (HD : ∀ W, Below w.heap.size w W → Calls Try.prog 29 #[.agg #[.int .i64 c.width, .int .i64 c.dwell, .int .i64 c.retries]] W fun e w' => e = .returned (.tuple #[.int .i64 dv, .int .i64 de]) ∧ Below W.heap.size W w') :
    Calls Try.prog 15 #[.agg c.cells] w fun e w' => e = .returned (.tuple #[.agg #[.int .i64 mv, .int .i64 dv, .int .i64 tr, .int .i64 sl, .int .i64 cy], .int .i64 0]) ∧ Below w.heap.size w w' := by
  have hu29 := Try.underlying29
  have hu42 := Try.underlying42
  have Q1 := Aside0.mk q1
  have Q2 := Aside0.mk q2
  have Q3 := Aside0.mk q3
  have Q4 := Aside0.mk q4
  have Q5 := Aside0.mk q5
  clear q1 q2 q3 q4 q5
  have HC := Aside0.mk HC
  have HH := Aside0.mk HH
  have HW := Aside0.mk HW
  have HD := Aside0.mk HD
  have HB := Aside0.mk (Below.refl w.heap.size w)
  go_enter Try.func15, Try.ntmps15
  go_upto_region 4 with (first | ((with_reducible refine gate_dst (N := 1) rfl ?_); refine bxe (cs := c.cells) (t := 29) ?_; intro g1 hg w1 hbox hb; have B1 := Aside0.mk hbox; replace HB := Aside0.mk (bst HB.out hb); clear hb hbox hg) | ((with_reducible refine gate_dst (N := 2) rfl ?_); refine bxe (cs := #[.int .i64 0, .int .i64 0, .int .i64 0, .int .i64 0, .int .i64 0]) (t := 42) ?_; intro g2 hg w2 hbox hb; have B2 := Aside0.mk hbox; have G2 := Aside0.mk (bge hg HB.out); replace B1 := Aside0.mk (bkb B1.out hb); replace HB := Aside0.mk (bst HB.out hb); clear hb hbox hg) | ((with_reducible refine gate_dst (N := 8) rfl ?_); refine lwx (g := g1) (bkt B1.out) ?_) | (go_at_call 18; (with_reducible refine (HC.out _ (bel HB.out)).mono ?_); rintro e w3 ⟨rfl, hb⟩; replace B1 := Aside0.mk (bkb B1.out hb); replace B2 := Aside0.mk (bkb B2.out hb); replace HB := Aside0.mk (bst HB.out hb); clear hb))
  refine wp_abs (TM w c g1 g2) ⟨bkt B1.out, bkt B2.out, G2.out, bel HB.out⟩ (fun W4 h4 => ?_)
  clear B1 B2 HB
  have H4 := Aside0.mk h4
  have hc1 : W4.cell? ⟨g1, 1, none⟩ = some c.gaps := (blk_cell h4.b1 1).trans rfl
  clear h4
  go_upto_region 5 with (go_at_call 27; (with_reducible refine (HH.out _ (bel H4.out.be)).mono ?_); rintro e w5 ⟨rfl, hb⟩; replace H4 := Aside0.mk (H4.out.step hb); clear hb hc1)
  refine wp_abs (TM w c g1 g2) H4.out (fun W5 h5 => ?_)
  have H5 := Aside0.mk h5
  clear h5
  go_upto_region 6 with (first | ((with_reducible refine gate_dst (N := 20) rfl ?_); refine lwx (g := g1) H5.out.b1 ?_) | (go_at_call 28; (with_reducible refine (HW.out _ (bel H5.out.be)).mono ?_); rintro e w6 ⟨rfl, hb⟩; replace H5 := Aside0.mk (H5.out.step hb); clear hb))
  have N6 := Aside0.mk (TN.new (c := c) H5.out mv 0 0 0 0)
  clear H5
  refine wp_abs _ N6.out (fun W6 h6 => ?_)
  clear N6
  generalize w6.heap.size = g3 at h6 ⊢
  have H6 := Aside0.mk h6
  have hw6 : W6.cell? ⟨g1, 6, none⟩ = some (.int .i64 c.width) := (blk_cell h6.b1 6).trans rfl
  have hw7 : W6.cell? ⟨g1, 7, none⟩ = some (.int .i64 c.dwell) := (blk_cell h6.b1 7).trans rfl
  have hw8 : W6.cell? ⟨g1, 8, none⟩ = some (.int .i64 c.retries) := (blk_cell h6.b1 8).trans rfl
  clear h6
  go_upto_region 7 with (go_at_call 29; (with_reducible refine (HD.out _ (bel H6.out.be)).mono ?_); rintro e w7 ⟨rfl, hb⟩; replace H6 := Aside0.mk (H6.out.step hb); clear hb hw6 hw7 hw8; have hz := cz5 H6.out.b3; have hzf := blk_frozen H6.out.b3)
  clear hz hzf
  refine wp_abs (TN w c g1 g2 g3 mv dv 0 0 0) (H6.out.put 1 dv rfl) (fun W7 h7 => ?_)
  clear H6
  have H7 := Aside0.mk h7
  have hz := cz5 h7.b3
  have hzf := blk_frozen h7.b3
  clear h7
  have htr' : IntKind.i64.wrap (mv + dv) = tr := (i64_w _).trans Q1.out
  go_upto_region 8 with fail
  clear hz hzf htr'
  refine wp_abs (TN w c g1 g2 g3 mv dv tr 0 0) (H7.out.put 2 tr rfl) (fun W8 h8 => ?_)
  clear H7
  have H8 := Aside0.mk h8
  have hz := cz5 h8.b3
  have hzf := blk_frozen h8.b3
  have hw11 : W8.cell? ⟨g1, 11, none⟩ = some (.int .i64 c.trips) := (blk_cell h8.b1 11).trans rfl
  clear h8
  have ht1' : IntKind.i64.wrap (c.trips + 1) = t1 := (i64_w _).trans Q2.out
  have ht2' : IntKind.i64.wrap (t1 * tr) = t2 := (i64_w _).trans Q3.out
  have hsl' : IntKind.i64.wrap (mv + t2) = sl := (i64_w _).trans Q4.out
  go_upto_region 9 with fail
  clear hz hzf ht1' ht2' hsl' hw11
  refine wp_abs (TN w c g1 g2 g3 mv dv tr sl 0) (H8.out.put 3 sl rfl) (fun W9 h9 => ?_)
  clear H8
  have H9 := Aside0.mk h9
  have hz := cz5 h9.b3
  have hzf := blk_frozen h9.b3
  have hw12 : W9.cell? ⟨g1, 12, none⟩ = some (.int .i64 c.slots) := (blk_cell h9.b1 12).trans rfl
  clear h9
  have hcy' : IntKind.i64.wrap (c.slots * sl) = cy := (i64_w _).trans Q5.out
  go_upto_region 10 with fail
  clear hz hzf hcy' hw12
  refine wp_abs (TN w c g1 g2 g3 mv dv tr sl cy) (H9.out.put 4 cy rfl) (fun W10 h10 => ?_)
  clear H9
  have H10 := Aside0.mk h10
  have hz := cz5 h10.b3
  have hz2 := cz5 h10.b2
  have hzf := blk_frozen h10.b2
  clear h10
  go_wp2
  refine bodyPost_ret (results_ct rfl _ _ g2 42 #[.int .i64 mv, .int .i64 dv, .int .i64 tr, .int .i64 sl, .int .i64 cy] (0, 0) _ rfl (blk_put (blk_put (blk_put (blk_put (blk_put H10.out.b2 0 _ rfl) 1 _ rfl) 2 _ rfl) 3 _ rfl) 4 _ rfl) hu42 rfl (by kernel_rfl)) rfl ?_
  exact ⟨rfl, ((((H10.out.be.setCell H10.out.ge _).setCell H10.out.ge _).setCell H10.out.ge _).setCell H10.out.ge _).setCell H10.out.ge _⟩
set_option maxHeartbeats 4000000 in
set_option maxRecDepth 100000 in
theorem times_bad (c : Cfg) (x : Int) (w : World) (hx : ¬ x = 0)
    (HC : ∀ W, Below w.heap.size w W → Calls Try.prog 18 #[.agg c.cells] W fun e w' => e = .returned (.int .i64 x) ∧ Below W.heap.size W w') :
    Calls Try.prog 15 #[.agg c.cells] w fun e w' => e = .returned (.tuple #[.agg #[.int .i64 0, .int .i64 0, .int .i64 0, .int .i64 0, .int .i64 0], .int .i64 x]) ∧ Below w.heap.size w w' := by
  have hu29 := Try.underlying29
  have hu42 := Try.underlying42
  have HC := Aside0.mk HC
  have hx0 : (x == 0) = false := beq_eq_false_iff_ne.mpr hx
  have hx1 : (x != 0) = true := bne_iff_ne.mpr hx
  have HB := Aside0.mk (Below.refl w.heap.size w)
  go_enter Try.func15, Try.ntmps15
  go_upto_region 3 with (first | ((with_reducible refine gate_dst (N := 1) rfl ?_); refine bxe (cs := c.cells) (t := 29) ?_; intro g1 hg w1 hbox hb; have B1 := Aside0.mk hbox; replace HB := Aside0.mk (bst HB.out hb); clear hb hbox hg) | ((with_reducible refine gate_dst (N := 2) rfl ?_); refine bxe (cs := #[.int .i64 0, .int .i64 0, .int .i64 0, .int .i64 0, .int .i64 0]) (t := 42) ?_; intro g2 hg w2 hbox hb; have B2 := Aside0.mk hbox; have G2 := Aside0.mk (bge hg HB.out); replace B1 := Aside0.mk (bkb B1.out hb); replace HB := Aside0.mk (bst HB.out hb); clear hb hbox hg) | ((with_reducible refine gate_dst (N := 8) rfl ?_); refine lwx (g := g1) (bkt B1.out) ?_) | (go_at_call 18; (with_reducible refine (HC.out _ (bel HB.out)).mono ?_); rintro e w3 ⟨rfl, hb⟩; replace B1 := Aside0.mk (bkb B1.out hb); replace B2 := Aside0.mk (bkb B2.out hb); replace HB := Aside0.mk (bst HB.out hb); clear hb))
  refine wp_abs (TM w c g1 g2) ⟨bkt B1.out, bkt B2.out, G2.out, bel HB.out⟩ (fun W4 h4 => ?_)
  clear B1 B2 HB
  have H4 := Aside0.mk h4
  have hz2 := cz5 h4.b2
  have hzf := blk_frozen h4.b2
  clear h4
  go_wp2
  refine bodyPost_ret (results_ct rfl _ _ g2 42 #[.int .i64 0, .int .i64 0, .int .i64 0, .int .i64 0, .int .i64 0] (0, 0) _ rfl (blk_put (blk_put (blk_put (blk_put (blk_put H4.out.b2 0 _ rfl) 1 _ rfl) 2 _ rfl) 3 _ rfl) 4 _ rfl) hu42 rfl (by kernel_rfl)) rfl ?_
  exact ⟨rfl, ((((H4.out.be.setCell H4.out.ge _).setCell H4.out.ge _).setCell H4.out.ge _).setCell H4.out.ge _).setCell H4.out.ge _⟩
set_option maxHeartbeats 4000000 in
set_option maxRecDepth 100000 in
theorem timesR_ok (c : Cfg) (h he mv dv de tr t1 t2 sl cy : Int) (w : World) (q1 : wrap64 (mv + dv) = tr) (q2 : wrap64 (c.trips + 1) = t1) (q3 : wrap64 (t1 * tr) = t2) (q4 : wrap64 (mv + t2) = sl) (q5 : wrap64 (c.slots * sl) = cy)
    (HC : ∀ W, Below w.heap.size w W → Calls Try.prog 19 #[.agg c.cells] W fun e w' => e = .returned (.int .i64 0) ∧ Below W.heap.size W w')
    (HH : ∀ W, Below w.heap.size w W → Calls Try.prog 39 #[c.gaps] W fun e w' => e = .returned (.tuple #[.int .i64 h, .int .i64 he]) ∧ Below W.heap.size W w')
    (HW : ∀ W, Below w.heap.size w W → Calls Try.prog 41 #[.agg c.cells, .int .i64 h] W fun e w' => e = .returned (.int .i64 mv) ∧ Below W.heap.size W w')
    (HD : ∀ W, Below w.heap.size w W → Calls Try.prog 40 #[.agg #[.int .i64 c.width, .int .i64 c.dwell, .int .i64 c.retries]] W fun e w' => e = .returned (.tuple #[.int .i64 dv, .int .i64 de]) ∧ Below W.heap.size W w') :
    Calls Try.prog 25 #[.agg c.cells] w fun e w' => e = .returned (.tuple #[.agg #[.int .i64 mv, .int .i64 dv, .int .i64 tr, .int .i64 sl, .int .i64 cy], .int .i64 0]) ∧ Below w.heap.size w w' := by
  have hu29 := Try.underlying29
  have hu42 := Try.underlying42
  have Q1 := Aside0.mk q1
  have Q2 := Aside0.mk q2
  have Q3 := Aside0.mk q3
  have Q4 := Aside0.mk q4
  have Q5 := Aside0.mk q5
  clear q1 q2 q3 q4 q5
  have HC := Aside0.mk HC
  have HH := Aside0.mk HH
  have HW := Aside0.mk HW
  have HD := Aside0.mk HD
  have HB := Aside0.mk (Below.refl w.heap.size w)
  go_enter Try.func25, Try.ntmps25
  go_upto_region 4 with (first | ((with_reducible refine gate_dst (N := 1) rfl ?_); refine bxe (cs := c.cells) (t := 29) ?_; intro g1 hg w1 hbox hb; have B1 := Aside0.mk hbox; replace HB := Aside0.mk (bst HB.out hb); clear hb hbox hg) | ((with_reducible refine gate_dst (N := 2) rfl ?_); refine bxe (cs := #[.int .i64 0, .int .i64 0, .int .i64 0, .int .i64 0, .int .i64 0]) (t := 42) ?_; intro g2 hg w2 hbox hb; have B2 := Aside0.mk hbox; have G2 := Aside0.mk (bge hg HB.out); replace B1 := Aside0.mk (bkb B1.out hb); replace HB := Aside0.mk (bst HB.out hb); clear hb hbox hg) | ((with_reducible refine gate_dst (N := 10) rfl ?_); refine lwx (g := g1) (bkt B1.out) ?_) | (go_at_call 19; (with_reducible refine (HC.out _ (bel HB.out)).mono ?_); rintro e w3 ⟨rfl, hb⟩; replace B1 := Aside0.mk (bkb B1.out hb); replace B2 := Aside0.mk (bkb B2.out hb); replace HB := Aside0.mk (bst HB.out hb); clear hb))
  refine wp_abs (TM w c g1 g2) ⟨bkt B1.out, bkt B2.out, G2.out, bel HB.out⟩ (fun W4 h4 => ?_)
  clear B1 B2 HB
  have H4 := Aside0.mk h4
  have hc1 : W4.cell? ⟨g1, 1, none⟩ = some c.gaps := (blk_cell h4.b1 1).trans rfl
  clear h4
  go_upto_region 5 with (go_at_call 39; (with_reducible refine (HH.out _ (bel H4.out.be)).mono ?_); rintro e w5 ⟨rfl, hb⟩; replace H4 := Aside0.mk (H4.out.step hb); clear hb hc1)
  refine wp_abs (TM w c g1 g2) H4.out (fun W5 h5 => ?_)
  have H5 := Aside0.mk h5
  clear h5
  have hw6 : W5.cell? ⟨g1, 6, none⟩ = some (.int .i64 c.width) := (blk_cell H5.out.b1 6).trans rfl
  have hw7 : W5.cell? ⟨g1, 7, none⟩ = some (.int .i64 c.dwell) := (blk_cell H5.out.b1 7).trans rfl
  have hw8 : W5.cell? ⟨g1, 8, none⟩ = some (.int .i64 c.retries) := (blk_cell H5.out.b1 8).trans rfl
  go_upto_region 6 with (go_at_call 40; (with_reducible refine (HD.out _ (bel H5.out.be)).mono ?_); rintro e w7 ⟨rfl, hb⟩; replace H5 := Aside0.mk (H5.out.step hb); clear hb hw6 hw7 hw8)
  refine wp_abs (TM w c g1 g2) H5.out (fun W6 h6 => ?_)
  clear H5
  have H5 := Aside0.mk h6
  clear h6
  go_upto_region 7 with (first | ((with_reducible refine gate_dst (N := 33) rfl ?_); refine lwx (g := g1) H5.out.b1 ?_) | (go_at_call 41; (with_reducible refine (HW.out _ (bel H5.out.be)).mono ?_); rintro e w6 ⟨rfl, hb⟩; replace H5 := Aside0.mk (H5.out.step hb); clear hb))
  have N6 := Aside0.mk (TN.new (c := c) H5.out mv dv 0 0 0)
  clear H5
  refine wp_abs _ N6.out (fun W7 h7 => ?_)
  clear N6
  generalize w6.heap.size = g3 at h7 ⊢
  have H7 := Aside0.mk h7
  have hz := cz5 h7.b3
  have hzf := blk_frozen h7.b3
  clear h7
  have htr' : IntKind.i64.wrap (mv + dv) = tr := (i64_w _).trans Q1.out
  go_upto_region 8 with fail
  clear hz hzf htr'
  refine wp_abs (TN w c g1 g2 g3 mv dv tr 0 0) (H7.out.put 2 tr rfl) (fun W8 h8 => ?_)
  clear H7
  have H8 := Aside0.mk h8
  have hz := cz5 h8.b3
  have hzf := blk_frozen h8.b3
  have hw11 : W8.cell? ⟨g1, 11, none⟩ = some (.int .i64 c.trips) := (blk_cell h8.b1 11).trans rfl
  clear h8
  have ht1' : IntKind.i64.wrap (c.trips + 1) = t1 := (i64_w _).trans Q2.out
  have ht2' : IntKind.i64.wrap (t1 * tr) = t2 := (i64_w _).trans Q3.out
  have hsl' : IntKind.i64.wrap (mv + t2) = sl := (i64_w _).trans Q4.out
  go_upto_region 9 with fail
  clear hz hzf ht1' ht2' hsl' hw11
  refine wp_abs (TN w c g1 g2 g3 mv dv tr sl 0) (H8.out.put 3 sl rfl) (fun W9 h9 => ?_)
  clear H8
  have H9 := Aside0.mk h9
  have hz := cz5 h9.b3
  have hzf := blk_frozen h9.b3
  have hw12 : W9.cell? ⟨g1, 12, none⟩ = some (.int .i64 c.slots) := (blk_cell h9.b1 12).trans rfl
  clear h9
  have hcy' : IntKind.i64.wrap (c.slots * sl) = cy := (i64_w _).trans Q5.out
  go_upto_region 10 with fail
  clear hz hzf hcy' hw12
  refine wp_abs (TN w c g1 g2 g3 mv dv tr sl cy) (H9.out.put 4 cy rfl) (fun W10 h10 => ?_)
  clear H9
  have H10 := Aside0.mk h10
  have hz := cz5 h10.b3
  have hz2 := cz5 h10.b2
  have hzf := blk_frozen h10.b2
  clear h10
  go_wp2
  refine bodyPost_ret (results_ct rfl _ _ g2 42 #[.int .i64 mv, .int .i64 dv, .int .i64 tr, .int .i64 sl, .int .i64 cy] (0, 0) _ rfl (blk_put (blk_put (blk_put (blk_put (blk_put H10.out.b2 0 _ rfl) 1 _ rfl) 2 _ rfl) 3 _ rfl) 4 _ rfl) hu42 rfl (by kernel_rfl)) rfl ?_
  exact ⟨rfl, ((((H10.out.be.setCell H10.out.ge _).setCell H10.out.ge _).setCell H10.out.ge _).setCell H10.out.ge _).setCell H10.out.ge _⟩
set_option maxHeartbeats 4000000 in
set_option maxRecDepth 100000 in
theorem timesR_bad (c : Cfg) (x : Int) (w : World) (hx : ¬ x = 0)
    (HC : ∀ W, Below w.heap.size w W → Calls Try.prog 19 #[.agg c.cells] W fun e w' => e = .returned (.int .i64 x) ∧ Below W.heap.size W w') :
    Calls Try.prog 25 #[.agg c.cells] w fun e w' => e = .returned (.tuple #[.agg #[.int .i64 0, .int .i64 0, .int .i64 0, .int .i64 0, .int .i64 0], .int .i64 x]) ∧ Below w.heap.size w w' := by
  have hu29 := Try.underlying29
  have hu42 := Try.underlying42
  have HC := Aside0.mk HC
  have hx0 : (x == 0) = false := beq_eq_false_iff_ne.mpr hx
  have hx1 : (x != 0) = true := bne_iff_ne.mpr hx
  have HB := Aside0.mk (Below.refl w.heap.size w)
  go_enter Try.func25, Try.ntmps25
  go_upto_region 3 with (first | ((with_reducible refine gate_dst (N := 1) rfl ?_); refine bxe (cs := c.cells) (t := 29) ?_; intro g1 hg w1 hbox hb; have B1 := Aside0.mk hbox; replace HB := Aside0.mk (bst HB.out hb); clear hb hbox hg) | ((with_reducible refine gate_dst (N := 2) rfl ?_); refine bxe (cs := #[.int .i64 0, .int .i64 0, .int .i64 0, .int .i64 0, .int .i64 0]) (t := 42) ?_; intro g2 hg w2 hbox hb; have B2 := Aside0.mk hbox; have G2 := Aside0.mk (bge hg HB.out); replace B1 := Aside0.mk (bkb B1.out hb); replace HB := Aside0.mk (bst HB.out hb); clear hb hbox hg) | ((with_reducible refine gate_dst (N := 10) rfl ?_); refine lwx (g := g1) (bkt B1.out) ?_) | (go_at_call 19; (with_reducible refine (HC.out _ (bel HB.out)).mono ?_); rintro e w3 ⟨rfl, hb⟩; replace B1 := Aside0.mk (bkb B1.out hb); replace B2 := Aside0.mk (bkb B2.out hb); replace HB := Aside0.mk (bst HB.out hb); clear hb))
  refine wp_abs (TM w c g1 g2) ⟨bkt B1.out, bkt B2.out, G2.out, bel HB.out⟩ (fun W4 h4 => ?_)
  clear B1 B2 HB
  have H4 := Aside0.mk h4
  have hz2 := cz5 h4.b2
  have hzf := blk_frozen h4.b2
  clear h4
  go_wp2
  refine bodyPost_ret (results_ct rfl _ _ g2 42 #[.int .i64 0, .int .i64 0, .int .i64 0, .int .i64 0, .int .i64 0] (0, 0) _ rfl (blk_put (blk_put (blk_put (blk_put (blk_put H4.out.b2 0 _ rfl) 1 _ rfl) 2 _ rfl) 3 _ rfl) 4 _ rfl) hu42 rfl (by kernel_rfl)) rfl ?_
  exact ⟨rfl, ((((H4.out.be.setCell H4.out.ge _).setCell H4.out.ge _).setCell H4.out.ge _).setCell H4.out.ge _).setCell H4.out.ge _⟩
end Go.Proofs.Ytmdcjmackhjchaa.P
end

section
/- The slots of a domain are looked for by library functions over function values: walked by hand. -/
namespace Go.Proofs.Ytmdcjmackhjchaa.P
open Go.RowKit Go.Proofs.YtmdcjmackhjchaaW.PrintWords Go.Proofs.YtmdcjmackhjchaaW.PrintLast Go.Proofs.YtmdcjmackhjchaaW.PrintMore
attribute [local go_sem] cell_same1 cell_some1
set_option linter.unusedVariables false
set_option linter.unusedSimpArgs false

/-- The first place from i on, among d, of which p holds. -/
def sfp (p : Nat → Bool) (i : Nat) : Nat → Int
  | 0 => -1
  | d + 1 => if p i = true then (i : Int) else sfp p (i + 1) d
theorem sfp_ge (p : Nat → Bool) : ∀ (d i : Nat), decide (0 ≤ sfp p i d) = (List.range' i d).any p
  | 0, i => by simp [sfp]
  | d + 1, i => by
    rw [sfp, List.range'_succ, List.any_cons, ← sfp_ge p d (i + 1)]
    cases h : p i with
    | true => simp
    | false => simp
def hasv (l : List Int) (v : Int) : Bool := l.contains v
theorem any_rd (l : List Int) (v : Int) : (List.range' 0 l.length).any (fun k => rd l k == v) = hasv l v := by
  have h : (List.range' 0 l.length).map (fun (k : Nat) => rd l (k : Int)) = l := by
    apply List.ext_getElem
    · simp
    · intro i h1 h2
      simp [rd, h2]
  have h2 : (List.range' 0 l.length).any (fun k => rd l k == v) = ((List.range' 0 l.length).map (fun (k : Nat) => rd l (k : Int))).any (· == v) := by
    rw [List.any_map]
    rfl
  rw [h2, h, hasv, List.contains_eq_any_beq]
  congr 1
  funext x
  exact Bool.eq_iff_iff.mpr ⟨fun h => by rw [beq_iff_eq] at h ⊢; exact h.symm, fun h => by rw [beq_iff_eq] at h ⊢; exact h.symm⟩
theorem ret_i2 {a b : Int} (h : a = b) : Ending.returned (.int .i64 a) = .returned (.int .i64 b) := by rw [h]
theorem index_any2 (A0 : Option Addr) (c0 : Nat) (l0 : List Int) (v : Int) (w : World) (hr0 : Kd.C (Kd.int .i64) w A0 l0.length l0) (hn : l0.length ≤ maxLen) :
    Calls Try.prog 38 #[.slice A0 l0.length c0, .int .i64 v] w fun e w' => e = .returned (.int .i64 (sfp (fun k => rd l0 k == v) 0 l0.length)) ∧ w' = w := by
  have HR := Aside0.mk hr0
  clear hr0
  obtain ⟨n, hN⟩ : ∃ n, n = l0.length := ⟨_, rfl⟩
  rw [← hN]
  rw [← hN] at hn
  have HN := Aside0.mk hN
  clear hN
  have hn : n ≤ 9223372036854775807 := hn
  go_enter Try.func38, Try.ntmps38
  go_wp2
  go_loop [8] (fun u => ∃ k : Nat, k ≤ n ∧ u = .int .i64 k ∧ Aside0 (sfp (fun k => rd l0 k == v) 0 n = sfp (fun k => rd l0 k == v) k (n - k))) (fun u => n - (intOf u).toNat)
  case atStart => exact ⟨0, Nat.zero_le _, rfl, ⟨rfl⟩⟩
  case round =>
    obtain ⟨k, hk, rfl, hs⟩ := hrel
    by_cases hlt : k < n
    · obtain ⟨ad, e, hc⟩ := Kd.at_int HR.out (k : Int) (by omega) (by rw [← HN.out]; omega)
      subst e
      have hc' : w.cell? (ad.add k) = some (.int .i64 (rd l0 k)) := hc
      clear hc
      have hs2 : sfp (fun k => rd l0 k == v) 0 n = if (rd l0 k == v) = true then (k : Int) else sfp (fun k => rd l0 k == v) (k + 1) (n - (k + 1)) := by
        rw [hs.out, show n - k = (n - (k + 1)) + 1 from by omega, sfp]
      have HS := Aside0.mk hs2
      clear hs hs2
      obtain ⟨z, hz⟩ : ∃ z, rd l0 k = z := ⟨_, rfl⟩
      rw [hz] at hc' HS
      clear hz
      by_cases hb : v = z
      · subst hb
        go_wp2
        go_ret
        exact ⟨ret_i2 (by rw [HS.out, if_pos (by simp)]), rfl⟩
      · have hb1 : (v == z) = false := beq_eq_false_iff_ne.mpr hb
        have HZ := Aside0.mk (show (z == v) = false from beq_eq_false_iff_ne.mpr (fun h => hb h.symm))
        clear hb
        go_wp2
        go_round
        case rel => exact ⟨k + 1, by omega, by go_num, ⟨by rw [HS.out, if_neg (by rw [HZ.out]; simp)]⟩⟩
        case measure => simp [intOf]; omega
    · have : k = n := by omega
      subst this
      have HS := hs
      clear hs
      go_wp2
      go_ret
      exact ⟨ret_i2 (by rw [HS.out, Nat.sub_self, sfp]), rfl⟩
theorem ret_b2 {a b : Bool} (h : a = b) : Ending.returned (.bool a) = .returned (.bool b) := by rw [h]
theorem contains_any2 (A0 : Option Addr) (c0 : Nat) (l0 : List Int) (v : Int) (w : World) (hr0 : Kd.C (Kd.int .i64) w A0 l0.length l0) :
    Calls Try.prog 23 #[.slice A0 l0.length c0, .int .i64 v] w fun e w' => e = .returned (.bool (hasv l0 v)) ∧ w' = w := by
  have HI := Aside0.mk (index_any2 A0 c0 l0 v w hr0 hr0.2.1)
  clear hr0
  go_enter Try.func23, Try.ntmps23
  go_wp2_with (go_at_call 38; (with_reducible refine HI.out.mono ?_); rintro e w' ⟨rfl, rfl⟩)
  go_ret
  exact ⟨ret_b2 ((sfp_ge _ _ _).trans (any_rd l0 v)), rfl⟩
theorem has_any2 (A0 : Option Addr) (c0 : Nat) (l0 : List Int) (v : Int) (b : Nat) (w : World) (hr0 : Kd.C (Kd.int .i64) w A0 l0.length l0) (hb : w.heap[b]? = some (.cells #[.int .i64 v] 3 (0, 0))) :
    Calls Try.prog 22 #[.slice A0 l0.length c0, .pointer (some ⟨b, 0, none⟩)] w fun e w' => e = .returned (.bool (hasv l0 v)) ∧ w' = w := by
  have HI := Aside0.mk (contains_any2 A0 c0 l0 v w hr0)
  have hc : w.cell? ⟨b, 0, none⟩ = some (.int .i64 v) := (blk_cell hb 0).trans rfl
  clear hr0 hb
  go_enter Try.func22, Try.ntmps22
  go_wp2_with (go_at_call 23; (with_reducible refine HI.out.mono ?_); rintro e w' ⟨rfl, rfl⟩)
  go_ret
  exact ⟨rfl, rfl⟩
theorem rows_any2 (A0 : Option Addr) (c0 : Nat) (l0 : List (List Int)) (v : Int) (b : Nat) (w : World) (hr0 : Kd.C (Kd.slice 3 (Kd.int .i64)) w A0 l0.length l0) (hb : w.heap[b]? = some (.cells #[.int .i64 v] 3 (0, 0))) :
    Calls Try.prog 37 #[.slice A0 l0.length c0, .func (.func 22) #[] #[.pointer (some ⟨b, 0, none⟩)]] w fun e w' => e = .returned (.int .i64 (sfp (fun k => hasv (rd_L1 l0 k) v) 0 l0.length)) ∧ w' = w := by
  have hn : l0.length ≤ 9223372036854775807 := hr0.2.1
  have HR := Aside0.mk hr0
  have HBX := Aside0.mk hb
  clear hr0 hb
  obtain ⟨n, hN⟩ : ∃ n, n = l0.length := ⟨_, rfl⟩
  rw [← hN]
  rw [← hN] at hn
  have HN := Aside0.mk hN
  clear hN
  go_enter Try.func37, Try.ntmps37
  go_wp2
  go_loop [8] (fun u => ∃ k : Nat, k ≤ n ∧ u = .int .i64 k ∧ Aside0 (sfp (fun k => hasv (rd_L1 l0 k) v) 0 n = sfp (fun k => hasv (rd_L1 l0 k) v) k (n - k))) (fun u => n - (intOf u).toNat)
  case atStart => exact ⟨0, Nat.zero_le _, rfl, ⟨rfl⟩⟩
  case round =>
    obtain ⟨k, hk, rfl, hs⟩ := hrel
    by_cases hlt : k < n
    · obtain ⟨ad, A1, c1, e, hc, hl, hi⟩ := at_L1 HR.out (k : Int) (by omega) (by rw [← HN.out]; omega)
      subst e
      have hc' : w.cell? (ad.add k) = some (.slice A1 (rd_L1 l0 (k : Int)).length c1) := hc
      clear hc
      have HI := Aside0.mk hi
      clear hi
      have hs2 : sfp (fun k => hasv (rd_L1 l0 k) v) 0 n = if (hasv (rd_L1 l0 (k : Int)) v) = true then (k : Int) else sfp (fun k => hasv (rd_L1 l0 k) v) (k + 1) (n - (k + 1)) := by
        rw [hs.out, show n - k = (n - (k + 1)) + 1 from by omega, sfp]
      have HS := Aside0.mk hs2
      clear hs hs2
      obtain ⟨z, hz⟩ : ∃ z, rd_L1 l0 (k : Int) = z := ⟨_, rfl⟩
      rw [hz] at hc' HS HI hl
      clear hz
      obtain ⟨q, hq⟩ : ∃ q, hasv z v = q := ⟨_, rfl⟩
      have HQ := Aside0.mk hq
      clear hq
      cases q with
      | true =>
        go_wp2_with (go_at_call 22; (with_reducible refine (has_any2 _ _ _ v b _ HI.out HBX.out).mono ?_); rintro e w' ⟨rfl, rfl⟩; simp only [HQ.out])
        go_ret
        exact ⟨ret_i2 (by rw [HS.out, if_pos HQ.out]), rfl⟩
      | false =>
        go_wp2_with (go_at_call 22; (with_reducible refine (has_any2 _ _ _ v b _ HI.out HBX.out).mono ?_); rintro e w' ⟨rfl, rfl⟩; simp only [HQ.out])
        go_round
        case rel => exact ⟨k + 1, by omega, by go_num, ⟨by rw [HS.out, if_neg (by rw [HQ.out]; simp)]⟩⟩
        case measure => simp [intOf]; omega
    · have : k = n := by omega
      subst this
      have HS := hs
      clear hs
      go_wp2
      go_ret
      exact ⟨ret_i2 (by rw [HS.out, Nat.sub_self, sfp]), rfl⟩
theorem any_rdL (l : List (List Int)) (v : Int) : (List.range' 0 l.length).any (fun k => hasv (rd_L1 l k) v) = l.any (fun x => hasv x v) := by
  have h : (List.range' 0 l.length).map (fun (k : Nat) => rd_L1 l (k : Int)) = l := by
    apply List.ext_getElem
    · simp
    · intro i h1 h2
      simp [rd_L1, h2]
  have h2 : (List.range' 0 l.length).any (fun k => hasv (rd_L1 l k) v) = ((List.range' 0 l.length).map (fun (k : Nat) => rd_L1 l (k : Int))).any (fun x => hasv x v) := by
    rw [List.any_map]
    rfl
  rw [h2, h]
theorem slots_any2 (A0 : Option Addr) (c0 : Nat) (l0 : List (List Int)) (v : Int) (b : Nat) (w : World) (hr0 : Kd.C (Kd.slice 3 (Kd.int .i64)) w A0 l0.length l0) (hb : w.heap[b]? = some (.cells #[.int .i64 v] 3 (0, 0))) :
    Calls Try.prog 21 #[.slice A0 l0.length c0, .func (.func 22) #[] #[.pointer (some ⟨b, 0, none⟩)]] w fun e w' => e = .returned (.bool (l0.any fun x => hasv x v)) ∧ w' = w := by
  have HI := Aside0.mk (rows_any2 A0 c0 l0 v b w hr0 hb)
  clear hr0 hb
  go_enter Try.func21, Try.ntmps21
  go_wp2_with (go_at_call 37; (with_reducible refine HI.out.mono ?_); rintro e w' ⟨rfl, rfl⟩)
  go_ret
  exact ⟨ret_b2 ((sfp_ge _ _ _).trans (any_rdL l0 v)), rfl⟩
end Go.Proofs.Ytmdcjmackhjchaa.P
end

section
-- Printed by wip/myprint.py of this repo (over the kit's printer). Not trusted: Lean checks it.
namespace Go.Proofs.Ytmdcjmackhjchaa.P
open Go.RowKit Go.Proofs.YtmdcjmackhjchaaW.PrintWords Go.Proofs.YtmdcjmackhjchaaW.PrintLast Go.Proofs.YtmdcjmackhjchaaW.PrintMore
attribute [local go_sem] cell_same1 cell_some1 ix27_0 ix27_1 ix27_2
attribute [local go_sem] max2_int min2_int max_two min_two max_three min_three max_four min_four   -- for this text's walks alone
set_option linter.unusedVariables false
set_option linter.unusedSimpArgs false

/-! ### bound_domains: function 20 -/
def bound_domains.f (a0 : Int) : Option (Int) := if a0 < 1 then (some 2) else (if a0 > 3 then (some 2) else (some 0))
set_option maxHeartbeats 8000000 in
set_option maxRecDepth 100000 in
theorem bound_domains.calls (a0 : Int) (r : Int) (w : World) (h : bound_domains.f a0 = some r) :
    Calls Try.prog 20 #[.int .i64 a0] w fun e w' => e = .returned (.int .i64 r) ∧ Drawn0 w w' := by
  have H : (if a0 < 1 then (some 2) else (if a0 > 3 then (some 2) else (some 0))) = some r := h
  clear h
  by_cases c2 : a0 < 1
  · as_aux_lemma =>
    rw [if_pos c2] at H
    have c2b0 : decide (a0 < 1) = true := decide_eq_true c2
    clear c2
    obtain rfl := Option.some.inj H
    go_enter Try.func20, Try.ntmps20
    go_wp2
    go_ret
    exact ⟨by first | rfl | (simp; done) | (simp [*]; done), by repeat (first | exact Drawn0.refl _ | apply Drawn0.step)⟩
  · as_aux_lemma =>
    rw [if_neg c2] at H
    have c2b0 : decide (a0 < 1) = false := decide_eq_false c2
    clear c2
    by_cases c3 : a0 > 3
    · as_aux_lemma =>
      rw [if_pos c3] at H
      have c3b0 : decide (3 < a0) = true := decide_eq_true c3
      clear c3
      obtain rfl := Option.some.inj H
      go_enter Try.func20, Try.ntmps20
      go_wp2
      go_ret
      exact ⟨by first | rfl | (simp; done) | (simp [*]; done), by repeat (first | exact Drawn0.refl _ | apply Drawn0.step)⟩
    · as_aux_lemma =>
      rw [if_neg c3] at H
      have c3b0 : decide (3 < a0) = false := decide_eq_false c3
      clear c3
      obtain rfl := Option.some.inj H
      go_enter Try.func20, Try.ntmps20
      go_wp2
      go_ret
      exact ⟨by first | rfl | (simp; done) | (simp [*]; done), by repeat (first | exact Drawn0.refl _ | apply Drawn0.step)⟩

end Go.Proofs.Ytmdcjmackhjchaa.P
end
