/- Package door: a door after several ticks: the closed form, the errors, and the iterator as a value. -/
import Derived.Test.YtofffhnhinolnaaDoorQ
import Derived.Test.YtofffhnhinolnaaRf
import Derived.Shelf.Abstract
import Derived.Shelf.RegionOpen
import Derived.OwnWalkIn
import Derived.TacticsInMore
import Derived.LoopNIn
import Derived.LoopIn
namespace Go.Proofs.Ytofffhnhinolnaa.P
open Go.RowKit Go.Proofs.YtofffhnhinolnaaW.PrintWords Go.Proofs.YtofffhnhinolnaaW.PrintLast Go.Proofs.YtofffhnhinolnaaW.PrintMore
set_option linter.unusedVariables false
set_option linter.unusedSimpArgs false

/-- Whether a door becomes open in a tick. -/
def dopen (q : Int × Int × Int × Int) (w : Int) : Bool := decide (q.1 = 1 ∧ q.2.1 + 1 = w)
/-- The door after k ticks; the ticks in which it became open. -/
def dqs (q : Int × Int × Int × Int) (w dw rt : Int) (l : List Bool) : Nat → Int × Int × Int × Int
  | 0 => q
  | k + 1 => dtk (dqs q w dw rt l k).1 (dqs q w dw rt l k).2.1 (dqs q w dw rt l k).2.2.1 (dqs q w dw rt l k).2.2.2 w dw rt (rdOf false l k)
def dls (q : Int × Int × Int × Int) (w dw rt : Int) (l : List Bool) : Nat → List Int
  | 0 => []
  | k + 1 => dls q w dw rt l k ++ (if dopen (dqs q w dw rt l k) w = true then [(k : Int)] else [])
def door_Run.f (a0_0 : Int) (a0_1 : Int) (a0_2 : Int) (a0_3 : Int) (a1_0 : Int) (a1_1 : Int) (a1_2 : Int) (l2 : List Bool) : Option (Int × Int × Int × Int × List Int × Int) :=
  if dchk a0_0 a0_1 a0_2 a0_3 a1_0 a1_1 a1_2 = 0 then
    (if l2.length > 1000 then (if l2.length < 1000000000000000000 then some (0, 0, 0, 0, [], 4) else none)
     else some ((dqs (a0_0, a0_1, a0_2, a0_3) a1_0 a1_1 a1_2 l2 l2.length).1, (dqs (a0_0, a0_1, a0_2, a0_3) a1_0 a1_1 a1_2 l2 l2.length).2.1, (dqs (a0_0, a0_1, a0_2, a0_3) a1_0 a1_1 a1_2 l2 l2.length).2.2.1, (dqs (a0_0, a0_1, a0_2, a0_3) a1_0 a1_1 a1_2 l2 l2.length).2.2.2, dls (a0_0, a0_1, a0_2, a0_3) a1_0 a1_1 a1_2 l2 l2.length, 0))
  else some (0, 0, 0, 0, [], dchk a0_0 a0_1 a0_2 a0_3 a1_0 a1_1 a1_2)

theorem run_bad (p x l t wd dw rt : Int) (A2 : Option Addr) (c2 : Nat) (l2 : List Bool) (w : World) (h : dchk p x l t wd dw rt ≠ 0) :
    Calls Try.prog 24 #[.agg #[.int .i64 p, .int .i64 x, .int .i64 l, .int .i64 t], .agg #[.int .i64 wd, .int .i64 dw, .int .i64 rt], .slice A2 l2.length c2] w
      fun e w' => e = .returned (.tuple #[.agg #[.int .i64 0, .int .i64 0, .int .i64 0, .int .i64 0], .slice none 0 0, .int .i64 (dchk p x l t wd dw rt)]) ∧ Below w.heap.size w w' := by
  have HC := Aside0.mk (door_Check_eq 0 p x l t wd dw rt)
  have hb1 : (dchk p x l t wd dw rt == 0) = false := beq_eq_false_iff_ne.mpr h
  have hb2 : (dchk p x l t wd dw rt != 0) = true := bne_iff_ne.mpr h
  go_enter Try.func24, Try.ntmps24
  go_wp2_with (go_at_call 13; refine (door_Check.calls 2 p x l t wd dw rt _ _ HC.out).mono ?_; rintro e w1 ⟨rfl, hb⟩; have HB := Aside0.mk hb; have HR := blk_below (blk_new ((w.alloc (.cells #[.int .i64 p, .int .i64 x, .int .i64 l, .int .i64 t] 23)).alloc (.cells #[.int .i64 wd, .int .i64 dw, .int .i64 rt] 25)) (.cells #[.int .i64 0, .int .i64 0, .int .i64 0, .int .i64 0] 23)) hb; rw [World.size_alloc, World.size_alloc] at HR; have d0 := blk_cell HR 0; have d1 := blk_cell HR 1; have d2 := blk_cell HR 2; have d3 := blk_cell HR 3; simp at d0 d1 d2 d3; have f0 := blk_frozen HR 0; have f1 := blk_frozen HR 1; have f2 := blk_frozen HR 2; have f3 := blk_frozen HR 3; clear hb HR)
  refine bodyPost_ret (v := .tuple #[.agg #[.int .i64 0, .int .i64 0, .int .i64 0, .int .i64 0], .slice none 0 0, .int .i64 (dchk p x l t wd dw rt)]) (by simp [results, Try.results24, go_sem, *]) rfl ⟨rfl, ?_⟩
  exact below_set (below_set (below_set (below_set (below_step (below_alloc (below_alloc (below_alloc (Below.refl _ _) _) _) _) HB.out) (by omega)) (by omega)) (by omega)) (by omega)
theorem run_long (p x l t wd dw rt : Int) (A2 : Option Addr) (c2 : Nat) (l2 : List Bool) (w : World) (h : dchk p x l t wd dw rt = 0) (hl : l2.length > 1000) (hm : l2.length < 1000000000000000000) :
    Calls Try.prog 24 #[.agg #[.int .i64 p, .int .i64 x, .int .i64 l, .int .i64 t], .agg #[.int .i64 wd, .int .i64 dw, .int .i64 rt], .slice A2 l2.length c2] w
      fun e w' => e = .returned (.tuple #[.agg #[.int .i64 0, .int .i64 0, .int .i64 0, .int .i64 0], .slice none 0 0, .int .i64 4]) ∧ Below w.heap.size w w' := by
  have HC : Aside0 (door_Check.f 2 p x l t wd dw rt = some 0) := ⟨(door_Check_eq 0 p x l t wd dw rt).trans (congrArg some h)⟩
  have hb1 : decide ((1000 : Int) < (l2.length : Int)) = true := decide_eq_true (by omega)
  have hb2 : decide ((l2.length : Int) > 1000) = true := decide_eq_true (by omega)
  go_enter Try.func24, Try.ntmps24
  go_wp2_with (go_at_call 13; refine (door_Check.calls 2 p x l t wd dw rt _ _ HC.out).mono ?_; rintro e w1 ⟨rfl, hb⟩; have HB := Aside0.mk hb; have HR := blk_below (blk_new ((w.alloc (.cells #[.int .i64 p, .int .i64 x, .int .i64 l, .int .i64 t] 23)).alloc (.cells #[.int .i64 wd, .int .i64 dw, .int .i64 rt] 25)) (.cells #[.int .i64 0, .int .i64 0, .int .i64 0, .int .i64 0] 23)) hb; rw [World.size_alloc, World.size_alloc] at HR; have d0 := blk_cell HR 0; have d1 := blk_cell HR 1; have d2 := blk_cell HR 2; have d3 := blk_cell HR 3; simp at d0 d1 d2 d3; have f0 := blk_frozen HR 0; have f1 := blk_frozen HR 1; have f2 := blk_frozen HR 2; have f3 := blk_frozen HR 3; clear hb HR)
  refine bodyPost_ret (v := .tuple #[.agg #[.int .i64 0, .int .i64 0, .int .i64 0, .int .i64 0], .slice none 0 0, .int .i64 4]) (by simp [results, Try.results24, go_sem, *]) rfl ⟨rfl, ?_⟩
  exact below_set (below_set (below_set (below_set (below_step (below_alloc (below_alloc (below_alloc (Below.refl _ _) _) _) _) HB.out) (by omega)) (by omega)) (by omega)) (by omega)

theorem ticks_calls (p x l t wd dw rt : Int) (A2 : Option Addr) (n2 c2 : Nat) (w : World) :
    Calls Try.prog 39 #[.agg #[.int .i64 p, .int .i64 x, .int .i64 l, .int .i64 t], .agg #[.int .i64 wd, .int .i64 dw, .int .i64 rt], .slice A2 n2 c2] w
      fun e w' => e = .returned (.func (.func 41) #[] #[.pointer (some ⟨w.heap.size + 2, 0, none⟩), .pointer (some ⟨w.heap.size, 0, none⟩), .pointer (some ⟨w.heap.size + 1, 0, none⟩)]) ∧
        w' = ((w.alloc (.cells #[.int .i64 p, .int .i64 x, .int .i64 l, .int .i64 t] 23)).alloc (.cells #[.int .i64 wd, .int .i64 dw, .int .i64 rt] 25)).alloc (.cells #[.slice A2 n2 c2] 40) := by
  have hmf : ∀ (fn : Fn) (first cap : Array Value) (w : World), (Instr.makeFunc fn first cap).run Try.prog w = .ok (.func fn first cap) w := fun _ _ _ _ => rfl
  go_enter Try.func39, Try.ntmps39
  go_wp2
  go_ret
  exact ⟨rfl, rfl⟩

attribute [local go_sem] Oper.semAt_some

theorem dqs_ok {q : Int × Int × Int × Int} {wd dw rt : Int} (l2 : List Bool) (h : dV q.1 q.2.1 q.2.2.1 q.2.2.2 wd dw rt) : ∀ k, dV (dqs q wd dw rt l2 k).1 (dqs q wd dw rt l2 k).2.1 (dqs q wd dw rt l2 k).2.2.1 (dqs q wd dw rt l2 k).2.2.2 wd dw rt
  | 0 => h
  | k + 1 => dtk_ok _ (dqs_ok l2 h k)
theorem dopen_at {p x l t wd dw rt : Int} (o : Bool) (h : p = 1) : ((dtk p x l t wd dw rt o).1 == 2) = dopen (p, x, l, t) wd := by
  subst h
  unfold dtk dopen
  by_cases q : x + 1 = wd
  · simp [q]
  · simp [q]

end Go.Proofs.Ytofffhnhinolnaa.P
