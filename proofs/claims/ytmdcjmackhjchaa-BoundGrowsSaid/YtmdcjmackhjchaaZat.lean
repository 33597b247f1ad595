import Derived.Test.YtmdcjmackhjchaaZas
import Derived.Test.YtmdcjmackhjchaaZai
import Derived.Test.YtmdcjmackhjchaaZan
import Derived.Test.YtmdcjmackhjchaaZaq
import Derived.Test.YtmdcjmackhjchaaZar
section
/- The reference's Ticks: what it answers. -/
namespace Go.Proofs.Ytmdcjmackhjchaa.P
open Go.RowKit Go.Proofs.YtmdcjmackhjchaaW.PrintWords Go.Proofs.YtmdcjmackhjchaaW.PrintLast Go.Proofs.YtmdcjmackhjchaaW.PrintMore
set_option linter.unusedVariables false

def ref_Ticks.f (a0_0 : Int) (l0_1 : List Int) (a0_2 : Int) (a0_3 : Int) (a0_4 : Int) (a0_5 : Int) (a0_6 : Int) (a0_7 : Int) (a0_8 : Int) (a0_9 : Int) (a0_10 : Int) (a0_11 : Int) (a0_12 : Int) (l0_13 : List (List Int)) (a0_14 : Int) (a0_15 : Int) (a0_16 : Int) (a0_17 : Int) (a0_18 : Int) (a0_19 : Int) (a0_20 : Int) (a0_21 : Int) (a0_22 : Int) (l0_23 : List Int) (a0_24 : Int) (a1 : Int) : Option (Int × Int) :=
 (ref_Share.f (cfuel l0_1 l0_13 l0_23) a0_0 l0_1 a0_2 a0_3 a0_4 a0_5 a0_6 a0_7 a0_8 a0_9 a0_10 a0_11 a0_12 l0_13 a0_14 a0_15 a0_16 a0_17 a0_18 a0_19 a0_20 a0_21 a0_22 l0_23 a0_24).bind fun s => if s.2 = 0 then
  (if a1 < 1 then some (0, 2) else if a1 > 3 then some (0, 2) else if a0_2 < 0 then none else if a0_2 > 100 then none else
   (carsF (fun car => ref_slotOf.f (cfuel l0_1 l0_13 l0_23) a0_0 l0_1 a0_2 a0_3 a0_4 a0_5 a0_6 a0_7 a0_8 a0_9 a0_10 a0_11 a0_12 l0_13 a0_14 a0_15 a0_16 a0_17 a0_18 a0_19 a0_20 a0_21 a0_22 l0_23 a0_24 car a1) a0_2.toNat 0 false).bind fun has => if has = true then
    (r27_Times.f (cfuel l0_1 l0_13 l0_23 + 100000) a0_0 l0_1 a0_2 a0_3 a0_4 a0_5 a0_6 a0_7 a0_8 a0_9 a0_10 a0_11 a0_12 l0_13 a0_14 a0_15 a0_16 a0_17 a0_18 a0_19 a0_20 a0_21 a0_22 l0_23 a0_24).bind fun t =>
     if s.1 = 0 then none else some (wrap64 (wrap64 (wrap64 (Int.tdiv (wrap64 (wrap64 ((if a1 = 1 then a0_16 else if a1 = 2 then a0_19 else a0_22) + s.1) - 1)) s.1) + 4) * t.2.2.2.2.1), 0)
   else some (0, 6))
 else some (0, s.2)
theorem ref_Ticks.calls (a0_0 : Int) (A0_1 : Option Addr) (c0_1 : Nat) (l0_1 : List Int) (a0_2 : Int) (a0_3 : Int) (a0_4 : Int) (a0_5 : Int) (a0_6 : Int) (a0_7 : Int) (a0_8 : Int) (a0_9 : Int) (a0_10 : Int) (a0_11 : Int) (a0_12 : Int) (A0_13 : Option Addr) (c0_13 : Nat) (l0_13 : List (List Int)) (a0_14 : Int) (a0_15 : Int) (a0_16 : Int) (a0_17 : Int) (a0_18 : Int) (a0_19 : Int) (a0_20 : Int) (a0_21 : Int) (a0_22 : Int) (A0_23 : Option Addr) (c0_23 : Nat) (l0_23 : List Int) (a0_24 : Int) (a1 : Int) (r1 : Int) (r2 : Int) (w : World) (hr0_1 : Kd.C (Kd.int .i64) w A0_1 l0_1.length l0_1) (hc0_1 : l0_1.length ≤ c0_1) (hr0_13 : Kd.C (Kd.slice 3 (Kd.int .i64)) w A0_13 l0_13.length l0_13) (hc0_13 : l0_13.length ≤ c0_13) (hr0_23 : Kd.C (Kd.int .i64) w A0_23 l0_23.length l0_23) (hc0_23 : l0_23.length ≤ c0_23) (h : ref_Ticks.f a0_0 l0_1 a0_2 a0_3 a0_4 a0_5 a0_6 a0_7 a0_8 a0_9 a0_10 a0_11 a0_12 l0_13 a0_14 a0_15 a0_16 a0_17 a0_18 a0_19 a0_20 a0_21 a0_22 l0_23 a0_24 a1 = some (r1, r2)) :
  Calls Try.prog 11 #[.agg #[.int .i64 a0_0, .slice A0_1 l0_1.length c0_1, .int .i64 a0_2, .int .i64 a0_3, .int .i64 a0_4, .int .i64 a0_5, .int .i64 a0_6, .int .i64 a0_7, .int .i64 a0_8, .int .i64 a0_9, .int .i64 a0_10, .int .i64 a0_11, .int .i64 a0_12, .slice A0_13 l0_13.length c0_13, .int .u64 a0_14, .int .i64 a0_15, .int .i64 a0_16, .int .u64 a0_17, .int .i64 a0_18, .int .i64 a0_19, .int .u64 a0_20, .int .i64 a0_21, .int .i64 a0_22, .slice A0_23 l0_23.length c0_23, .int .i64 a0_24], .int .i64 a1] w fun e w' => e = .returned (.tuple #[.int .i64 r1, .int .i64 r2]) ∧ Below w.heap.size w w' := by
 have H := h
 unfold ref_Ticks.f at H
 obtain ⟨⟨sh, e⟩, hS, H⟩ := Option.bind_eq_some_iff.mp H
 by_cases he : e = 0
 ·subst he
  rw [if_pos rfl] at H
  by_cases h1 : a1 < 1
  ·rw [if_pos h1] at H
   simp only [Option.some.injEq, Prod.mk.injEq] at H
   obtain ⟨rfl, rfl⟩ := H
   exact ticksR_e2 ⟨a0_0, .slice A0_1 l0_1.length c0_1, a0_2, a0_3, a0_4, a0_5, a0_6, a0_7, a0_8, a0_9, a0_10, a0_11, a0_12, .slice A0_13 l0_13.length c0_13, .int .u64 a0_14, a0_15, a0_16, .int .u64 a0_17, a0_18, a0_19, .int .u64 a0_20, a0_21, a0_22, .slice A0_23 l0_23.length c0_23, a0_24⟩ a1 sh w (Or.inl h1) (fun W hB => ref_Share.calls (cfuel l0_1 l0_13 l0_23) a0_0 _ _ l0_1 a0_2 a0_3 a0_4 a0_5 a0_6 a0_7 a0_8 a0_9 a0_10 a0_11 a0_12 _ _ l0_13 a0_14 a0_15 a0_16 a0_17 a0_18 a0_19 a0_20 a0_21 a0_22 _ _ l0_23 a0_24 sh 0 W (Kd.C_below hr0_1 hB) hc0_1 (Kd.C_below hr0_13 hB) hc0_13 (Kd.C_below hr0_23 hB) hc0_23 hS)
  rw [if_neg h1] at H
  by_cases h3 : a1 > 3
  ·rw [if_pos h3] at H
   simp only [Option.some.injEq, Prod.mk.injEq] at H
   obtain ⟨rfl, rfl⟩ := H
   exact ticksR_e2 ⟨a0_0, .slice A0_1 l0_1.length c0_1, a0_2, a0_3, a0_4, a0_5, a0_6, a0_7, a0_8, a0_9, a0_10, a0_11, a0_12, .slice A0_13 l0_13.length c0_13, .int .u64 a0_14, a0_15, a0_16, .int .u64 a0_17, a0_18, a0_19, .int .u64 a0_20, a0_21, a0_22, .slice A0_23 l0_23.length c0_23, a0_24⟩ a1 sh w (Or.inr h3) (fun W hB => ref_Share.calls (cfuel l0_1 l0_13 l0_23) a0_0 _ _ l0_1 a0_2 a0_3 a0_4 a0_5 a0_6 a0_7 a0_8 a0_9 a0_10 a0_11 a0_12 _ _ l0_13 a0_14 a0_15 a0_16 a0_17 a0_18 a0_19 a0_20 a0_21 a0_22 _ _ l0_23 a0_24 sh 0 W (Kd.C_below hr0_1 hB) hc0_1 (Kd.C_below hr0_13 hB) hc0_13 (Kd.C_below hr0_23 hB) hc0_23 hS)
  rw [if_neg h3] at H
  by_cases h4 : a0_2 < 0
  ·rw [if_pos h4] at H; simp at H
  rw [if_neg h4] at H
  by_cases h5 : a0_2 > 100
  ·rw [if_pos h5] at H; simp at H
  rw [if_neg h5] at H
  obtain ⟨has, hF, H⟩ := Option.bind_eq_some_iff.mp H
  cases has with
  | true =>
    rw [if_pos rfl] at H
    obtain ⟨⟨mv, dv, tr, sl, cy, x⟩, hT, H⟩ := Option.bind_eq_some_iff.mp H
    by_cases hsh : sh = 0
    ·rw [if_pos hsh] at H; simp at H
    rw [if_neg hsh] at H
    simp only [Option.some.injEq, Prod.mk.injEq] at H
    obtain ⟨rfl, rfl⟩ := H
    rcases (show a1 = 1 ∨ a1 = 2 ∨ a1 = 3 by omega) with rfl | rfl | rfl
    ·exact ticksR_ok ⟨a0_0, .slice A0_1 l0_1.length c0_1, a0_2, a0_3, a0_4, a0_5, a0_6, a0_7, a0_8, a0_9, a0_10, a0_11, a0_12, .slice A0_13 l0_13.length c0_13, .int .u64 a0_14, a0_15, a0_16, .int .u64 a0_17, a0_18, a0_19, .int .u64 a0_20, a0_21, a0_22, .slice A0_23 l0_23.length c0_23, a0_24⟩ 0 (by omega) sh mv dv tr sl cy x a0_16 _ _ _ _ _ w (show (0 : Int) ≤ a0_2 by omega) (show a0_2 ≤ 100 by omega) rfl hsh rfl rfl rfl rfl (fun W hB => ref_Share.calls (cfuel l0_1 l0_13 l0_23) a0_0 _ _ l0_1 a0_2 a0_3 a0_4 a0_5 a0_6 a0_7 a0_8 a0_9 a0_10 a0_11 a0_12 _ _ l0_13 a0_14 a0_15 a0_16 a0_17 a0_18 a0_19 a0_20 a0_21 a0_22 _ _ l0_23 a0_24 sh 0 W (Kd.C_below hr0_1 hB) hc0_1 (Kd.C_below hr0_13 hB) hc0_13 (Kd.C_below hr0_23 hB) hc0_23 hS) hF
      (fun car r hr W hB => ref_slotOf.calls (cfuel l0_1 l0_13 l0_23) a0_0 _ _ l0_1 a0_2 a0_3 a0_4 a0_5 a0_6 a0_7 a0_8 a0_9 a0_10 a0_11 a0_12 _ _ l0_13 a0_14 a0_15 a0_16 a0_17 a0_18 a0_19 a0_20 a0_21 a0_22 _ _ l0_23 a0_24 car 1 r W (Kd.C_below hr0_1 hB) hc0_1 (Kd.C_below hr0_13 hB) hc0_13 (Kd.C_below hr0_23 hB) hc0_23 hr) (fun W hB => r27_Times.calls (cfuel l0_1 l0_13 l0_23 + 100000) a0_0 _ _ l0_1 a0_2 a0_3 a0_4 a0_5 a0_6 a0_7 a0_8 a0_9 a0_10 a0_11 a0_12 _ _ l0_13 a0_14 a0_15 a0_16 a0_17 a0_18 a0_19 a0_20 a0_21 a0_22 _ _ l0_23 a0_24 mv dv tr sl cy x W (Kd.C_below hr0_1 hB) hc0_1 (Kd.C_below hr0_13 hB) hc0_13 (Kd.C_below hr0_23 hB) hc0_23 hT)
    ·exact ticksR_ok ⟨a0_0, .slice A0_1 l0_1.length c0_1, a0_2, a0_3, a0_4, a0_5, a0_6, a0_7, a0_8, a0_9, a0_10, a0_11, a0_12, .slice A0_13 l0_13.length c0_13, .int .u64 a0_14, a0_15, a0_16, .int .u64 a0_17, a0_18, a0_19, .int .u64 a0_20, a0_21, a0_22, .slice A0_23 l0_23.length c0_23, a0_24⟩ 1 (by omega) sh mv dv tr sl cy x a0_19 _ _ _ _ _ w (show (0 : Int) ≤ a0_2 by omega) (show a0_2 ≤ 100 by omega) rfl hsh rfl rfl rfl rfl (fun W hB => ref_Share.calls (cfuel l0_1 l0_13 l0_23) a0_0 _ _ l0_1 a0_2 a0_3 a0_4 a0_5 a0_6 a0_7 a0_8 a0_9 a0_10 a0_11 a0_12 _ _ l0_13 a0_14 a0_15 a0_16 a0_17 a0_18 a0_19 a0_20 a0_21 a0_22 _ _ l0_23 a0_24 sh 0 W (Kd.C_below hr0_1 hB) hc0_1 (Kd.C_below hr0_13 hB) hc0_13 (Kd.C_below hr0_23 hB) hc0_23 hS) hF
      (fun car r hr W hB => ref_slotOf.calls (cfuel l0_1 l0_13 l0_23) a0_0 _ _ l0_1 a0_2 a0_3 a0_4 a0_5 a0_6 a0_7 a0_8 a0_9 a0_10 a0_11 a0_12 _ _ l0_13 a0_14 a0_15 a0_16 a0_17 a0_18 a0_19 a0_20 a0_21 a0_22 _ _ l0_23 a0_24 car 2 r W (Kd.C_below hr0_1 hB) hc0_1 (Kd.C_below hr0_13 hB) hc0_13 (Kd.C_below hr0_23 hB) hc0_23 hr) (fun W hB => r27_Times.calls (cfuel l0_1 l0_13 l0_23 + 100000) a0_0 _ _ l0_1 a0_2 a0_3 a0_4 a0_5 a0_6 a0_7 a0_8 a0_9 a0_10 a0_11 a0_12 _ _ l0_13 a0_14 a0_15 a0_16 a0_17 a0_18 a0_19 a0_20 a0_21 a0_22 _ _ l0_23 a0_24 mv dv tr sl cy x W (Kd.C_below hr0_1 hB) hc0_1 (Kd.C_below hr0_13 hB) hc0_13 (Kd.C_below hr0_23 hB) hc0_23 hT)
    ·exact ticksR_ok ⟨a0_0, .slice A0_1 l0_1.length c0_1, a0_2, a0_3, a0_4, a0_5, a0_6, a0_7, a0_8, a0_9, a0_10, a0_11, a0_12, .slice A0_13 l0_13.length c0_13, .int .u64 a0_14, a0_15, a0_16, .int .u64 a0_17, a0_18, a0_19, .int .u64 a0_20, a0_21, a0_22, .slice A0_23 l0_23.length c0_23, a0_24⟩ 2 (by omega) sh mv dv tr sl cy x a0_22 _ _ _ _ _ w (show (0 : Int) ≤ a0_2 by omega) (show a0_2 ≤ 100 by omega) rfl hsh rfl rfl rfl rfl (fun W hB => ref_Share.calls (cfuel l0_1 l0_13 l0_23) a0_0 _ _ l0_1 a0_2 a0_3 a0_4 a0_5 a0_6 a0_7 a0_8 a0_9 a0_10 a0_11 a0_12 _ _ l0_13 a0_14 a0_15 a0_16 a0_17 a0_18 a0_19 a0_20 a0_21 a0_22 _ _ l0_23 a0_24 sh 0 W (Kd.C_below hr0_1 hB) hc0_1 (Kd.C_below hr0_13 hB) hc0_13 (Kd.C_below hr0_23 hB) hc0_23 hS) hF
      (fun car r hr W hB => ref_slotOf.calls (cfuel l0_1 l0_13 l0_23) a0_0 _ _ l0_1 a0_2 a0_3 a0_4 a0_5 a0_6 a0_7 a0_8 a0_9 a0_10 a0_11 a0_12 _ _ l0_13 a0_14 a0_15 a0_16 a0_17 a0_18 a0_19 a0_20 a0_21 a0_22 _ _ l0_23 a0_24 car 3 r W (Kd.C_below hr0_1 hB) hc0_1 (Kd.C_below hr0_13 hB) hc0_13 (Kd.C_below hr0_23 hB) hc0_23 hr) (fun W hB => r27_Times.calls (cfuel l0_1 l0_13 l0_23 + 100000) a0_0 _ _ l0_1 a0_2 a0_3 a0_4 a0_5 a0_6 a0_7 a0_8 a0_9 a0_10 a0_11 a0_12 _ _ l0_13 a0_14 a0_15 a0_16 a0_17 a0_18 a0_19 a0_20 a0_21 a0_22 _ _ l0_23 a0_24 mv dv tr sl cy x W (Kd.C_below hr0_1 hB) hc0_1 (Kd.C_below hr0_13 hB) hc0_13 (Kd.C_below hr0_23 hB) hc0_23 hT)
  | false =>
    rw [if_neg (by simp)] at H
    simp only [Option.some.injEq, Prod.mk.injEq] at H
    obtain ⟨rfl, rfl⟩ := H
    exact ticksR_e3 ⟨a0_0, .slice A0_1 l0_1.length c0_1, a0_2, a0_3, a0_4, a0_5, a0_6, a0_7, a0_8, a0_9, a0_10, a0_11, a0_12, .slice A0_13 l0_13.length c0_13, .int .u64 a0_14, a0_15, a0_16, .int .u64 a0_17, a0_18, a0_19, .int .u64 a0_20, a0_21, a0_22, .slice A0_23 l0_23.length c0_23, a0_24⟩ a1 sh _ w h1 h3 (show (0 : Int) ≤ a0_2 by omega) (show a0_2 ≤ 100 by omega) (fun W hB => ref_Share.calls (cfuel l0_1 l0_13 l0_23) a0_0 _ _ l0_1 a0_2 a0_3 a0_4 a0_5 a0_6 a0_7 a0_8 a0_9 a0_10 a0_11 a0_12 _ _ l0_13 a0_14 a0_15 a0_16 a0_17 a0_18 a0_19 a0_20 a0_21 a0_22 _ _ l0_23 a0_24 sh 0 W (Kd.C_below hr0_1 hB) hc0_1 (Kd.C_below hr0_13 hB) hc0_13 (Kd.C_below hr0_23 hB) hc0_23 hS) hF
     (fun car r hr W hB => ref_slotOf.calls (cfuel l0_1 l0_13 l0_23) a0_0 _ _ l0_1 a0_2 a0_3 a0_4 a0_5 a0_6 a0_7 a0_8 a0_9 a0_10 a0_11 a0_12 _ _ l0_13 a0_14 a0_15 a0_16 a0_17 a0_18 a0_19 a0_20 a0_21 a0_22 _ _ l0_23 a0_24 car a1 r W (Kd.C_below hr0_1 hB) hc0_1 (Kd.C_below hr0_13 hB) hc0_13 (Kd.C_below hr0_23 hB) hc0_23 hr)
 ·rw [if_neg he] at H
  simp only [Option.some.injEq, Prod.mk.injEq] at H
  obtain ⟨rfl, rfl⟩ := H
  exact ticksR_e1 ⟨a0_0, .slice A0_1 l0_1.length c0_1, a0_2, a0_3, a0_4, a0_5, a0_6, a0_7, a0_8, a0_9, a0_10, a0_11, a0_12, .slice A0_13 l0_13.length c0_13, .int .u64 a0_14, a0_15, a0_16, .int .u64 a0_17, a0_18, a0_19, .int .u64 a0_20, a0_21, a0_22, .slice A0_23 l0_23.length c0_23, a0_24⟩ a1 sh _ w he (fun W hB => ref_Share.calls (cfuel l0_1 l0_13 l0_23) a0_0 _ _ l0_1 a0_2 a0_3 a0_4 a0_5 a0_6 a0_7 a0_8 a0_9 a0_10 a0_11 a0_12 _ _ l0_13 a0_14 a0_15 a0_16 a0_17 a0_18 a0_19 a0_20 a0_21 a0_22 _ _ l0_23 a0_24 sh _ W (Kd.C_below hr0_1 hB) hc0_1 (Kd.C_below hr0_13 hB) hc0_13 (Kd.C_below hr0_23 hB) hc0_23 hS)
end Go.Proofs.Ytmdcjmackhjchaa.P
end

section
/- Times, shares and bounds: the program answers as the references do. Plain Lean, by the printed functions. -/
namespace Go.Proofs.Ytmdcjmackhjchaa.P
open Go.RowKit Go.Proofs.YtmdcjmackhjchaaW.PrintWords Go.Proofs.YtmdcjmackhjchaaW.PrintLast Go.Proofs.YtmdcjmackhjchaaW.PrintMore
set_option linter.unusedVariables false
set_option linter.unusedSimpArgs false

theorem okG_at {g : List Int} : ∀ (d i : Nat), okG g d i = true → ∀ j : Nat, i ≤ j → j < i + d → 1 ≤ rd g j ∧ rd g j ≤ 1000
 | 0, i, _, j, h1, h2 => by omega
 | d + 1, i, h, j, h1, h2 => by
  rw [okG] at h
  by_cases q : inb (rd g i) 1 1000 = true
  ·rw [if_pos q] at h
   rcases Nat.eq_or_lt_of_le h1 with e | e
   ·subst e
    unfold inb at q
    rw [Bool.and_eq_true] at q
    exact ⟨of_decide_eq_true q.1, of_decide_eq_true q.2⟩
   ·exact okG_at d (i + 1) h j e (by omega)
  ·rw [if_neg q] at h; cases h
section
variable (f : Int) (g : List Int) (cars : Int) (sp : Int) (br : Int) (tol : Int) (w : Int) (dw : Int) (re : Int) (em : Int) (fu : Int) (tr : Int) (sl : Int) (t : List (List Int)) (m0 : Int) (h0 : Int) (k0 : Int) (m1 : Int) (h1 : Int) (k1 : Int) (m2 : Int) (h2 : Int) (k2 : Int) (ks : List Int) (li : Int)
theorem cfuel_ok (hg : g.length ≤ 1000) (ht : t.length ≤ 1000) (hl : ks.length ≤ 1000) : g.length + t.length + t.length * 26 + ks.length + 20 ≤ cfuel g t ks := by unfold cfuel; omega
theorem share_same (hg : g.length ≤ 1000) (ht : t.length ≤ 1000) (hl : ks.length ≤ 1000) (w0 : 0 ≤ m0) (v0 : m0 < 18446744073709551616) (w1 : 0 ≤ m1) (v1 : m1 < 18446744073709551616) (w2 : 0 ≤ m2) (v2 : m2 < 18446744073709551616) (k : Nat) (hk : g.length + t.length + t.length * 26 + ks.length + 20 ≤ k) : ref_Share.f k f g cars sp br tol w dw re em fu tr sl t m0 h0 k0 m1 h1 k1 m2 h2 k2 ks li = bound_Share.f f g cars sp br tol w dw re em fu tr sl t m0 h0 k0 m1 h1 k1 m2 h2 k2 ks li ∧ bound_Share.f f g cars sp br tol w dw re em fu tr sl t m0 h0 k0 m1 h1 k1 m2 h2 k2 ks li = (if checkE f g cars sp br tol w dw re em fu tr sl t m0 h0 k0 m1 h1 k1 m2 h2 k2 ks li = 0 then some (wrap64 (Int.tdiv (wrap64 (tr + 1)) 2), 0) else some (0, checkE f g cars sp br tol w dw re em fu tr sl t m0 h0 k0 m1 h1 k1 m2 h2 k2 ks li)) := by
 have hs1 : bound_Share.f f g cars sp br tol w dw re em fu tr sl t m0 h0 k0 m1 h1 k1 m2 h2 k2 ks li = (if checkE f g cars sp br tol w dw re em fu tr sl t m0 h0 k0 m1 h1 k1 m2 h2 k2 ks li = 0 then some (wrap64 (Int.tdiv (wrap64 (tr + 1)) 2), 0) else some (0, checkE f g cars sp br tol w dw re em fu tr sl t m0 h0 k0 m1 h1 k1 m2 h2 k2 ks li)) := by
  rw [bound_Share.f, chk_f f g cars sp br tol w dw re em fu tr sl t m0 h0 k0 m1 h1 k1 m2 h2 k2 ks li hg ht hl w0 v0 w1 v1 w2 v2 (cfuel_ok g t ks hg ht hl), Option.bind_some]
 refine ⟨?_, hs1⟩
 rw [hs1, ref_Share.f, rchk_f f g cars sp br tol w dw re em fu tr sl t m0 h0 k0 m1 h1 k1 m2 h2 k2 ks li k hg ht hl w0 v0 w1 v1 w2 v2 hk, Option.bind_some]
end
end Go.Proofs.Ytmdcjmackhjchaa.P
end

section
/- Small configurations: they are valid; their times and bounds. Plain Lean. -/
namespace Go.Proofs.Ytmdcjmackhjchaa.P
open Go.RowKit Go.Proofs.YtmdcjmackhjchaaW.PrintWords Go.Proofs.YtmdcjmackhjchaaW.PrintLast Go.Proofs.YtmdcjmackhjchaaW.PrintMore
set_option linter.unusedVariables false
set_option linter.unusedSimpArgs false

/-- A small configuration: with at most kk calls of a domain, and at most ss slots. -/
structure Small (kk ss f : Int) (g : List Int) (cars sp br tol w dw re em fu tr sl : Int) (t : List (List Int)) (m0 h0 k0 m1 h1 k1 m2 h2 k2 : Int) (ks : List Int) (li : Int) : Prop where
 f0 : 2 ≤ f
 f1 : f ≤ 6
 gl : (g.length : Int) = f - 1
 ge : ∀ x ∈ g, 1 ≤ x ∧ x ≤ 6
 c0 : 1 ≤ cars
 c1 : cars ≤ 4
 sp0 : 1 ≤ sp
 sp1 : sp ≤ 3
 br0 : 0 ≤ br
 br1 : br ≤ 1
 to0 : 0 ≤ tol
 to1 : tol ≤ 1
 w0 : 1 ≤ w
 w1 : w ≤ 2
 dw0 : 1 ≤ dw
 dw1 : dw ≤ 2
 re0 : 0 ≤ re
 re1 : re ≤ 1
 em0 : 0 ≤ em
 em1 : em ≤ 9
 fu0 : 50 ≤ fu
 fu1 : fu ≤ 99
 tr0 : 1 ≤ tr
 tr1 : tr ≤ 3
 sl0 : 1 ≤ sl
 sl1 : sl ≤ ss
 tl : (t.length : Int) = cars
 te : ∀ r ∈ t, (r.length : Int) = sl ∧ ∀ x ∈ r, 0 ≤ x ∧ x ≤ 3
 r0 : ruleE f m0 h0 k0 = 0
 r1 : ruleE f m1 h1 k1 = 0
 r2 : ruleE f m2 h2 k2 = 0
 ka : k0 ≤ kk
 kb : k1 ≤ kk
 kc : k2 ≤ kk
 ma : 0 ≤ m0 ∧ m0 < 64
 mb : 0 ≤ m1 ∧ m1 < 64
 mc : 0 ≤ m2 ∧ m2 < 64
 ky : ksE ks = 0
 kl : ks.length ≤ 2
 li0 : 5 ≤ li
 li1 : li ≤ 60
theorem rd_mem (l : List Int) (i : Nat) (h : i < l.length) : rd l (i : Int) ∈ l := by
 have : rd l (i : Int) = l[i] := by simp [rd, h]
 rw [this]; exact List.getElem_mem h
theorem rdL_mem (l : List (List Int)) (i : Nat) (h : i < l.length) : rd_L1 l (i : Int) ∈ l := by
 have : rd_L1 l (i : Int) = l[i] := by simp [rd_L1, h]
 rw [this]; exact List.getElem_mem h
theorem okG_all {g : List Int} (h : ∀ x ∈ g, 1 ≤ x ∧ x ≤ 1000) : ∀ d i : Nat, i + d = g.length → okG g d i = true
 | 0, i, _ => rfl
 | d + 1, i, hi => by
  rw [okG, if_pos (by unfold inb; have := h _ (rd_mem g i (by omega)); simp [this])]
  exact okG_all h d (i + 1) (by omega)
theorem okD_all {l : List Int} (h : ∀ x ∈ l, 0 ≤ x ∧ x ≤ 3) : ∀ d j : Nat, j + d = l.length → okD l d j = true
 | 0, j, _ => rfl
 | d + 1, j, hj => by
  rw [okD, if_pos (by unfold inb; have := h _ (rd_mem l j (by omega)); simp [this])]
  exact okD_all h d (j + 1) (by omega)
theorem okLen_all {t : List (List Int)} {sl : Int} (h : ∀ r ∈ t, (r.length : Int) = sl) : ∀ d i : Nat, i + d = t.length → okLen t sl d i = true
 | 0, i, _ => rfl
 | d + 1, i, hi => by
  rw [okLen, if_pos (h _ (rdL_mem t i (by omega)))]
  exact okLen_all h d (i + 1) (by omega)
theorem okRows_all {t : List (List Int)} {s : Nat} (h : ∀ r ∈ t, r.length = s ∧ ∀ x ∈ r, 0 ≤ x ∧ x ≤ 3) : ∀ d i : Nat, i + d = t.length → okRows t s d i = true
 | 0, i, _ => rfl
 | d + 1, i, hi => by
  have z := h _ (rdL_mem t i (by omega))
  rw [okRows, if_pos (okD_all z.2 s 0 (by omega))]
  exact okRows_all h d (i + 1) (by omega)
section
variable {kk ss f : Int} {g : List Int} {cars : Int} {sp : Int} {br : Int} {tol : Int} {w : Int} {dw : Int} {re : Int} {em : Int} {fu : Int} {tr : Int} {sl : Int} {t : List (List Int)} {m0 : Int} {h0 : Int} {k0 : Int} {m1 : Int} {h1 : Int} {k1 : Int} {m2 : Int} {h2 : Int} {k2 : Int} {ks : List Int} {li : Int}
theorem Small.check (S : Small kk ss f g cars sp br tol w dw re em fu tr sl t m0 h0 k0 m1 h1 k1 m2 h2 k2 ks li) (hk : kk ≤ 32) (hs : ss ≤ 24) : checkE f g cars sp br tol w dw re em fu tr sl t m0 h0 k0 m1 h1 k1 m2 h2 k2 ks li = 0 := by
 obtain ⟨f0, f1, gl, ge, c0, c1, sp0, sp1, br0, br1, to0, to1, w0, w1, dw0, dw1, re0, re1, em0, em1, fu0, fu1, tr0, tr1, sl0, sl1, tl, te, r0, r1, r2, ka, kb, kc, ma, mb, mc, ky, kl, li0, li1⟩ := S
 unfold checkE
 have hf : fok ⟨f, .slice none 0 0, cars, sp, br, tol, w, dw, re, em, fu, tr, sl, .slice none 0 0, .int .u64 m0, h0, k0, .int .u64 m1, h1, k1, .int .u64 m2, h2, k2, .slice none 0 0, li⟩ = true := by
  have e : IntKind.i64.wrap (em + 1) = em + 1 := by simp only [i64_w]; unfold wrap64; omega
  simp [fok, frows, inb, e]
  omega
 rw [if_pos hf]
 unfold listsE
 rw [if_pos gl, if_pos (okG_all (fun x hx => by have := ge x hx; omega) g.length 0 (by omega)), if_pos tl, if_pos (okLen_all (fun r hr => (te r hr).1) t.length 0 (by omega)),
  if_pos (okRows_all (fun r hr => ⟨by have := (te r hr).1; omega, (te r hr).2⟩) t.length 0 (by omega))]
 unfold rulesE
 rw [if_pos r0, if_pos r1, if_pos r2, ky]
/-- A slot's length: it depends on the shaft, the drive, the door and the trips alone. -/
theorem times_val (sp br w dw re tr f0 : Int) (g : List Int) (hl0 : (g.length : Int) = f0 - 1) (hf0 : 2 ≤ f0 ∧ f0 ≤ 6) (hge : ∀ x ∈ g, 1 ≤ x ∧ x ≤ 6) (hsp : 1 ≤ sp ∧ sp ≤ 3) (hbr : 0 ≤ br ∧ br ≤ 1) (hw : 1 ≤ w ∧ w ≤ 2) (hdw : 1 ≤ dw ∧ dw ≤ 2) (hre : 0 ≤ re ∧ re ≤ 1) (htr : 1 ≤ tr ∧ tr ≤ 3) :
  ∃ mv dv q sn, 1 ≤ sn ∧ sn ≤ 10000000 ∧ ∀ (f cars tol em fu sl : Int) (t : List (List Int)) (m0 h0 k0 m1 h1 k1 m2 h2 k2 : Int) (ks : List Int) (li : Int), checkE f g cars sp br tol w dw re em fu tr sl t m0 h0 k0 m1 h1 k1 m2 h2 k2 ks li = 0 → t.length ≤ 1000 → ks.length ≤ 1000 → 0 ≤ m0 → m0 < 64 → 0 ≤ m1 → m1 < 64 → 0 ≤ m2 → m2 < 64 →
   config_Times.f f g cars sp br tol w dw re em fu tr sl t m0 h0 k0 m1 h1 k1 m2 h2 k2 ks li = some (mv, dv, q, sn, wrap64 (sl * sn), 0) := by
 have g2 := okG_all (g := g) (fun x hx => by have := hge x hx; omega) g.length 0 (by omega)
 have hgok : Sh.gok g := ⟨by omega, by omega, fun j hj => okG_at _ _ g2 j (by omega) (by omega)⟩
 have hp := Sh.pos_top g hgok g.length (Nat.le_refl _)
 have hb := pos_bound g hgok.2.2 g.length (Nat.le_refl _)
 obtain ⟨T, hT, hTl⟩ := pcnt_way (pos g g.length) sp hp.1 (by omega) (by omega) (by omega)
 obtain ⟨dv, hD, hdv⟩ : ∃ dv, door_Worst.f w dw re = some (dv, 0) ∧ 3 ≤ dv ∧ dv ≤ 11 := by
  have e1 : door_Rule.f w dw re = some 0 := by
   unfold door_Rule.f
   rw [if_neg (by omega), if_neg (by omega), if_neg (by omega), if_neg (by omega), if_neg (by omega), if_neg (by omega)]
  refine ⟨_, by unfold door_Worst.f; rw [e1, Option.bind_some, if_pos rfl], ?_⟩
  rcases (show re = 0 ∨ re = 1 by omega) with rfl | rfl
  ·unfold wrap64; omega
  ·unfold wrap64; omega
 have hL : ¬ pos g g.length = 0 := by omega
 obtain ⟨mv, hmv, mv0, mv1⟩ : ∃ x, wrap64 ((T : Int) + wrap64 (2 * br)) = x ∧ 0 ≤ x ∧ x ≤ 63100 := ⟨_, rfl, by unfold wrap64; omega, by unfold wrap64; omega⟩
 obtain ⟨sn, hsn, sn0, sn1⟩ : ∃ x, wrap64 (mv + wrap64 (wrap64 (tr + 1) * wrap64 (mv + dv))) = x ∧ 1 ≤ x ∧ x ≤ 10000000 := by
  refine ⟨_, rfl, ?_⟩
  rcases (show tr = 1 ∨ tr = 2 ∨ tr = 3 by omega) with rfl | rfl | rfl
  ·rw [show wrap64 (1 + 1) = 2 by unfold wrap64; omega, wsm (mv + dv) (by omega) (by omega), wsm (2 * (mv + dv)) (by omega) (by omega), wsm (mv + 2 * (mv + dv)) (by omega) (by omega)]; omega
  ·rw [show wrap64 (2 + 1) = 3 by unfold wrap64; omega, wsm (mv + dv) (by omega) (by omega), wsm (3 * (mv + dv)) (by omega) (by omega), wsm (mv + 3 * (mv + dv)) (by omega) (by omega)]; omega
  ·rw [show wrap64 (3 + 1) = 4 by unfold wrap64; omega, wsm (mv + dv) (by omega) (by omega), wsm (4 * (mv + dv)) (by omega) (by omega), wsm (mv + 4 * (mv + dv)) (by omega) (by omega)]; omega
 refine ⟨mv, dv, wrap64 (mv + dv), sn, sn0, sn1, ?_⟩
 intro f cars tol em fu sl t m0 h0 k0 m1 h1 k1 m2 h2 k2 ks li hz ht hl a0 a1 b0 b1 c0 c1
 have hg : g.length ≤ 1000 := by omega
 have hW : config_way.f f g cars sp br tol w dw re em fu tr sl t m0 h0 k0 m1 h1 k1 m2 h2 k2 ks li (pos g g.length) = some mv := by
  rw [config_way.f, if_neg hL, travel_eq _ _ hp.1 (by omega) (by omega) (by omega) hT, Option.bind_some, hmv]
 rw [config_Times.f, chk_f f g cars sp br tol w dw re em fu tr sl t m0 h0 k0 m1 h1 k1 m2 h2 k2 ks li hg ht hl (by omega) (by omega) (by omega) (by omega) (by omega) (by omega) (cfuel_ok g t ks hg ht hl), Option.bind_some, if_pos hz, Sh.Height_ok g hgok, Option.bind_some, hW, Option.bind_some, hD, Option.bind_some, hsn]
/-- The calls' share, rounded up. -/
theorem ceil_ok (k s : Int) (hk : 1 ≤ k) (hk2 : k ≤ 32) (hs : 1 ≤ s) (hs2 : s ≤ 2) : wrap64 (wrap64 (Int.tdiv (wrap64 (wrap64 (k + s) - 1)) s) + 4) = (k + s - 1) / s + 4 := by
 rw [wsm (k + s) (by omega) (by omega), wsm (k + s - 1) (by omega) (by omega), Int.tdiv_eq_ediv_of_nonneg (by omega)]
 have h0 : 0 ≤ (k + s - 1) / s := Int.ediv_nonneg (by omega) (by omega)
 have h1 : (k + s - 1) / s ≤ k + s - 1 := Int.ediv_le_self _ (by omega)
 rw [wsm ((k + s - 1) / s) (by omega) (by omega), wsm ((k + s - 1) / s + 4) (by omega) (by omega)]
theorem small_ticks (hz : checkE f g cars sp br tol w dw re em fu tr sl t m0 h0 k0 m1 h1 k1 m2 h2 k2 ks li = 0) (hg : g.length ≤ 1000) (ht : t.length ≤ 1000) (hl : ks.length ≤ 1000) (a0 : 0 ≤ m0 ∧ m0 < 64) (b0 : 0 ≤ m1 ∧ m1 < 64) (c0 : 0 ≤ m2 ∧ m2 < 64) (tr0 : 1 ≤ tr) (tr1 : tr ≤ 3) (sl0 : 1 ≤ sl) (sl1 : sl ≤ 24)
  (d : Int) (hd : d = 1 ∨ d = 2 ∨ d = 3) (mv dv q sn : Int) (sn0 : 1 ≤ sn) (sn1 : sn ≤ 10000000) (hT : config_Times.f f g cars sp br tol w dw re em fu tr sl t m0 h0 k0 m1 h1 k1 m2 h2 k2 ks li = some (mv, dv, q, sn, wrap64 (sl * sn), 0)) (hk : 1 ≤ (if d = 1 then k0 else if d = 2 then k1 else k2)) (hk2 : (if d = 1 then k0 else if d = 2 then k1 else k2) ≤ 32) :
  bound_Ticks.f f g cars sp br tol w dw re em fu tr sl t m0 h0 k0 m1 h1 k1 m2 h2 k2 ks li d = (if (t.any fun x => hasv x d) = true then some ((((if d = 1 then k0 else if d = 2 then k1 else k2) + (tr + 1) / 2 - 1) / ((tr + 1) / 2) + 4) * (sl * sn), 0) else some (0, 6)) := by
 obtain ⟨z1, z2⟩ := share_same f g cars sp br tol w dw re em fu tr sl t m0 h0 k0 m1 h1 k1 m2 h2 k2 ks li hg ht hl (by omega) (by omega) (by omega) (by omega) (by omega) (by omega) _ (cfuel_ok g t ks hg ht hl)
 have hsl : sl * sn ≤ 24 * 10000000 := Int.mul_le_mul sl1 sn1 (by omega) (by omega)
 have hsl0 : 1 ≤ sl * sn := by
  have := Int.mul_le_mul sl0 sn0 (by omega) (by omega)
  omega
 have hsh : wrap64 (Int.tdiv (wrap64 (tr + 1)) 2) = (tr + 1) / 2 := by
  rw [wsm (tr + 1) (by omega) (by omega), Int.tdiv_eq_ediv_of_nonneg (by omega), wsm _ (by omega) (by omega)]
 unfold bound_Ticks.f
 rw [z2, if_pos hz, Option.bind_some]
 dsimp only
 rw [if_pos rfl, show bound_domains.f d = some 0 by unfold bound_domains.f; rw [if_neg (by omega), if_neg (by omega)], Option.bind_some, if_pos rfl]
 by_cases q2 : (t.any fun x => hasv x d) = true
 ·rw [if_pos q2, if_pos q2, hT, Option.bind_some, hsh, if_neg (show ¬ (tr + 1) / 2 = 0 by omega)]
  dsimp only
  generalize (if d = 1 then k0 else if d = 2 then k1 else k2) = kd at hk hk2
  rw [ceil_ok kd ((tr + 1) / 2) hk hk2 (by omega) (by omega), wsm (sl * sn) (by omega) (by omega)]
  have h0 : 0 ≤ (kd + (tr + 1) / 2 - 1) / ((tr + 1) / 2) := Int.ediv_nonneg (by omega) (by omega)
  have h1 : (kd + (tr + 1) / 2 - 1) / ((tr + 1) / 2) ≤ kd + (tr + 1) / 2 - 1 := Int.ediv_le_self _ (by omega)
  have h2 : ((kd + (tr + 1) / 2 - 1) / ((tr + 1) / 2) + 4) * (sl * sn) ≤ 100 * (24 * 10000000) := Int.mul_le_mul (by omega) hsl (by omega) (by omega)
  have h3 : 0 ≤ ((kd + (tr + 1) / 2 - 1) / ((tr + 1) / 2) + 4) * (sl * sn) := Int.mul_nonneg (by omega) (by omega)
  rw [wsm _ (by omega) (by omega)]
 ·rw [if_neg q2, if_neg q2]
/-- What the law asks: more calls never lower the bound, another slot raises it, and it is five cycles at least, whole ones. -/
theorem grows_ok (kd s sl sn : Int) (hk : 1 ≤ kd) (hs : 1 ≤ s) (hs2 : s ≤ 2) (hsl : 1 ≤ sl) (hsn : 1 ≤ sn) :
  ((kd + s - 1) / s + 4) * (sl * sn) ≤ ((kd + 1 + s - 1) / s + 4) * (sl * sn) ∧ ((kd + s - 1) / s + 4) * (sl * sn) < ((kd + s - 1) / s + 4) * ((sl + 1) * sn) ∧ Int.tmod (((kd + s - 1) / s + 4) * (sl * sn)) (sl * sn) = 0 ∧ 5 * (sl * sn) ≤ ((kd + s - 1) / s + 4) * (sl * sn) := by
 have h1 : 1 ≤ sl * sn := by
  have := Int.mul_le_mul hsl hsn (by omega) (by omega)
  omega
 have h2 : 1 ≤ (kd + s - 1) / s := by
  rw [Int.le_ediv_iff_mul_le (by omega)]; omega
 have h3 : (kd + s - 1) / s ≤ (kd + 1 + s - 1) / s := Int.ediv_le_ediv (by omega) (by omega)
 refine ⟨Int.mul_le_mul_of_nonneg_right (by omega) (by omega), ?_, Int.mul_tmod_left _ _, Int.mul_le_mul_of_nonneg_right (by omega) (by omega)⟩
 exact Int.mul_lt_mul_of_pos_left (by rw [Int.add_mul]; omega) (by omega)
end
end Go.Proofs.Ytmdcjmackhjchaa.P
end

section
/- tipstafflaw41.awake, walked by hand over what its calls answer. -/
namespace Go.Proofs.Ytmdcjmackhjchaa.P
open Go.RowKit Go.Proofs.YtmdcjmackhjchaaW.PrintWords Go.Proofs.YtmdcjmackhjchaaW.PrintLast Go.Proofs.YtmdcjmackhjchaaW.PrintMore
attribute [local go_sem] cell_same1 cell_some1
set_option linter.unusedVariables false
set_option linter.unusedSimpArgs false

section
variable {P : Program} {ops : Array Oper} {Q : Exit → Act → World → Prop} {rest : List Oper} {o : Oper} {a : Act}
/-- A whole store: the world behind it is told by its blocks. -/
theorem swm {W : World} {g : Nat} {us : Array Value} {vs : List Value} {t : TypeId} {x y : Operand} (hb : W.heap[g]? = some (.cells us t (0, 0)))
  (h : ∀ W', W'.heap[g]? = some (.cells vs.toArray t (0, 0)) → (∀ k, k ≠ g → W'.heap[k]? = W.heap[k]?) → (∀ n w0, Below n w0 W → n ≤ g → Below n w0 W') → wpList P ops Q rest a W')
  (hs : us.size = vs.length) (ho : o.op = .store t x y := by rfl) (hd : o.dst = none := by rfl) (hgd : o.guard = none := by rfl) (hx : a.eval x = .pointer (some ⟨g, 0, none⟩) := by rfl) (hy : a.eval y = .agg vs.toArray := by rfl)
  (hi : (P.info? t).map (·.size) = some vs.length := by kernel_rfl) (h1 : vs.all (·.oneCell') = true := by rfl) : wpList P ops Q (o :: rest) a W := by
 have hset : ∀ (l : List Value) (i n : Nat) (w0 V : World), Below n w0 V → n ≤ g → Below n w0 (V.setCells g i l) := by
  intro l
  induction l with
  | nil => intro i n w0 V h _; exact h
  | cons v r ih => intro i n w0 V h hn; exact ih (i + 1) n w0 _ (h.setCell hn _) hn
 refine wpList_store_mid hgd t x y ho g 0 vs.toArray hx hy ?_ (by simpa using hi) (by rw [List.all_toArray]; exact h1) ?_
 ·intro j hj
  refine ⟨?_, blk_frozen hb _⟩
  rw [blk_cell hb]
  have hj2 : 0 + j < us.size := by rw [hs]; simpa using hj
  rw [Array.getElem?_eq_getElem hj2]
  rfl
 ·rw [hd]
  obtain ⟨cur, h3, h4, h5⟩ := setCells_row (g := g) vs 0 W us hb (by omega)
  have hc : cur = vs.toArray := by
   apply Array.toList_inj.mp
   rw [h5, List.take_zero, List.nil_append, List.drop_eq_nil_of_le (by rw [Array.length_toList]; omega), List.append_nil]
  rw [hc] at h3
  exact h _ h3 (fun k hk => setCells_far vs 0 k hk) (fun n w0 hn hng => hset vs 0 n w0 W hn hng)
end
set_option maxHeartbeats 4000000 in
set_option maxRecDepth 100000 in
theorem awake_ok (w : World) (E : Cfg → World → Prop) (m o mv dv tr sl cy : Int) (hm : wrap64 (8 * cy) = m) (hm0 : m > 0)
  (HE : Calls Try.prog 16 #[] w fun e w' => ∃ c : Cfg, e = .returned (.agg c.cells) ∧ c.cells.toList.all (·.oneCell') = true ∧ E c w' ∧ Below w.heap.size w w')
  (HX : ∀ c W W', E c W → Below W.heap.size W W' → E c W')
  (HS : ∀ c W, E c W → Calls Try.prog 8 #[.agg c.cells] W fun e w' => e = .returned (.tuple #[.int .i64 2, .int .i64 0]) ∧ Below W.heap.size W w')
  (H1 : ∀ c W, E c W → Calls Try.prog 10 #[.agg c.cells, .int .i64 1] W fun e w' => e = .returned (.tuple #[.int .i64 m, .int .i64 0]) ∧ Below W.heap.size W w')
  (H3 : ∀ c W, E c W → Calls Try.prog 10 #[.agg c.cells, .int .i64 3] W fun e w' => e = .returned (.tuple #[.int .i64 o, .int .i64 6]) ∧ Below W.heap.size W w')
  (HT : ∀ c W, E c W → Calls Try.prog 15 #[.agg c.cells] W fun e w' => e = .returned (.tuple #[.agg #[.int .i64 mv, .int .i64 dv, .int .i64 tr, .int .i64 sl, .int .i64 cy], .int .i64 0]) ∧ Below W.heap.size W w') :
  Calls Try.prog 6 #[] w fun e w' => e = .returned (.bool true) ∧ Below w.heap.size w w' := by
 have hu29 := Try.underlying29
 have hu42 := Try.underlying42
 have HE := Aside0.mk HE
 have HX := Aside0.mk HX
 have HS := Aside0.mk HS
 have H1 := Aside0.mk H1
 have H3 := Aside0.mk H3
 have HT := Aside0.mk HT
 have HM := Aside0.mk hm
 have HM0 := Aside0.mk hm0
 clear hm hm0
 go_enter Try.func6, Try.ntmps6
 go_upto_region 2 with (first | (go_at_call 16; (with_reducible refine HE.out.mono ?_); rintro e w1 ⟨c, rfl, ho, he, hb⟩; have HO := Aside0.mk ho; clear ho; have HEC := Aside0.mk he; have HB := Aside0.mk hb; clear he hb) | ((with_reducible refine gate_dst (N := 1) rfl ?_); refine bxe (cs := #[.int .i64 0, .slice none 0 0, .int .i64 0, .int .i64 0, .int .i64 0, .int .i64 0, .int .i64 0, .int .i64 0, .int .i64 0, .int .i64 0, .int .i64 0, .int .i64 0, .int .i64 0, .slice none 0 0, .int .u64 0, .int .i64 0, .int .i64 0, .int .u64 0, .int .i64 0, .int .i64 0, .int .u64 0, .int .i64 0, .int .i64 0, .slice none 0 0, .int .i64 0]) (t := 29) ?_; intro g1 hg w2 hbox hb; have B0 := Aside0.mk hbox; have G1 := Aside0.mk (show w1.heap.size ≤ g1 by rw [hg]; exact Nat.le_refl _); have B2 := Aside0.mk hb; clear hb hbox hg) | ((with_reducible refine gate_store (t := 29) (p := 1) rfl ?_); refine swm (g := g1) B0.out ?_ (by rfl) (h1 := HO.out); intro w3 hw3 hfar hbel; have B1 := Aside0.mk hw3; have B3 := Aside0.mk (hbel _ _ B2.out G1.out); clear hw3 hfar hbel))
 try simp only [Act.put, List.setIfInBounds_toArray, List.set_cons_zero, List.set_cons_succ]
 replace HEC := Aside0.mk (HX.out c _ _ HEC.out B3.out)
 replace HB := Aside0.mk (below_step HB.out B3.out)
 clear B0 B2 B3 G1
 replace B1 := Aside0.mk (show w3.heap[g1]? = some (.cells c.cells 29) from B1.out)
 go_upto_region 6 with (first | ((with_reducible refine gate_dst (N := 12) rfl ?_); refine lwx (g := g1) B1.out ?_) | ((with_reducible refine gate_dst (N := 17) rfl ?_); refine lwx (g := g1) B1.out ?_) | ((with_reducible refine gate_dst (N := 22) rfl ?_); refine lwx (g := g1) B1.out ?_) | ((with_reducible refine gate_dst (N := 27) rfl ?_); refine lwx (g := g1) B1.out ?_) | (go_at_call 8; (with_reducible refine (HS.out c _ HEC.out).mono ?_); rintro e w4 ⟨rfl, hb⟩; replace HEC := Aside0.mk (HX.out c _ _ HEC.out hb); replace B1 := Aside0.mk (blk_below B1.out hb); replace HB := Aside0.mk (below_step HB.out hb); clear hb) | (go_at_call 10; (with_reducible refine (H1.out c _ HEC.out).mono ?_); rintro e w5 ⟨rfl, hb⟩; replace HEC := Aside0.mk (HX.out c _ _ HEC.out hb); replace B1 := Aside0.mk (blk_below B1.out hb); replace HB := Aside0.mk (below_step HB.out hb); clear hb) | (go_at_call 10; (with_reducible refine (H3.out c _ HEC.out).mono ?_); rintro e w6 ⟨rfl, hb⟩; replace HEC := Aside0.mk (HX.out c _ _ HEC.out hb); replace B1 := Aside0.mk (blk_below B1.out hb); replace HB := Aside0.mk (below_step HB.out hb); clear hb) | (go_at_call 15; (with_reducible refine (HT.out c _ HEC.out).mono ?_); rintro e w7 ⟨rfl, hb⟩; replace HEC := Aside0.mk (HX.out c _ _ HEC.out hb); replace B1 := Aside0.mk (blk_below B1.out hb); replace HB := Aside0.mk (below_step HB.out hb); clear hb))
 have h8 : (w7.alloc (.cells #[.int .i64 mv, .int .i64 dv, .int .i64 tr, .int .i64 sl, .int .i64 cy] 42)).cell? ⟨w7.heap.size, 4, none⟩ = some (.int .i64 cy) := (blk_cell (blk_new w7 _) 4).trans rfl
 have hm : IntKind.i64.wrap (8 * cy) = m := (i64_w _).trans HM.out
 have hm0 : decide (0 < m) = true := decide_eq_true HM0.out
 go_wp2
 go_ret
 exact ⟨rfl, below_alloc HB.out _⟩
end Go.Proofs.Ytmdcjmackhjchaa.P
end
