import Derived.Test.YtmdcjmackhjchaaZad
import Derived.Test.YtmdcjmackhjchaaZaf
import Derived.Test.YtmdcjmackhjchaaZag
section
-- Printed by wip/myprint.py of this repo (over the kit's printer). Not trusted: Lean checks it.
namespace Go.Proofs.Ytmdcjmackhjchaa.P
open Go.RowKit Go.Proofs.YtmdcjmackhjchaaW.PrintWords Go.Proofs.YtmdcjmackhjchaaW.PrintLast Go.Proofs.YtmdcjmackhjchaaW.PrintMore
attribute [local go_sem] cell_same1 cell_some1 ix27_0 ix27_1 ix27_2
attribute [local go_sem] max2_int min2_int max_two min_two max_three min_three max_four min_four   -- for this text's walks alone
set_option linter.unusedVariables false
set_option linter.unusedSimpArgs false

/-! ### config_lists: function 32 -/
mutual
def config_lists.l0 : Nat → List Int → Int → Int → Int → List Int → Int → Int → Int → Int → Int → Int → Int → Int → Int → Int → Int → List (List Int) → Int → Int → Int → Int → Int → Int → Int → Int → Int → List Int → Int → Option (Int)
 | 0, _, _, _, _, _, _, _, _, _, _, _, _, _, _, _, _, _, _, _, _, _, _, _, _, _, _, _, _ => none
 | k + 1, x19, x20, x21, x121000, x121001, x121002, x121003, x121004, x121005, x121006, x121007, x121008, x121009, x121010, x121011, x121012, x121013, x121014, x121015, x121016, x121017, x121018, x121019, x121020, x121021, x121022, x121023, x121024 => if x21 < x20 then (if 0 ≤ x21 then (if x21 < (x19.length : Int) then ((config_in.f (rd x19 x21) 1 1000).bind fun t122 => (if t122 = true then (config_lists.l0 k x19 x20 (wrap64 (x21 + 1)) x121000 x121001 x121002 x121003 x121004 x121005 x121006 x121007 x121008 x121009 x121010 x121011 x121012 x121013 x121014 x121015 x121016 x121017 x121018 x121019 x121020 x121021 x121022 x121023 x121024) else (some 2))) else (none)) else (none)) else (if (x121013.length : Int) = x121002 then (config_lists.l1 k x121013 (x121013.length : Int) 0 x121000 x121001 x121002 x121003 x121004 x121005 x121006 x121007 x121008 x121009 x121010 x121011 x121012 x121013 x121014 x121015 x121016 x121017 x121018 x121019 x121020 x121021 x121022 x121023 x121024) else (some 3))
def config_lists.l1 : Nat → List (List Int) → Int → Int → Int → List Int → Int → Int → Int → Int → Int → Int → Int → Int → Int → Int → Int → List (List Int) → Int → Int → Int → Int → Int → Int → Int → Int → Int → List Int → Int → Option (Int)
 | 0, _, _, _, _, _, _, _, _, _, _, _, _, _, _, _, _, _, _, _, _, _, _, _, _, _, _, _, _ => none
 | k + 1, x36, x37, x38, x121000, x121001, x121002, x121003, x121004, x121005, x121006, x121007, x121008, x121009, x121010, x121011, x121012, x121013, x121014, x121015, x121016, x121017, x121018, x121019, x121020, x121021, x121022, x121023, x121024 => if x38 < x37 then (if 0 ≤ x38 then (if x38 < (x36.length : Int) then (if ((rd_L1 x36 x38).length : Int) = x121012 then (config_lists.l1 k x36 x37 (wrap64 (x38 + 1)) x121000 x121001 x121002 x121003 x121004 x121005 x121006 x121007 x121008 x121009 x121010 x121011 x121012 x121013 x121014 x121015 x121016 x121017 x121018 x121019 x121020 x121021 x121022 x121023 x121024) else (some 3)) else (none)) else (none)) else (config_lists.l2 k x121013 (x121013.length : Int) 0 x121000 x121001 x121002 x121003 x121004 x121005 x121006 x121007 x121008 x121009 x121010 x121011 x121012 x121013 x121014 x121015 x121016 x121017 x121018 x121019 x121020 x121021 x121022 x121023 x121024)
def config_lists.l2 : Nat → List (List Int) → Int → Int → Int → List Int → Int → Int → Int → Int → Int → Int → Int → Int → Int → Int → Int → List (List Int) → Int → Int → Int → Int → Int → Int → Int → Int → Int → List Int → Int → Option (Int)
 | 0, _, _, _, _, _, _, _, _, _, _, _, _, _, _, _, _, _, _, _, _, _, _, _, _, _, _, _, _ => none
 | k + 1, x49, x50, x51, x121000, x121001, x121002, x121003, x121004, x121005, x121006, x121007, x121008, x121009, x121010, x121011, x121012, x121013, x121014, x121015, x121016, x121017, x121018, x121019, x121020, x121021, x121022, x121023, x121024 => if x51 < x50 then (if 0 ≤ x51 then (if x51 < (x49.length : Int) then (config_lists.l3 k x49 x50 x51 (rd_L1 x49 x51) ((rd_L1 x49 x51).length : Int) 0 x121000 x121001 x121002 x121003 x121004 x121005 x121006 x121007 x121008 x121009 x121010 x121011 x121012 x121013 x121014 x121015 x121016 x121017 x121018 x121019 x121020 x121021 x121022 x121023 x121024) else (none)) else (none)) else ((config_rules.f k x121000 x121001 x121002 x121003 x121004 x121005 x121006 x121007 x121008 x121009 x121010 x121011 x121012 x121013 x121014 x121015 x121016 x121017 x121018 x121019 x121020 x121021 x121022 x121023 x121024).bind fun t124 => (some t124))
def config_lists.l3 : Nat → List (List Int) → Int → Int → List Int → Int → Int → Int → List Int → Int → Int → Int → Int → Int → Int → Int → Int → Int → Int → Int → List (List Int) → Int → Int → Int → Int → Int → Int → Int → Int → Int → List Int → Int → Option (Int)
 | 0, _, _, _, _, _, _, _, _, _, _, _, _, _, _, _, _, _, _, _, _, _, _, _, _, _, _, _, _, _, _, _ => none
 | k + 1, x49, x50, x51, x55, x56, x57, x121000, x121001, x121002, x121003, x121004, x121005, x121006, x121007, x121008, x121009, x121010, x121011, x121012, x121013, x121014, x121015, x121016, x121017, x121018, x121019, x121020, x121021, x121022, x121023, x121024 => if x57 < x56 then (if 0 ≤ x57 then (if x57 < (x55.length : Int) then ((config_in.f (rd x55 x57) 0 3).bind fun t127 => (if t127 = true then (config_lists.l3 k x49 x50 x51 x55 x56 (wrap64 (x57 + 1)) x121000 x121001 x121002 x121003 x121004 x121005 x121006 x121007 x121008 x121009 x121010 x121011 x121012 x121013 x121014 x121015 x121016 x121017 x121018 x121019 x121020 x121021 x121022 x121023 x121024) else (some 2))) else (none)) else (none)) else (config_lists.l2 k x49 x50 (wrap64 (x51 + 1)) x121000 x121001 x121002 x121003 x121004 x121005 x121006 x121007 x121008 x121009 x121010 x121011 x121012 x121013 x121014 x121015 x121016 x121017 x121018 x121019 x121020 x121021 x121022 x121023 x121024)
end
def config_lists.f (k : Nat) (a0_0 : Int) (l0_1 : List Int) (a0_2 : Int) (a0_3 : Int) (a0_4 : Int) (a0_5 : Int) (a0_6 : Int) (a0_7 : Int) (a0_8 : Int) (a0_9 : Int) (a0_10 : Int) (a0_11 : Int) (a0_12 : Int) (l0_13 : List (List Int)) (a0_14 : Int) (a0_15 : Int) (a0_16 : Int) (a0_17 : Int) (a0_18 : Int) (a0_19 : Int) (a0_20 : Int) (a0_21 : Int) (a0_22 : Int) (l0_23 : List Int) (a0_24 : Int) : Option (Int) := if (l0_1.length : Int) = (wrap64 (a0_0 - 1)) then (config_lists.l0 k l0_1 (l0_1.length : Int) 0 a0_0 l0_1 a0_2 a0_3 a0_4 a0_5 a0_6 a0_7 a0_8 a0_9 a0_10 a0_11 a0_12 l0_13 a0_14 a0_15 a0_16 a0_17 a0_18 a0_19 a0_20 a0_21 a0_22 l0_23 a0_24) else (some 3)
theorem config_lists.mono_l : ∀ k, (∀ y0 y1 y2 y3 y4 y5 y6 y7 y8 y9 y10 y11 y12 y13 y14 y15 y16 y17 y18 y19 y20 y21 y22 y23 y24 y25 y26 y27, LeO (config_lists.l0 k y0 y1 y2 y3 y4 y5 y6 y7 y8 y9 y10 y11 y12 y13 y14 y15 y16 y17 y18 y19 y20 y21 y22 y23 y24 y25 y26 y27) (config_lists.l0 (k + 1) y0 y1 y2 y3 y4 y5 y6 y7 y8 y9 y10 y11 y12 y13 y14 y15 y16 y17 y18 y19 y20 y21 y22 y23 y24 y25 y26 y27)) ∧ (∀ y0 y1 y2 y3 y4 y5 y6 y7 y8 y9 y10 y11 y12 y13 y14 y15 y16 y17 y18 y19 y20 y21 y22 y23 y24 y25 y26 y27, LeO (config_lists.l1 k y0 y1 y2 y3 y4 y5 y6 y7 y8 y9 y10 y11 y12 y13 y14 y15 y16 y17 y18 y19 y20 y21 y22 y23 y24 y25 y26 y27) (config_lists.l1 (k + 1) y0 y1 y2 y3 y4 y5 y6 y7 y8 y9 y10 y11 y12 y13 y14 y15 y16 y17 y18 y19 y20 y21 y22 y23 y24 y25 y26 y27)) ∧ (∀ y0 y1 y2 y3 y4 y5 y6 y7 y8 y9 y10 y11 y12 y13 y14 y15 y16 y17 y18 y19 y20 y21 y22 y23 y24 y25 y26 y27, LeO (config_lists.l2 k y0 y1 y2 y3 y4 y5 y6 y7 y8 y9 y10 y11 y12 y13 y14 y15 y16 y17 y18 y19 y20 y21 y22 y23 y24 y25 y26 y27) (config_lists.l2 (k + 1) y0 y1 y2 y3 y4 y5 y6 y7 y8 y9 y10 y11 y12 y13 y14 y15 y16 y17 y18 y19 y20 y21 y22 y23 y24 y25 y26 y27)) ∧ (∀ y0 y1 y2 y3 y4 y5 y6 y7 y8 y9 y10 y11 y12 y13 y14 y15 y16 y17 y18 y19 y20 y21 y22 y23 y24 y25 y26 y27 y28 y29 y30, LeO (config_lists.l3 k y0 y1 y2 y3 y4 y5 y6 y7 y8 y9 y10 y11 y12 y13 y14 y15 y16 y17 y18 y19 y20 y21 y22 y23 y24 y25 y26 y27 y28 y29 y30) (config_lists.l3 (k + 1) y0 y1 y2 y3 y4 y5 y6 y7 y8 y9 y10 y11 y12 y13 y14 y15 y16 y17 y18 y19 y20 y21 y22 y23 y24 y25 y26 y27 y28 y29 y30))
 | 0 => ⟨fun _ _ _ _ _ _ _ _ _ _ _ _ _ _ _ _ _ _ _ _ _ _ _ _ _ _ _ _ r h => by simp [config_lists.l0] at h, fun _ _ _ _ _ _ _ _ _ _ _ _ _ _ _ _ _ _ _ _ _ _ _ _ _ _ _ _ r h => by simp [config_lists.l1] at h, fun _ _ _ _ _ _ _ _ _ _ _ _ _ _ _ _ _ _ _ _ _ _ _ _ _ _ _ _ r h => by simp [config_lists.l2] at h, fun _ _ _ _ _ _ _ _ _ _ _ _ _ _ _ _ _ _ _ _ _ _ _ _ _ _ _ _ _ _ _ r h => by simp [config_lists.l3] at h⟩
 | k + 1 => by
  obtain ⟨ih0, ih1, ih2, ih3⟩ := config_lists.mono_l k
  refine ⟨?_, ?_, ?_, ?_⟩
  ·as_aux_lemma =>
   intro y0 y1 y2 y3 y4 y5 y6 y7 y8 y9 y10 y11 y12 y13 y14 y15 y16 y17 y18 y19 y20 y21 y22 y23 y24 y25 y26 y27
   unfold config_lists.l0
   repeat' first
   | (with_reducible exact ih0 _ _ _ _ _ _ _ _ _ _ _ _ _ _ _ _ _ _ _ _ _ _ _ _ _ _ _ _)
   | (with_reducible exact ih1 _ _ _ _ _ _ _ _ _ _ _ _ _ _ _ _ _ _ _ _ _ _ _ _ _ _ _ _)
   | (with_reducible exact ih2 _ _ _ _ _ _ _ _ _ _ _ _ _ _ _ _ _ _ _ _ _ _ _ _ _ _ _ _)
   | (with_reducible exact ih3 _ _ _ _ _ _ _ _ _ _ _ _ _ _ _ _ _ _ _ _ _ _ _ _ _ _ _ _ _ _ _)
   | (with_reducible exact config_rules.mono _ _ _ _ _ _ _ _ _ _ _ _ _ _ _ _ _ _ _ _ _ _ _ _ _ _)
   | (with_reducible exact LeO.refl _)
   | (with_reducible exact LeO.none _)
   | (with_reducible refine LeO.ite ?_ ?_)
   | (with_reducible refine LeO.bind ?_ (fun _ => ?_))
   | exact ih0 _ _ _ _ _ _ _ _ _ _ _ _ _ _ _ _ _ _ _ _ _ _ _ _ _ _ _ _
   | exact ih1 _ _ _ _ _ _ _ _ _ _ _ _ _ _ _ _ _ _ _ _ _ _ _ _ _ _ _ _
   | exact ih2 _ _ _ _ _ _ _ _ _ _ _ _ _ _ _ _ _ _ _ _ _ _ _ _ _ _ _ _
   | exact ih3 _ _ _ _ _ _ _ _ _ _ _ _ _ _ _ _ _ _ _ _ _ _ _ _ _ _ _ _ _ _ _
   | exact config_rules.mono _ _ _ _ _ _ _ _ _ _ _ _ _ _ _ _ _ _ _ _ _ _ _ _ _ _
   | exact LeO.none _
   | refine LeO.ite ?_ ?_
   | refine LeO.bind ?_ (fun _ => ?_)
  ·as_aux_lemma =>
   intro y0 y1 y2 y3 y4 y5 y6 y7 y8 y9 y10 y11 y12 y13 y14 y15 y16 y17 y18 y19 y20 y21 y22 y23 y24 y25 y26 y27
   unfold config_lists.l1
   repeat' first
   | (with_reducible exact ih0 _ _ _ _ _ _ _ _ _ _ _ _ _ _ _ _ _ _ _ _ _ _ _ _ _ _ _ _)
   | (with_reducible exact ih1 _ _ _ _ _ _ _ _ _ _ _ _ _ _ _ _ _ _ _ _ _ _ _ _ _ _ _ _)
   | (with_reducible exact ih2 _ _ _ _ _ _ _ _ _ _ _ _ _ _ _ _ _ _ _ _ _ _ _ _ _ _ _ _)
   | (with_reducible exact ih3 _ _ _ _ _ _ _ _ _ _ _ _ _ _ _ _ _ _ _ _ _ _ _ _ _ _ _ _ _ _ _)
   | (with_reducible exact config_rules.mono _ _ _ _ _ _ _ _ _ _ _ _ _ _ _ _ _ _ _ _ _ _ _ _ _ _)
   | (with_reducible exact LeO.refl _)
   | (with_reducible exact LeO.none _)
   | (with_reducible refine LeO.ite ?_ ?_)
   | (with_reducible refine LeO.bind ?_ (fun _ => ?_))
   | exact ih0 _ _ _ _ _ _ _ _ _ _ _ _ _ _ _ _ _ _ _ _ _ _ _ _ _ _ _ _
   | exact ih1 _ _ _ _ _ _ _ _ _ _ _ _ _ _ _ _ _ _ _ _ _ _ _ _ _ _ _ _
   | exact ih2 _ _ _ _ _ _ _ _ _ _ _ _ _ _ _ _ _ _ _ _ _ _ _ _ _ _ _ _
   | exact ih3 _ _ _ _ _ _ _ _ _ _ _ _ _ _ _ _ _ _ _ _ _ _ _ _ _ _ _ _ _ _ _
   | exact config_rules.mono _ _ _ _ _ _ _ _ _ _ _ _ _ _ _ _ _ _ _ _ _ _ _ _ _ _
   | exact LeO.none _
   | refine LeO.ite ?_ ?_
   | refine LeO.bind ?_ (fun _ => ?_)
  ·as_aux_lemma =>
   intro y0 y1 y2 y3 y4 y5 y6 y7 y8 y9 y10 y11 y12 y13 y14 y15 y16 y17 y18 y19 y20 y21 y22 y23 y24 y25 y26 y27
   unfold config_lists.l2
   repeat' first
   | (with_reducible exact ih0 _ _ _ _ _ _ _ _ _ _ _ _ _ _ _ _ _ _ _ _ _ _ _ _ _ _ _ _)
   | (with_reducible exact ih1 _ _ _ _ _ _ _ _ _ _ _ _ _ _ _ _ _ _ _ _ _ _ _ _ _ _ _ _)
   | (with_reducible exact ih2 _ _ _ _ _ _ _ _ _ _ _ _ _ _ _ _ _ _ _ _ _ _ _ _ _ _ _ _)
   | (with_reducible exact ih3 _ _ _ _ _ _ _ _ _ _ _ _ _ _ _ _ _ _ _ _ _ _ _ _ _ _ _ _ _ _ _)
   | (with_reducible exact config_rules.mono _ _ _ _ _ _ _ _ _ _ _ _ _ _ _ _ _ _ _ _ _ _ _ _ _ _)
   | (with_reducible exact LeO.refl _)
   | (with_reducible exact LeO.none _)
   | (with_reducible refine LeO.ite ?_ ?_)
   | (with_reducible refine LeO.bind ?_ (fun _ => ?_))
   | exact ih0 _ _ _ _ _ _ _ _ _ _ _ _ _ _ _ _ _ _ _ _ _ _ _ _ _ _ _ _
   | exact ih1 _ _ _ _ _ _ _ _ _ _ _ _ _ _ _ _ _ _ _ _ _ _ _ _ _ _ _ _
   | exact ih2 _ _ _ _ _ _ _ _ _ _ _ _ _ _ _ _ _ _ _ _ _ _ _ _ _ _ _ _
   | exact ih3 _ _ _ _ _ _ _ _ _ _ _ _ _ _ _ _ _ _ _ _ _ _ _ _ _ _ _ _ _ _ _
   | exact config_rules.mono _ _ _ _ _ _ _ _ _ _ _ _ _ _ _ _ _ _ _ _ _ _ _ _ _ _
   | exact LeO.none _
   | refine LeO.ite ?_ ?_
   | refine LeO.bind ?_ (fun _ => ?_)
  ·as_aux_lemma =>
   intro y0 y1 y2 y3 y4 y5 y6 y7 y8 y9 y10 y11 y12 y13 y14 y15 y16 y17 y18 y19 y20 y21 y22 y23 y24 y25 y26 y27 y28 y29 y30
   unfold config_lists.l3
   repeat' first
   | (with_reducible exact ih0 _ _ _ _ _ _ _ _ _ _ _ _ _ _ _ _ _ _ _ _ _ _ _ _ _ _ _ _)
   | (with_reducible exact ih1 _ _ _ _ _ _ _ _ _ _ _ _ _ _ _ _ _ _ _ _ _ _ _ _ _ _ _ _)
   | (with_reducible exact ih2 _ _ _ _ _ _ _ _ _ _ _ _ _ _ _ _ _ _ _ _ _ _ _ _ _ _ _ _)
   | (with_reducible exact ih3 _ _ _ _ _ _ _ _ _ _ _ _ _ _ _ _ _ _ _ _ _ _ _ _ _ _ _ _ _ _ _)
   | (with_reducible exact config_rules.mono _ _ _ _ _ _ _ _ _ _ _ _ _ _ _ _ _ _ _ _ _ _ _ _ _ _)
   | (with_reducible exact LeO.refl _)
   | (with_reducible exact LeO.none _)
   | (with_reducible refine LeO.ite ?_ ?_)
   | (with_reducible refine LeO.bind ?_ (fun _ => ?_))
   | exact ih0 _ _ _ _ _ _ _ _ _ _ _ _ _ _ _ _ _ _ _ _ _ _ _ _ _ _ _ _
   | exact ih1 _ _ _ _ _ _ _ _ _ _ _ _ _ _ _ _ _ _ _ _ _ _ _ _ _ _ _ _
   | exact ih2 _ _ _ _ _ _ _ _ _ _ _ _ _ _ _ _ _ _ _ _ _ _ _ _ _ _ _ _
   | exact ih3 _ _ _ _ _ _ _ _ _ _ _ _ _ _ _ _ _ _ _ _ _ _ _ _ _ _ _ _ _ _ _
   | exact config_rules.mono _ _ _ _ _ _ _ _ _ _ _ _ _ _ _ _ _ _ _ _ _ _ _ _ _ _
   | exact LeO.none _
   | refine LeO.ite ?_ ?_
   | refine LeO.bind ?_ (fun _ => ?_)
theorem config_lists.mono : ∀ a0 a1 a2 a3 a4 a5 a6 a7 a8 a9 a10 a11 a12 a13 a14 a15 a16 a17 a18 a19 a20 a21 a22 a23 a24 k, LeO (config_lists.f k a0 a1 a2 a3 a4 a5 a6 a7 a8 a9 a10 a11 a12 a13 a14 a15 a16 a17 a18 a19 a20 a21 a22 a23 a24) (config_lists.f (k + 1) a0 a1 a2 a3 a4 a5 a6 a7 a8 a9 a10 a11 a12 a13 a14 a15 a16 a17 a18 a19 a20 a21 a22 a23 a24) := by
 intro a0 a1 a2 a3 a4 a5 a6 a7 a8 a9 a10 a11 a12 a13 a14 a15 a16 a17 a18 a19 a20 a21 a22 a23 a24 k
 obtain ⟨ih0, ih1, ih2, ih3⟩ := config_lists.mono_l k
 unfold config_lists.f
 repeat' first
   | (with_reducible exact ih0 _ _ _ _ _ _ _ _ _ _ _ _ _ _ _ _ _ _ _ _ _ _ _ _ _ _ _ _)
   | (with_reducible exact ih1 _ _ _ _ _ _ _ _ _ _ _ _ _ _ _ _ _ _ _ _ _ _ _ _ _ _ _ _)
   | (with_reducible exact ih2 _ _ _ _ _ _ _ _ _ _ _ _ _ _ _ _ _ _ _ _ _ _ _ _ _ _ _ _)
   | (with_reducible exact ih3 _ _ _ _ _ _ _ _ _ _ _ _ _ _ _ _ _ _ _ _ _ _ _ _ _ _ _ _ _ _ _)
   | (with_reducible exact config_rules.mono _ _ _ _ _ _ _ _ _ _ _ _ _ _ _ _ _ _ _ _ _ _ _ _ _ _)
   | (with_reducible exact LeO.refl _)
   | (with_reducible exact LeO.none _)
   | (with_reducible refine LeO.ite ?_ ?_)
   | (with_reducible refine LeO.bind ?_ (fun _ => ?_))
   | exact ih0 _ _ _ _ _ _ _ _ _ _ _ _ _ _ _ _ _ _ _ _ _ _ _ _ _ _ _ _
   | exact ih1 _ _ _ _ _ _ _ _ _ _ _ _ _ _ _ _ _ _ _ _ _ _ _ _ _ _ _ _
   | exact ih2 _ _ _ _ _ _ _ _ _ _ _ _ _ _ _ _ _ _ _ _ _ _ _ _ _ _ _ _
   | exact ih3 _ _ _ _ _ _ _ _ _ _ _ _ _ _ _ _ _ _ _ _ _ _ _ _ _ _ _ _ _ _ _
   | exact config_rules.mono _ _ _ _ _ _ _ _ _ _ _ _ _ _ _ _ _ _ _ _ _ _ _ _ _ _
   | exact LeO.none _
   | refine LeO.ite ?_ ?_
   | refine LeO.bind ?_ (fun _ => ?_)
set_option maxHeartbeats 8000000 in
set_option maxRecDepth 100000 in
theorem config_lists.calls (k : Nat) (a0_0 : Int) (A0_1 : Option Addr) (c0_1 : Nat) (l0_1 : List Int) (a0_2 : Int) (a0_3 : Int) (a0_4 : Int) (a0_5 : Int) (a0_6 : Int) (a0_7 : Int) (a0_8 : Int) (a0_9 : Int) (a0_10 : Int) (a0_11 : Int) (a0_12 : Int) (A0_13 : Option Addr) (c0_13 : Nat) (l0_13 : List (List Int)) (a0_14 : Int) (a0_15 : Int) (a0_16 : Int) (a0_17 : Int) (a0_18 : Int) (a0_19 : Int) (a0_20 : Int) (a0_21 : Int) (a0_22 : Int) (A0_23 : Option Addr) (c0_23 : Nat) (l0_23 : List Int) (a0_24 : Int) (r : Int) (w : World) (hr0_1 : Kd.C (Kd.int .i64) w A0_1 l0_1.length l0_1) (hc0_1 : l0_1.length ≤ c0_1) (hr0_13 : Kd.C (Kd.slice 3 (Kd.int .i64)) w A0_13 l0_13.length l0_13) (hc0_13 : l0_13.length ≤ c0_13) (hr0_23 : Kd.C (Kd.int .i64) w A0_23 l0_23.length l0_23) (hc0_23 : l0_23.length ≤ c0_23) (h : config_lists.f k a0_0 l0_1 a0_2 a0_3 a0_4 a0_5 a0_6 a0_7 a0_8 a0_9 a0_10 a0_11 a0_12 l0_13 a0_14 a0_15 a0_16 a0_17 a0_18 a0_19 a0_20 a0_21 a0_22 l0_23 a0_24 = some r) :
  Calls Try.prog 32 #[.agg #[.int .i64 a0_0, .slice A0_1 l0_1.length c0_1, .int .i64 a0_2, .int .i64 a0_3, .int .i64 a0_4, .int .i64 a0_5, .int .i64 a0_6, .int .i64 a0_7, .int .i64 a0_8, .int .i64 a0_9, .int .i64 a0_10, .int .i64 a0_11, .int .i64 a0_12, .slice A0_13 l0_13.length c0_13, .int .u64 a0_14, .int .i64 a0_15, .int .i64 a0_16, .int .u64 a0_17, .int .i64 a0_18, .int .i64 a0_19, .int .u64 a0_20, .int .i64 a0_21, .int .i64 a0_22, .slice A0_23 l0_23.length c0_23, .int .i64 a0_24]] w fun e w' => e = .returned (.int .i64 r) ∧ Below w.heap.size w w' := by
 have hu29 := Try.underlying29
 have HR0_1 := Aside0.mk hr0_1
 have HC0_1 := Aside0.mk hc0_1
 clear hr0_1 hc0_1
 have HR0_13 := Aside0.mk hr0_13
 have HC0_13 := Aside0.mk hc0_13
 clear hr0_13 hc0_13
 have HR0_23 := Aside0.mk hr0_23
 have HC0_23 := Aside0.mk hc0_23
 clear hr0_23 hc0_23
 have HB := Aside0.mk (Below.refl w.heap.size w)
 have H : (if (l0_1.length : Int) = (wrap64 (a0_0 - 1)) then (config_lists.l0 k l0_1 (l0_1.length : Int) 0 a0_0 l0_1 a0_2 a0_3 a0_4 a0_5 a0_6 a0_7 a0_8 a0_9 a0_10 a0_11 a0_12 l0_13 a0_14 a0_15 a0_16 a0_17 a0_18 a0_19 a0_20 a0_21 a0_22 l0_23 a0_24) else (some 3)) = some r := h
 clear h
 by_cases c2 : (l0_1.length : Int) = (wrap64 (a0_0 - 1))
 ·as_aux_lemma =>
  rw [if_pos c2] at H
  have c2b0 : ((l0_1.length : Int) == (wrap64 (a0_0 - 1))) = true := beq_iff_eq.mpr c2
  have c2b1 : ((l0_1.length : Int) != (wrap64 (a0_0 - 1))) = false := bne_eq_false_iff_eq.mpr c2
  clear c2
  have H' := Aside0.mk H
  clear H
  go_enter Try.func32, Try.ntmps32
  go_wp2_with (first | ((with_reducible refine gate_dst (N := 66) rfl ?_); (first | refine lwx (g := gb120) (cs := [.int .i64 a0_0, .slice A0_1 l0_1.length c0_1, .int .i64 a0_2, .int .i64 a0_3, .int .i64 a0_4, .int .i64 a0_5, .int .i64 a0_6, .int .i64 a0_7, .int .i64 a0_8, .int .i64 a0_9, .int .i64 a0_10, .int .i64 a0_11, .int .i64 a0_12, .slice A0_13 l0_13.length c0_13, .int .u64 a0_14, .int .i64 a0_15, .int .i64 a0_16, .int .u64 a0_17, .int .i64 a0_18, .int .i64 a0_19, .int .u64 a0_20, .int .i64 a0_21, .int .i64 a0_22, .slice A0_23 l0_23.length c0_23, .int .i64 a0_24]) (bkt BK120.out) ?_ | refine lwx (g := gb120) BK120.out ?_ | refine lwx2 (g := gb120) (blk_set (bkt BK120.out) _ _) ?_)) | ((with_reducible refine gate_dst (N := 1) rfl ?_); refine bxe (cs := #[.int .i64 a0_0, .slice A0_1 l0_1.length c0_1, .int .i64 a0_2, .int .i64 a0_3, .int .i64 a0_4, .int .i64 a0_5, .int .i64 a0_6, .int .i64 a0_7, .int .i64 a0_8, .int .i64 a0_9, .int .i64 a0_10, .int .i64 a0_11, .int .i64 a0_12, .slice A0_13 l0_13.length c0_13, .int .u64 a0_14, .int .i64 a0_15, .int .i64 a0_16, .int .u64 a0_17, .int .i64 a0_18, .int .i64 a0_19, .int .u64 a0_20, .int .i64 a0_21, .int .i64 a0_22, .slice A0_23 l0_23.length c0_23, .int .i64 a0_24]) (t := 29) ?_; intro gb120 hg w3 hbox hb; have BK120 := Aside0.mk (hbox); have GW120 := Aside0.mk (bge hg HB.out); have GE120 := Aside0.mk (bge hg HB.out); replace HB := Aside0.mk (bst HB.out hb); clear hb hbox hg; have hcz4_0 := cz25 BK120.out; have hfz4_0 := blk_frozen BK120.out))
  go_loopg [21] k (fun kq v21 w' => ∃ (x21_1 : Int), v21 = .int .i64 x21_1 ∧ Aside0 (config_lists.l0 kq l0_1 (l0_1.length : Int) x21_1 a0_0 l0_1 a0_2 a0_3 a0_4 a0_5 a0_6 a0_7 a0_8 a0_9 a0_10 a0_11 a0_12 l0_13 a0_14 a0_15 a0_16 a0_17 a0_18 a0_19 a0_20 a0_21 a0_22 l0_23 a0_24 = some r) ∧ Aside0 (kq ≤ k) ∧ Aside0 (w'.heap[gb120]? = some (.cells #[.int .i64 a0_0, (.slice A0_1 l0_1.length c0_1), .int .i64 a0_2, .int .i64 a0_3, .int .i64 a0_4, .int .i64 a0_5, .int .i64 a0_6, .int .i64 a0_7, .int .i64 a0_8, .int .i64 a0_9, .int .i64 a0_10, .int .i64 a0_11, .int .i64 a0_12, (.slice A0_13 l0_13.length c0_13), .int .u64 a0_14, .int .i64 a0_15, .int .i64 a0_16, .int .u64 a0_17, .int .i64 a0_18, .int .i64 a0_19, .int .u64 a0_20, .int .i64 a0_21, .int .i64 a0_22, (.slice A0_23 l0_23.length c0_23), .int .i64 a0_24] 29 (0, 0))) ∧ Aside0 (Below w.heap.size w w'))
  case atStart => exact ⟨(0), (by first | rfl | (simp; done) | (simp [*]; done)), H', ⟨Nat.le_refl _⟩, ⟨bkt BK120.out⟩, ⟨bel HB.out⟩⟩
  case round =>
   clear H'
   try clear c2
   try clear c2b0
   try clear c2b1
   try clear p2
   try clear c3
   try clear hcz4_0
   try clear hfz4_0
   obtain ⟨x21_1, rfl, HA, HK1, BK120, HB⟩ := hrel
   cases gk with
   | zero => exact absurd HA.out (by simp [config_lists.l0])
   | succ k1 =>
    have H := HA.out
    clear HA
    simp only [config_lists.l0] at H
    by_cases c5 : x21_1 < (l0_1.length : Int)
    ·as_aux_lemma =>
     rw [if_pos c5] at H
     have c5b0 : decide (x21_1 < (l0_1.length : Int)) = true := decide_eq_true c5
     clear c5
     by_cases c6 : 0 ≤ x21_1
     ·as_aux_lemma =>
      rw [if_pos c6] at H
      have c6b0 : decide (0 ≤ x21_1) = true := decide_eq_true c6
      clear c6
      by_cases c7 : x21_1 < (l0_1.length : Int)
      ·as_aux_lemma =>
       rw [if_pos c7] at H
       have c7b0 : decide (x21_1 < (l0_1.length : Int)) = true := decide_eq_true c7
       clear c7
       replace H := Option.bind_eq_some_iff.mp H
       obtain ⟨t122, A80, H⟩ := H
       replace H : (if t122 = true then (config_lists.l0 k1 l0_1 (l0_1.length : Int) (wrap64 (x21_1 + 1)) a0_0 l0_1 a0_2 a0_3 a0_4 a0_5 a0_6 a0_7 a0_8 a0_9 a0_10 a0_11 a0_12 l0_13 a0_14 a0_15 a0_16 a0_17 a0_18 a0_19 a0_20 a0_21 a0_22 l0_23 a0_24) else (some 2)) = some r := H
       have A8 := Aside0.mk A80
       clear A80
       by_cases c9 : t122 = true
       ·as_aux_lemma =>
        subst c9
        have H1 : (config_lists.l0 k1 l0_1 (l0_1.length : Int) (wrap64 (x21_1 + 1)) a0_0 l0_1 a0_2 a0_3 a0_4 a0_5 a0_6 a0_7 a0_8 a0_9 a0_10 a0_11 a0_12 l0_13 a0_14 a0_15 a0_16 a0_17 a0_18 a0_19 a0_20 a0_21 a0_22 l0_23 a0_24) = some r := by rw [if_pos rfl] at H; exact H
        clear H
        have H := H1
        clear H1
        have H' := Aside0.mk H
        clear H
        have p121 : 0 ≤ (x21_1 : Int) := of_decide_eq_true (by first | (with_reducible assumption) | assumption)
        have q121 : x21_1 < (l0_1.length : Int) := of_decide_eq_true (by first | (with_reducible assumption) | assumption)
        obtain ⟨ad121, e121, hx121_0⟩ := Kd.at_int HR0_1.out x21_1 p121 q121
        cases e121
        replace hx121_0 := (HB.out.cell (World.block_lt_of_cell? w _ hx121_0)).trans hx121_0
        replace p121 := eq_true p121
        replace q121 := eq_true q121
        go_wp2_with (first | ((with_reducible refine gate_dst (N := 66) rfl ?_); (first | refine lwx (g := gb120) (cs := [.int .i64 a0_0, .slice A0_1 l0_1.length c0_1, .int .i64 a0_2, .int .i64 a0_3, .int .i64 a0_4, .int .i64 a0_5, .int .i64 a0_6, .int .i64 a0_7, .int .i64 a0_8, .int .i64 a0_9, .int .i64 a0_10, .int .i64 a0_11, .int .i64 a0_12, .slice A0_13 l0_13.length c0_13, .int .u64 a0_14, .int .i64 a0_15, .int .i64 a0_16, .int .u64 a0_17, .int .i64 a0_18, .int .i64 a0_19, .int .u64 a0_20, .int .i64 a0_21, .int .i64 a0_22, .slice A0_23 l0_23.length c0_23, .int .i64 a0_24]) (bkt BK120.out) ?_ | refine lwx (g := gb120) BK120.out ?_ | refine lwx2 (g := gb120) (blk_set (bkt BK120.out) _ _) ?_)) | ((with_reducible refine gate_callee (f := 31) rfl ?_); refine gsl (some 26) Try.func31 #[.int .i64 (rd l0_1 x21_1), .int .i64 1, .int .i64 1000] ?_; (with_reducible refine (config_in.calls (rd l0_1 x21_1) 1 1000 true _ A8.out).mono ?_); rintro e w' ⟨rfl, ⟨nd, rfl⟩⟩; refine ⟨_, rfl, ?_⟩))
        go_roundg k1
        case measure => have := HK1.out; omega
        case rel => exact ⟨(wrap64 (x21_1 + 1)), (by first | rfl | (simp; done) | (simp [*]; done)), H', ⟨by have := HK1.out; omega⟩, ⟨bkt BK120.out⟩, ⟨bel HB.out⟩⟩
       ·as_aux_lemma =>
        replace c9 := Bool.eq_false_iff.mpr c9
        subst c9
        have H1 : (some 2) = some r := by rw [if_neg (show ¬ (false = true) by decide)] at H; exact H
        clear H
        have H := H1
        clear H1
        obtain rfl := Option.some.inj H
        have p121 : 0 ≤ (x21_1 : Int) := of_decide_eq_true (by first | (with_reducible assumption) | assumption)
        have q121 : x21_1 < (l0_1.length : Int) := of_decide_eq_true (by first | (with_reducible assumption) | assumption)
        obtain ⟨ad121, e121, hx121_0⟩ := Kd.at_int HR0_1.out x21_1 p121 q121
        cases e121
        replace hx121_0 := (HB.out.cell (World.block_lt_of_cell? w _ hx121_0)).trans hx121_0
        replace p121 := eq_true p121
        replace q121 := eq_true q121
        go_wp2_with (first | ((with_reducible refine gate_dst (N := 66) rfl ?_); (first | refine lwx (g := gb120) (cs := [.int .i64 a0_0, .slice A0_1 l0_1.length c0_1, .int .i64 a0_2, .int .i64 a0_3, .int .i64 a0_4, .int .i64 a0_5, .int .i64 a0_6, .int .i64 a0_7, .int .i64 a0_8, .int .i64 a0_9, .int .i64 a0_10, .int .i64 a0_11, .int .i64 a0_12, .slice A0_13 l0_13.length c0_13, .int .u64 a0_14, .int .i64 a0_15, .int .i64 a0_16, .int .u64 a0_17, .int .i64 a0_18, .int .i64 a0_19, .int .u64 a0_20, .int .i64 a0_21, .int .i64 a0_22, .slice A0_23 l0_23.length c0_23, .int .i64 a0_24]) (bkt BK120.out) ?_ | refine lwx (g := gb120) BK120.out ?_ | refine lwx2 (g := gb120) (blk_set (bkt BK120.out) _ _) ?_)) | ((with_reducible refine gate_callee (f := 31) rfl ?_); refine gsl (some 26) Try.func31 #[.int .i64 (rd l0_1 x21_1), .int .i64 1, .int .i64 1000] ?_; (with_reducible refine (config_in.calls (rd l0_1 x21_1) 1 1000 false _ A8.out).mono ?_); rintro e w' ⟨rfl, ⟨nd, rfl⟩⟩; refine ⟨_, rfl, ?_⟩))
        go_ret
        exact bfin (bel HB.out)
      ·rw [if_neg c7] at H
       exact absurd H (by simp)
     ·rw [if_neg c6] at H
      exact absurd H (by simp)
    ·as_aux_lemma =>
     rw [if_neg c5] at H
     have c5b0 : decide (x21_1 < (l0_1.length : Int)) = false := decide_eq_false c5
     clear c5
     by_cases c10 : (l0_13.length : Int) = a0_2
     ·as_aux_lemma =>
      rw [if_pos c10] at H
      have c10b0 : ((l0_13.length : Int) == a0_2) = true := beq_iff_eq.mpr c10
      have c10b1 : ((l0_13.length : Int) != a0_2) = false := bne_eq_false_iff_eq.mpr c10
      clear c10
      have H' := Aside0.mk H
      clear H
      have hcz11_0 := cz25 BK120.out
      have hfz11_0 := blk_frozen BK120.out
      go_wp2_with (first | ((with_reducible refine gate_dst (N := 66) rfl ?_); (first | refine lwx (g := gb120) (cs := [.int .i64 a0_0, .slice A0_1 l0_1.length c0_1, .int .i64 a0_2, .int .i64 a0_3, .int .i64 a0_4, .int .i64 a0_5, .int .i64 a0_6, .int .i64 a0_7, .int .i64 a0_8, .int .i64 a0_9, .int .i64 a0_10, .int .i64 a0_11, .int .i64 a0_12, .slice A0_13 l0_13.length c0_13, .int .u64 a0_14, .int .i64 a0_15, .int .i64 a0_16, .int .u64 a0_17, .int .i64 a0_18, .int .i64 a0_19, .int .u64 a0_20, .int .i64 a0_21, .int .i64 a0_22, .slice A0_23 l0_23.length c0_23, .int .i64 a0_24]) (bkt BK120.out) ?_ | refine lwx (g := gb120) BK120.out ?_ | refine lwx2 (g := gb120) (blk_set (bkt BK120.out) _ _) ?_)))
      go_loopg [38] k1 (fun kq v38 w' => ∃ (x38_2 : Int), v38 = .int .i64 x38_2 ∧ Aside0 (config_lists.l1 kq l0_13 (l0_13.length : Int) x38_2 a0_0 l0_1 a0_2 a0_3 a0_4 a0_5 a0_6 a0_7 a0_8 a0_9 a0_10 a0_11 a0_12 l0_13 a0_14 a0_15 a0_16 a0_17 a0_18 a0_19 a0_20 a0_21 a0_22 l0_23 a0_24 = some r) ∧ Aside0 (kq ≤ k1) ∧ Aside0 (w'.heap[gb120]? = some (.cells #[.int .i64 a0_0, (.slice A0_1 l0_1.length c0_1), .int .i64 a0_2, .int .i64 a0_3, .int .i64 a0_4, .int .i64 a0_5, .int .i64 a0_6, .int .i64 a0_7, .int .i64 a0_8, .int .i64 a0_9, .int .i64 a0_10, .int .i64 a0_11, .int .i64 a0_12, (.slice A0_13 l0_13.length c0_13), .int .u64 a0_14, .int .i64 a0_15, .int .i64 a0_16, .int .u64 a0_17, .int .i64 a0_18, .int .i64 a0_19, .int .u64 a0_20, .int .i64 a0_21, .int .i64 a0_22, (.slice A0_23 l0_23.length c0_23), .int .i64 a0_24] 29 (0, 0))) ∧ Aside0 (Below w.heap.size w w'))
      case atStart => exact ⟨(0), (by first | rfl | (simp; done) | (simp [*]; done)), H', ⟨Nat.le_refl _⟩, ⟨bkt BK120.out⟩, ⟨bel HB.out⟩⟩
      case round =>
       clear H'
       try clear c1
       try clear p1
       try clear q1
       try clear hx1
       try clear c2
       try clear c2b0
       try clear c2b1
       try clear p2
       try clear c3
       try clear c5
       try clear c5b0
       try clear c6
       try clear c6b0
       try clear p6
       try clear c7
       try clear c7b0
       try clear c9
       try clear c10
       try clear c10b0
       try clear c10b1
       try clear hcz11_0
       try clear hcz4_0
       try clear hfz11_0
       try clear hfz4_0
       try clear hx121_0
       try clear p121
       try clear p2
       try clear q121
       obtain ⟨x38_2, rfl, HA, HK2, BK120, HB⟩ := hrel
       cases gk with
       | zero => exact absurd HA.out (by simp [config_lists.l1])
       | succ k2 =>
        have H := HA.out
        clear HA
        simp only [config_lists.l1] at H
        by_cases c12 : x38_2 < (l0_13.length : Int)
        ·as_aux_lemma =>
         rw [if_pos c12] at H
         have c12b0 : decide (x38_2 < (l0_13.length : Int)) = true := decide_eq_true c12
         clear c12
         by_cases c13 : 0 ≤ x38_2
         ·as_aux_lemma =>
          rw [if_pos c13] at H
          have c13b0 : decide (0 ≤ x38_2) = true := decide_eq_true c13
          clear c13
          by_cases c14 : x38_2 < (l0_13.length : Int)
          ·as_aux_lemma =>
           rw [if_pos c14] at H
           have c14b0 : decide (x38_2 < (l0_13.length : Int)) = true := decide_eq_true c14
           clear c14
           by_cases c15 : ((rd_L1 l0_13 x38_2).length : Int) = a0_12
           ·as_aux_lemma =>
            rw [if_pos c15] at H
            have c15b0 : (((rd_L1 l0_13 x38_2).length : Int) == a0_12) = true := beq_iff_eq.mpr c15
            have c15b1 : (((rd_L1 l0_13 x38_2).length : Int) != a0_12) = false := bne_eq_false_iff_eq.mpr c15
            clear c15
            have H' := Aside0.mk H
            clear H
            have p123 : 0 ≤ (x38_2 : Int) := of_decide_eq_true (by first | (with_reducible assumption) | assumption)
            have q123 : x38_2 < (l0_13.length : Int) := of_decide_eq_true (by first | (with_reducible assumption) | assumption)
            obtain ⟨ad123, A123_0, c123_0, e123, hx123_0, hl123_0, hi123_0⟩ := at_L1 HR0_13.out x38_2 p123 q123
            cases e123
            replace hx123_0 := (HB.out.cell (World.block_lt_of_cell? w _ hx123_0)).trans hx123_0
            have HR123_0 := Aside0.mk hi123_0
            have HC123_0 := Aside0.mk hl123_0
            clear hi123_0 hl123_0
            replace p123 := eq_true p123
            replace q123 := eq_true q123
            have hcz16_0 := cz25 BK120.out
            have hfz16_0 := blk_frozen BK120.out
            go_wp2_with (first | ((with_reducible refine gate_dst (N := 66) rfl ?_); (first | refine lwx (g := gb120) (cs := [.int .i64 a0_0, .slice A0_1 l0_1.length c0_1, .int .i64 a0_2, .int .i64 a0_3, .int .i64 a0_4, .int .i64 a0_5, .int .i64 a0_6, .int .i64 a0_7, .int .i64 a0_8, .int .i64 a0_9, .int .i64 a0_10, .int .i64 a0_11, .int .i64 a0_12, .slice A0_13 l0_13.length c0_13, .int .u64 a0_14, .int .i64 a0_15, .int .i64 a0_16, .int .u64 a0_17, .int .i64 a0_18, .int .i64 a0_19, .int .u64 a0_20, .int .i64 a0_21, .int .i64 a0_22, .slice A0_23 l0_23.length c0_23, .int .i64 a0_24]) (bkt BK120.out) ?_ | refine lwx (g := gb120) BK120.out ?_ | refine lwx2 (g := gb120) (blk_set (bkt BK120.out) _ _) ?_)))
            go_roundg k2
            case measure => have := HK1.out; have := HK2.out; omega
            case rel => exact ⟨(wrap64 (x38_2 + 1)), (by first | rfl | (simp; done) | (simp [*]; done)), H', ⟨by have := HK1.out; have := HK2.out; omega⟩, ⟨bkt BK120.out⟩, ⟨bel HB.out⟩⟩
           ·as_aux_lemma =>
            rw [if_neg c15] at H
            have c15b0 : (((rd_L1 l0_13 x38_2).length : Int) == a0_12) = false := beq_eq_false_iff_ne.mpr c15
            have c15b1 : (((rd_L1 l0_13 x38_2).length : Int) != a0_12) = true := bne_iff_ne.mpr c15
            obtain rfl := Option.some.inj H
            have p123 : 0 ≤ (x38_2 : Int) := of_decide_eq_true (by first | (with_reducible assumption) | assumption)
            have q123 : x38_2 < (l0_13.length : Int) := of_decide_eq_true (by first | (with_reducible assumption) | assumption)
            obtain ⟨ad123, A123_0, c123_0, e123, hx123_0, hl123_0, hi123_0⟩ := at_L1 HR0_13.out x38_2 p123 q123
            cases e123
            replace hx123_0 := (HB.out.cell (World.block_lt_of_cell? w _ hx123_0)).trans hx123_0
            have HR123_0 := Aside0.mk hi123_0
            have HC123_0 := Aside0.mk hl123_0
            clear hi123_0 hl123_0
            replace p123 := eq_true p123
            replace q123 := eq_true q123
            have hcz17_0 := cz25 BK120.out
            have hfz17_0 := blk_frozen BK120.out
            go_wp2_with (first | ((with_reducible refine gate_dst (N := 66) rfl ?_); (first | refine lwx (g := gb120) (cs := [.int .i64 a0_0, .slice A0_1 l0_1.length c0_1, .int .i64 a0_2, .int .i64 a0_3, .int .i64 a0_4, .int .i64 a0_5, .int .i64 a0_6, .int .i64 a0_7, .int .i64 a0_8, .int .i64 a0_9, .int .i64 a0_10, .int .i64 a0_11, .int .i64 a0_12, .slice A0_13 l0_13.length c0_13, .int .u64 a0_14, .int .i64 a0_15, .int .i64 a0_16, .int .u64 a0_17, .int .i64 a0_18, .int .i64 a0_19, .int .u64 a0_20, .int .i64 a0_21, .int .i64 a0_22, .slice A0_23 l0_23.length c0_23, .int .i64 a0_24]) (bkt BK120.out) ?_ | refine lwx (g := gb120) BK120.out ?_ | refine lwx2 (g := gb120) (blk_set (bkt BK120.out) _ _) ?_)))
            go_ret
            exact bfin (bel HB.out)
          ·rw [if_neg c14] at H
           exact absurd H (by simp)
         ·rw [if_neg c13] at H
          exact absurd H (by simp)
        ·as_aux_lemma =>
         rw [if_neg c12] at H
         have c12b0 : decide (x38_2 < (l0_13.length : Int)) = false := decide_eq_false c12
         clear c12
         have H' := Aside0.mk H
         clear H
         have hcz18_0 := cz25 BK120.out
         have hfz18_0 := blk_frozen BK120.out
         go_wp2_with (first | ((with_reducible refine gate_dst (N := 66) rfl ?_); (first | refine lwx (g := gb120) (cs := [.int .i64 a0_0, .slice A0_1 l0_1.length c0_1, .int .i64 a0_2, .int .i64 a0_3, .int .i64 a0_4, .int .i64 a0_5, .int .i64 a0_6, .int .i64 a0_7, .int .i64 a0_8, .int .i64 a0_9, .int .i64 a0_10, .int .i64 a0_11, .int .i64 a0_12, .slice A0_13 l0_13.length c0_13, .int .u64 a0_14, .int .i64 a0_15, .int .i64 a0_16, .int .u64 a0_17, .int .i64 a0_18, .int .i64 a0_19, .int .u64 a0_20, .int .i64 a0_21, .int .i64 a0_22, .slice A0_23 l0_23.length c0_23, .int .i64 a0_24]) (bkt BK120.out) ?_ | refine lwx (g := gb120) BK120.out ?_ | refine lwx2 (g := gb120) (blk_set (bkt BK120.out) _ _) ?_)))
         go_loopg [51] k2 (fun kq v51 w' => ∃ (x51_3 : Int), v51 = .int .i64 x51_3 ∧ Aside0 (config_lists.l2 kq l0_13 (l0_13.length : Int) x51_3 a0_0 l0_1 a0_2 a0_3 a0_4 a0_5 a0_6 a0_7 a0_8 a0_9 a0_10 a0_11 a0_12 l0_13 a0_14 a0_15 a0_16 a0_17 a0_18 a0_19 a0_20 a0_21 a0_22 l0_23 a0_24 = some r) ∧ Aside0 (kq ≤ k2) ∧ Aside0 (w'.heap[gb120]? = some (.cells #[.int .i64 a0_0, (.slice A0_1 l0_1.length c0_1), .int .i64 a0_2, .int .i64 a0_3, .int .i64 a0_4, .int .i64 a0_5, .int .i64 a0_6, .int .i64 a0_7, .int .i64 a0_8, .int .i64 a0_9, .int .i64 a0_10, .int .i64 a0_11, .int .i64 a0_12, (.slice A0_13 l0_13.length c0_13), .int .u64 a0_14, .int .i64 a0_15, .int .i64 a0_16, .int .u64 a0_17, .int .i64 a0_18, .int .i64 a0_19, .int .u64 a0_20, .int .i64 a0_21, .int .i64 a0_22, (.slice A0_23 l0_23.length c0_23), .int .i64 a0_24] 29 (0, 0))) ∧ Aside0 (Below w.heap.size w w'))
         case atStart => exact ⟨(0), (by first | rfl | (simp; done) | (simp [*]; done)), H', ⟨Nat.le_refl _⟩, ⟨bkt BK120.out⟩, ⟨bel HB.out⟩⟩
         case round =>
          clear H'
          try clear c1
          try clear p1
          try clear q1
          try clear hx1
          try clear c2
          try clear c2b0
          try clear c2b1
          try clear p2
          try clear c3
          try clear c5
          try clear c5b0
          try clear c6
          try clear c6b0
          try clear p6
          try clear c7
          try clear c7b0
          try clear c9
          try clear c10
          try clear c10b0
          try clear c10b1
          try clear c12
          try clear c12b0
          try clear p12
          try clear q12
          try clear hx12
          try clear c13
          try clear c13b0
          try clear c14
          try clear c14b0
          try clear c15
          try clear c15b0
          try clear c15b1
          try clear hcz11_0
          try clear hcz16_0
          try clear hcz17_0
          try clear hcz18_0
          try clear hcz4_0
          try clear hfz11_0
          try clear hfz16_0
          try clear hfz17_0
          try clear hfz18_0
          try clear hfz4_0
          try clear hx121_0
          try clear hx123_0
          try clear p1
          try clear p121
          try clear p123
          try clear p2
          try clear p6
          try clear q1
          try clear q121
          try clear q123
          obtain ⟨x51_3, rfl, HA, HK3, BK120, HB⟩ := hrel
          cases gk with
          | zero => exact absurd HA.out (by simp [config_lists.l2])
          | succ k3 =>
           have H := HA.out
           clear HA
           simp only [config_lists.l2] at H
           by_cases c19 : x51_3 < (l0_13.length : Int)
           ·as_aux_lemma =>
            rw [if_pos c19] at H
            have c19b0 : decide (x51_3 < (l0_13.length : Int)) = true := decide_eq_true c19
            clear c19
            by_cases c20 : 0 ≤ x51_3
            ·as_aux_lemma =>
             rw [if_pos c20] at H
             have c20b0 : decide (0 ≤ x51_3) = true := decide_eq_true c20
             clear c20
             by_cases c21 : x51_3 < (l0_13.length : Int)
             ·as_aux_lemma =>
              rw [if_pos c21] at H
              have c21b0 : decide (x51_3 < (l0_13.length : Int)) = true := decide_eq_true c21
              clear c21
              have H' := Aside0.mk H
              clear H
              have p125 : 0 ≤ (x51_3 : Int) := of_decide_eq_true (by first | (with_reducible assumption) | assumption)
              have q125 : x51_3 < (l0_13.length : Int) := of_decide_eq_true (by first | (with_reducible assumption) | assumption)
              obtain ⟨ad125, A125_0, c125_0, e125, hx125_0, hl125_0, hi125_0⟩ := at_L1 HR0_13.out x51_3 p125 q125
              cases e125
              replace hx125_0 := (HB.out.cell (World.block_lt_of_cell? w _ hx125_0)).trans hx125_0
              have HR125_0 := Aside0.mk hi125_0
              have HC125_0 := Aside0.mk hl125_0
              clear hi125_0 hl125_0
              replace p125 := eq_true p125
              replace q125 := eq_true q125
              go_wp2_with (first | ((with_reducible refine gate_dst (N := 66) rfl ?_); (first | refine lwx (g := gb120) (cs := [.int .i64 a0_0, .slice A0_1 l0_1.length c0_1, .int .i64 a0_2, .int .i64 a0_3, .int .i64 a0_4, .int .i64 a0_5, .int .i64 a0_6, .int .i64 a0_7, .int .i64 a0_8, .int .i64 a0_9, .int .i64 a0_10, .int .i64 a0_11, .int .i64 a0_12, .slice A0_13 l0_13.length c0_13, .int .u64 a0_14, .int .i64 a0_15, .int .i64 a0_16, .int .u64 a0_17, .int .i64 a0_18, .int .i64 a0_19, .int .u64 a0_20, .int .i64 a0_21, .int .i64 a0_22, .slice A0_23 l0_23.length c0_23, .int .i64 a0_24]) (bkt BK120.out) ?_ | refine lwx (g := gb120) BK120.out ?_ | refine lwx2 (g := gb120) (blk_set (bkt BK120.out) _ _) ?_)))
              go_loopg [57] k3 (fun kq v57 w' => ∃ (x57_4 : Int), v57 = .int .i64 x57_4 ∧ Aside0 (config_lists.l3 kq l0_13 (l0_13.length : Int) x51_3 (rd_L1 l0_13 x51_3) ((rd_L1 l0_13 x51_3).length : Int) x57_4 a0_0 l0_1 a0_2 a0_3 a0_4 a0_5 a0_6 a0_7 a0_8 a0_9 a0_10 a0_11 a0_12 l0_13 a0_14 a0_15 a0_16 a0_17 a0_18 a0_19 a0_20 a0_21 a0_22 l0_23 a0_24 = some r) ∧ Aside0 (kq ≤ k3) ∧ Aside0 (w'.heap[gb120]? = some (.cells #[.int .i64 a0_0, (.slice A0_1 l0_1.length c0_1), .int .i64 a0_2, .int .i64 a0_3, .int .i64 a0_4, .int .i64 a0_5, .int .i64 a0_6, .int .i64 a0_7, .int .i64 a0_8, .int .i64 a0_9, .int .i64 a0_10, .int .i64 a0_11, .int .i64 a0_12, (.slice (some ad125) l0_13.length c0_13), .int .u64 a0_14, .int .i64 a0_15, .int .i64 a0_16, .int .u64 a0_17, .int .i64 a0_18, .int .i64 a0_19, .int .u64 a0_20, .int .i64 a0_21, .int .i64 a0_22, (.slice A0_23 l0_23.length c0_23), .int .i64 a0_24] 29 (0, 0))) ∧ Aside0 (Below w.heap.size w w'))
              case atStart => exact ⟨(0), (by first | rfl | (simp; done) | (simp [*]; done)), H', ⟨Nat.le_refl _⟩, ⟨bkt BK120.out⟩, ⟨bel HB.out⟩⟩
              case round =>
               clear H'
               try clear c1
               try clear p1
               try clear q1
               try clear hx1
               try clear c2
               try clear c2b0
               try clear c2b1
               try clear p2
               try clear c3
               try clear c5
               try clear c5b0
               try clear c6
               try clear c6b0
               try clear p6
               try clear c7
               try clear c7b0
               try clear c9
               try clear c10
               try clear c10b0
               try clear c10b1
               try clear c12
               try clear c12b0
               try clear p12
               try clear q12
               try clear hx12
               try clear c13
               try clear c13b0
               try clear c14
               try clear c14b0
               try clear c15
               try clear c15b0
               try clear c15b1
               try clear c19
               try clear c19b0
               try clear c20
               try clear c20b0
               try clear c21
               try clear c21b0
               try clear hcz11_0
               try clear hcz16_0
               try clear hcz17_0
               try clear hcz18_0
               try clear hcz4_0
               try clear hfz11_0
               try clear hfz16_0
               try clear hfz17_0
               try clear hfz18_0
               try clear hfz4_0
               try clear hx121_0
               try clear hx123_0
               try clear hx125_0
               try clear p1
               try clear p12
               try clear p121
               try clear p123
               try clear p125
               try clear p2
               try clear p6
               try clear q1
               try clear q12
               try clear q121
               try clear q123
               try clear q125
               obtain ⟨x57_4, rfl, HA, HK4, BK120, HB⟩ := hrel
               cases gk with
               | zero => exact absurd HA.out (by simp [config_lists.l3])
               | succ k4 =>
                have H := HA.out
                clear HA
                simp only [config_lists.l3] at H
                by_cases c22 : x57_4 < ((rd_L1 l0_13 x51_3).length : Int)
                ·as_aux_lemma =>
                 rw [if_pos c22] at H
                 have c22b0 : decide (x57_4 < ((rd_L1 l0_13 x51_3).length : Int)) = true := decide_eq_true c22
                 clear c22
                 by_cases c23 : 0 ≤ x57_4
                 ·as_aux_lemma =>
                  rw [if_pos c23] at H
                  have c23b0 : decide (0 ≤ x57_4) = true := decide_eq_true c23
                  clear c23
                  by_cases c24 : x57_4 < ((rd_L1 l0_13 x51_3).length : Int)
                  ·as_aux_lemma =>
                   rw [if_pos c24] at H
                   have c24b0 : decide (x57_4 < ((rd_L1 l0_13 x51_3).length : Int)) = true := decide_eq_true c24
                   clear c24
                   replace H := Option.bind_eq_some_iff.mp H
                   obtain ⟨t127, A250, H⟩ := H
                   replace H : (if t127 = true then (config_lists.l3 k4 l0_13 (l0_13.length : Int) x51_3 (rd_L1 l0_13 x51_3) ((rd_L1 l0_13 x51_3).length : Int) (wrap64 (x57_4 + 1)) a0_0 l0_1 a0_2 a0_3 a0_4 a0_5 a0_6 a0_7 a0_8 a0_9 a0_10 a0_11 a0_12 l0_13 a0_14 a0_15 a0_16 a0_17 a0_18 a0_19 a0_20 a0_21 a0_22 l0_23 a0_24) else (some 2)) = some r := H
                   have A25 := Aside0.mk A250
                   clear A250
                   by_cases c26 : t127 = true
                   ·as_aux_lemma =>
                    subst c26
                    have H1 : (config_lists.l3 k4 l0_13 (l0_13.length : Int) x51_3 (rd_L1 l0_13 x51_3) ((rd_L1 l0_13 x51_3).length : Int) (wrap64 (x57_4 + 1)) a0_0 l0_1 a0_2 a0_3 a0_4 a0_5 a0_6 a0_7 a0_8 a0_9 a0_10 a0_11 a0_12 l0_13 a0_14 a0_15 a0_16 a0_17 a0_18 a0_19 a0_20 a0_21 a0_22 l0_23 a0_24) = some r := by rw [if_pos rfl] at H; exact H
                    clear H
                    have H := H1
                    clear H1
                    have H' := Aside0.mk H
                    clear H
                    have p126 : 0 ≤ (x57_4 : Int) := of_decide_eq_true (by first | (with_reducible assumption) | assumption)
                    have q126 : x57_4 < ((rd_L1 l0_13 x51_3).length : Int) := of_decide_eq_true (by first | (with_reducible assumption) | assumption)
                    obtain ⟨ad126, e126, hx126_0⟩ := Kd.at_int HR125_0.out x57_4 p126 q126
                    cases e126
                    replace hx126_0 := (HB.out.cell (World.block_lt_of_cell? w _ hx126_0)).trans hx126_0
                    replace p126 := eq_true p126
                    replace q126 := eq_true q126
                    go_wp2_with (first | ((with_reducible refine gate_dst (N := 66) rfl ?_); (first | refine lwx (g := gb120) (cs := [.int .i64 a0_0, .slice A0_1 l0_1.length c0_1, .int .i64 a0_2, .int .i64 a0_3, .int .i64 a0_4, .int .i64 a0_5, .int .i64 a0_6, .int .i64 a0_7, .int .i64 a0_8, .int .i64 a0_9, .int .i64 a0_10, .int .i64 a0_11, .int .i64 a0_12, .slice A0_13 l0_13.length c0_13, .int .u64 a0_14, .int .i64 a0_15, .int .i64 a0_16, .int .u64 a0_17, .int .i64 a0_18, .int .i64 a0_19, .int .u64 a0_20, .int .i64 a0_21, .int .i64 a0_22, .slice A0_23 l0_23.length c0_23, .int .i64 a0_24]) (bkt BK120.out) ?_ | refine lwx (g := gb120) BK120.out ?_ | refine lwx2 (g := gb120) (blk_set (bkt BK120.out) _ _) ?_)) | ((with_reducible refine gate_callee (f := 31) rfl ?_); refine gsl (some 62) Try.func31 #[.int .i64 (rd (rd_L1 l0_13 x51_3) x57_4), .int .i64 0, .int .i64 3] ?_; (with_reducible refine (config_in.calls (rd (rd_L1 l0_13 x51_3) x57_4) 0 3 true _ A25.out).mono ?_); rintro e w' ⟨rfl, ⟨nd, rfl⟩⟩; refine ⟨_, rfl, ?_⟩))
                    go_roundg k4
                    case measure => have := HK1.out; have := HK2.out; have := HK3.out; have := HK4.out; omega
                    case rel => exact ⟨(wrap64 (x57_4 + 1)), (by first | rfl | (simp; done) | (simp [*]; done)), H', ⟨by have := HK1.out; have := HK2.out; have := HK3.out; have := HK4.out; omega⟩, ⟨bkt BK120.out⟩, ⟨bel HB.out⟩⟩
                   ·as_aux_lemma =>
                    replace c26 := Bool.eq_false_iff.mpr c26
                    subst c26
                    have H1 : (some 2) = some r := by rw [if_neg (show ¬ (false = true) by decide)] at H; exact H
                    clear H
                    have H := H1
                    clear H1
                    obtain rfl := Option.some.inj H
                    have p126 : 0 ≤ (x57_4 : Int) := of_decide_eq_true (by first | (with_reducible assumption) | assumption)
                    have q126 : x57_4 < ((rd_L1 l0_13 x51_3).length : Int) := of_decide_eq_true (by first | (with_reducible assumption) | assumption)
                    obtain ⟨ad126, e126, hx126_0⟩ := Kd.at_int HR125_0.out x57_4 p126 q126
                    cases e126
                    replace hx126_0 := (HB.out.cell (World.block_lt_of_cell? w _ hx126_0)).trans hx126_0
                    replace p126 := eq_true p126
                    replace q126 := eq_true q126
                    go_wp2_with (first | ((with_reducible refine gate_dst (N := 66) rfl ?_); (first | refine lwx (g := gb120) (cs := [.int .i64 a0_0, .slice A0_1 l0_1.length c0_1, .int .i64 a0_2, .int .i64 a0_3, .int .i64 a0_4, .int .i64 a0_5, .int .i64 a0_6, .int .i64 a0_7, .int .i64 a0_8, .int .i64 a0_9, .int .i64 a0_10, .int .i64 a0_11, .int .i64 a0_12, .slice A0_13 l0_13.length c0_13, .int .u64 a0_14, .int .i64 a0_15, .int .i64 a0_16, .int .u64 a0_17, .int .i64 a0_18, .int .i64 a0_19, .int .u64 a0_20, .int .i64 a0_21, .int .i64 a0_22, .slice A0_23 l0_23.length c0_23, .int .i64 a0_24]) (bkt BK120.out) ?_ | refine lwx (g := gb120) BK120.out ?_ | refine lwx2 (g := gb120) (blk_set (bkt BK120.out) _ _) ?_)) | ((with_reducible refine gate_callee (f := 31) rfl ?_); refine gsl (some 62) Try.func31 #[.int .i64 (rd (rd_L1 l0_13 x51_3) x57_4), .int .i64 0, .int .i64 3] ?_; (with_reducible refine (config_in.calls (rd (rd_L1 l0_13 x51_3) x57_4) 0 3 false _ A25.out).mono ?_); rintro e w' ⟨rfl, ⟨nd, rfl⟩⟩; refine ⟨_, rfl, ?_⟩))
                    go_ret
                    exact bfin (bel HB.out)
                  ·rw [if_neg c24] at H
                   exact absurd H (by simp)
                 ·rw [if_neg c23] at H
                  exact absurd H (by simp)
                ·as_aux_lemma =>
                 rw [if_neg c22] at H
                 have c22b0 : decide (x57_4 < ((rd_L1 l0_13 x51_3).length : Int)) = false := decide_eq_false c22
                 clear c22
                 have H' := Aside0.mk H
                 clear H
                 go_wp2_with (first | ((with_reducible refine gate_dst (N := 66) rfl ?_); (first | refine lwx (g := gb120) (cs := [.int .i64 a0_0, .slice A0_1 l0_1.length c0_1, .int .i64 a0_2, .int .i64 a0_3, .int .i64 a0_4, .int .i64 a0_5, .int .i64 a0_6, .int .i64 a0_7, .int .i64 a0_8, .int .i64 a0_9, .int .i64 a0_10, .int .i64 a0_11, .int .i64 a0_12, .slice A0_13 l0_13.length c0_13, .int .u64 a0_14, .int .i64 a0_15, .int .i64 a0_16, .int .u64 a0_17, .int .i64 a0_18, .int .i64 a0_19, .int .u64 a0_20, .int .i64 a0_21, .int .i64 a0_22, .slice A0_23 l0_23.length c0_23, .int .i64 a0_24]) (bkt BK120.out) ?_ | refine lwx (g := gb120) BK120.out ?_ | refine lwx2 (g := gb120) (blk_set (bkt BK120.out) _ _) ?_)))
                 go_roundg k4
                 case measure => have := HK1.out; have := HK2.out; have := HK3.out; have := HK4.out; omega
                 case rel => exact ⟨(wrap64 (x51_3 + 1)), (by first | rfl | (simp; done) | (simp [*]; done)), H', ⟨by have := HK1.out; have := HK2.out; have := HK3.out; have := HK4.out; omega⟩, ⟨bkt BK120.out⟩, ⟨bel HB.out⟩⟩
             ·rw [if_neg c21] at H
              exact absurd H (by simp)
            ·rw [if_neg c20] at H
             exact absurd H (by simp)
           ·as_aux_lemma =>
            rw [if_neg c19] at H
            have c19b0 : decide (x51_3 < (l0_13.length : Int)) = false := decide_eq_false c19
            clear c19
            replace H := Option.bind_eq_some_iff.mp H
            obtain ⟨t124, A270, H⟩ := H
            replace H : (some t124) = some r := H
            have A27 := Aside0.mk A270
            clear A270
            obtain rfl := Option.some.inj H
            have hcz28_0 := cz25 BK120.out
            have hfz28_0 := blk_frozen BK120.out
            go_wp2_with (first | ((with_reducible refine gate_dst (N := 66) rfl ?_); (first | refine lwx (g := gb120) (cs := [.int .i64 a0_0, .slice A0_1 l0_1.length c0_1, .int .i64 a0_2, .int .i64 a0_3, .int .i64 a0_4, .int .i64 a0_5, .int .i64 a0_6, .int .i64 a0_7, .int .i64 a0_8, .int .i64 a0_9, .int .i64 a0_10, .int .i64 a0_11, .int .i64 a0_12, .slice A0_13 l0_13.length c0_13, .int .u64 a0_14, .int .i64 a0_15, .int .i64 a0_16, .int .u64 a0_17, .int .i64 a0_18, .int .i64 a0_19, .int .u64 a0_20, .int .i64 a0_21, .int .i64 a0_22, .slice A0_23 l0_23.length c0_23, .int .i64 a0_24]) (bkt BK120.out) ?_ | refine lwx (g := gb120) BK120.out ?_ | refine lwx2 (g := gb120) (blk_set (bkt BK120.out) _ _) ?_)) | ((with_reducible refine gate_callee (f := 45) rfl ?_); refine gsl (some 67) Try.func45 #[.agg #[.int .i64 a0_0, .slice A0_1 l0_1.length c0_1, .int .i64 a0_2, .int .i64 a0_3, .int .i64 a0_4, .int .i64 a0_5, .int .i64 a0_6, .int .i64 a0_7, .int .i64 a0_8, .int .i64 a0_9, .int .i64 a0_10, .int .i64 a0_11, .int .i64 a0_12, .slice A0_13 l0_13.length c0_13, .int .u64 a0_14, .int .i64 a0_15, .int .i64 a0_16, .int .u64 a0_17, .int .i64 a0_18, .int .i64 a0_19, .int .u64 a0_20, .int .i64 a0_21, .int .i64 a0_22, .slice A0_23 l0_23.length c0_23, .int .i64 a0_24]] ?_; (with_reducible refine (config_rules.calls k3 a0_0 _ _ l0_1 a0_2 a0_3 a0_4 a0_5 a0_6 a0_7 a0_8 a0_9 a0_10 a0_11 a0_12 _ _ l0_13 a0_14 a0_15 a0_16 a0_17 a0_18 a0_19 a0_20 a0_21 a0_22 _ _ l0_23 a0_24 t124 _ ?side1 ?side2 ?side3 ?side4 ?side5 ?side6 A27.out).mono ?_); (case side1 => repeat (first | exact (Kd.C_below HR0_1.out HB.out) | (with_reducible refine Kd.C_alloc ?_ _) | (with_reducible refine Kd.C_drewN ?_ _) | (with_reducible refine Kd.C_drew ?_))); (case side2 => exact HC0_1.out); (case side3 => repeat (first | exact (Kd.C_below HR0_13.out HB.out) | (with_reducible refine Kd.C_alloc ?_ _) | (with_reducible refine Kd.C_drewN ?_ _) | (with_reducible refine Kd.C_drew ?_))); (case side4 => exact HC0_13.out); (case side5 => repeat (first | exact (Kd.C_below HR0_23.out HB.out) | (with_reducible refine Kd.C_alloc ?_ _) | (with_reducible refine Kd.C_drewN ?_ _) | (with_reducible refine Kd.C_drew ?_))); (case side6 => exact HC0_23.out); rintro e w29 ⟨rfl, hb⟩; refine ⟨_, rfl, ?_⟩; replace BK120 := Aside0.mk (bkb BK120.out hb); replace HB := Aside0.mk (bst HB.out hb); (try clear hb); (try clear hb2); (try clear hk); (try clear hi)))
            go_ret
            exact bfin (bel HB.out)
     ·as_aux_lemma =>
      rw [if_neg c10] at H
      have c10b0 : ((l0_13.length : Int) == a0_2) = false := beq_eq_false_iff_ne.mpr c10
      have c10b1 : ((l0_13.length : Int) != a0_2) = true := bne_iff_ne.mpr c10
      obtain rfl := Option.some.inj H
      have hcz30_0 := cz25 BK120.out
      have hfz30_0 := blk_frozen BK120.out
      go_wp2_with (first | ((with_reducible refine gate_dst (N := 66) rfl ?_); (first | refine lwx (g := gb120) (cs := [.int .i64 a0_0, .slice A0_1 l0_1.length c0_1, .int .i64 a0_2, .int .i64 a0_3, .int .i64 a0_4, .int .i64 a0_5, .int .i64 a0_6, .int .i64 a0_7, .int .i64 a0_8, .int .i64 a0_9, .int .i64 a0_10, .int .i64 a0_11, .int .i64 a0_12, .slice A0_13 l0_13.length c0_13, .int .u64 a0_14, .int .i64 a0_15, .int .i64 a0_16, .int .u64 a0_17, .int .i64 a0_18, .int .i64 a0_19, .int .u64 a0_20, .int .i64 a0_21, .int .i64 a0_22, .slice A0_23 l0_23.length c0_23, .int .i64 a0_24]) (bkt BK120.out) ?_ | refine lwx (g := gb120) BK120.out ?_ | refine lwx2 (g := gb120) (blk_set (bkt BK120.out) _ _) ?_)))
      go_ret
      exact bfin (bel HB.out)
 ·as_aux_lemma =>
  rw [if_neg c2] at H
  have c2b0 : ((l0_1.length : Int) == (wrap64 (a0_0 - 1))) = false := beq_eq_false_iff_ne.mpr c2
  have c2b1 : ((l0_1.length : Int) != (wrap64 (a0_0 - 1))) = true := bne_iff_ne.mpr c2
  obtain rfl := Option.some.inj H
  go_enter Try.func32, Try.ntmps32
  go_wp2_with (first | ((with_reducible refine gate_dst (N := 66) rfl ?_); (first | refine lwx (g := gb120) (cs := [.int .i64 a0_0, .slice A0_1 l0_1.length c0_1, .int .i64 a0_2, .int .i64 a0_3, .int .i64 a0_4, .int .i64 a0_5, .int .i64 a0_6, .int .i64 a0_7, .int .i64 a0_8, .int .i64 a0_9, .int .i64 a0_10, .int .i64 a0_11, .int .i64 a0_12, .slice A0_13 l0_13.length c0_13, .int .u64 a0_14, .int .i64 a0_15, .int .i64 a0_16, .int .u64 a0_17, .int .i64 a0_18, .int .i64 a0_19, .int .u64 a0_20, .int .i64 a0_21, .int .i64 a0_22, .slice A0_23 l0_23.length c0_23, .int .i64 a0_24]) (bkt BK120.out) ?_ | refine lwx (g := gb120) BK120.out ?_ | refine lwx2 (g := gb120) (blk_set (bkt BK120.out) _ _) ?_)) | ((with_reducible refine gate_dst (N := 1) rfl ?_); refine bxe (cs := #[.int .i64 a0_0, .slice A0_1 l0_1.length c0_1, .int .i64 a0_2, .int .i64 a0_3, .int .i64 a0_4, .int .i64 a0_5, .int .i64 a0_6, .int .i64 a0_7, .int .i64 a0_8, .int .i64 a0_9, .int .i64 a0_10, .int .i64 a0_11, .int .i64 a0_12, .slice A0_13 l0_13.length c0_13, .int .u64 a0_14, .int .i64 a0_15, .int .i64 a0_16, .int .u64 a0_17, .int .i64 a0_18, .int .i64 a0_19, .int .u64 a0_20, .int .i64 a0_21, .int .i64 a0_22, .slice A0_23 l0_23.length c0_23, .int .i64 a0_24]) (t := 29) ?_; intro gb120 hg w31 hbox hb; have BK120 := Aside0.mk (hbox); have GW120 := Aside0.mk (bge hg HB.out); have GE120 := Aside0.mk (bge hg HB.out); replace HB := Aside0.mk (bst HB.out hb); clear hb hbox hg; have hcz32_0 := cz25 BK120.out; have hfz32_0 := blk_frozen BK120.out))
  go_ret
  exact bfin (bel HB.out)

end Go.Proofs.Ytmdcjmackhjchaa.P
end
