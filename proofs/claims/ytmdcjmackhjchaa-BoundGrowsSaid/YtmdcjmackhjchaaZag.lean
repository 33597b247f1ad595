import Derived.Test.YtmdcjmackhjchaaZad
import Derived.Test.YtmdcjmackhjchaaZaf
section
-- Printed by wip/myprint.py of this repo (over the kit's printer). Not trusted: Lean checks it.
namespace Go.Proofs.Ytmdcjmackhjchaa.P
open Go.RowKit Go.Proofs.YtmdcjmackhjchaaW.PrintWords Go.Proofs.YtmdcjmackhjchaaW.PrintLast Go.Proofs.YtmdcjmackhjchaaW.PrintMore
attribute [local go_sem] cell_same1 cell_some1 ix27_0 ix27_1 ix27_2
attribute [local go_sem] max2_int min2_int max_two min_two max_three min_three max_four min_four   -- for this text's walks alone
set_option linter.unusedVariables false
set_option linter.unusedSimpArgs false

/-! ### config_rules: function 45 -/
mutual
def config_rules.l0 : Nat → Int → Int → Int → List Int → Int → Int → Int → Int → Int → Int → Int → Int → Int → Int → Int → List (List Int) → Int → Int → Int → Int → Int → Int → Int → Int → Int → List Int → Int → Option (Int)
 | 0, _, _, _, _, _, _, _, _, _, _, _, _, _, _, _, _, _, _, _, _, _, _, _, _, _, _, _ => none
 | k + 1, x3, x17, x106000, x106001, x106002, x106003, x106004, x106005, x106006, x106007, x106008, x106009, x106010, x106011, x106012, x106013, x106014, x106015, x106016, x106017, x106018, x106019, x106020, x106021, x106022, x106023, x106024 => if x17 < 3 then (if x17 = 0 then (if x106014 = 0 then (config_rules.j1 k x3 x17 true x106000 x106001 x106002 x106003 x106004 x106005 x106006 x106007 x106008 x106009 x106010 x106011 x106012 x106013 x106014 x106015 x106016 x106017 x106018 x106019 x106020 x106021 x106022 x106023 x106024 x106014 x106015 x106016) else (config_rules.j1 k x3 x17 ((Go.bits .andNot .u64 x106014 x3) != 0) x106000 x106001 x106002 x106003 x106004 x106005 x106006 x106007 x106008 x106009 x106010 x106011 x106012 x106013 x106014 x106015 x106016 x106017 x106018 x106019 x106020 x106021 x106022 x106023 x106024 x106014 x106015 x106016)) else (if x17 = 1 then (if x106017 = 0 then (config_rules.j2 k x3 x17 true x106000 x106001 x106002 x106003 x106004 x106005 x106006 x106007 x106008 x106009 x106010 x106011 x106012 x106013 x106014 x106015 x106016 x106017 x106018 x106019 x106020 x106021 x106022 x106023 x106024 x106017 x106018 x106019) else (config_rules.j2 k x3 x17 ((Go.bits .andNot .u64 x106017 x3) != 0) x106000 x106001 x106002 x106003 x106004 x106005 x106006 x106007 x106008 x106009 x106010 x106011 x106012 x106013 x106014 x106015 x106016 x106017 x106018 x106019 x106020 x106021 x106022 x106023 x106024 x106017 x106018 x106019)) else (if x17 = 2 then (if x106020 = 0 then (config_rules.j3 k x3 x17 true x106000 x106001 x106002 x106003 x106004 x106005 x106006 x106007 x106008 x106009 x106010 x106011 x106012 x106013 x106014 x106015 x106016 x106017 x106018 x106019 x106020 x106021 x106022 x106023 x106024 x106020 x106021 x106022) else (config_rules.j3 k x3 x17 ((Go.bits .andNot .u64 x106020 x3) != 0) x106000 x106001 x106002 x106003 x106004 x106005 x106006 x106007 x106008 x106009 x106010 x106011 x106012 x106013 x106014 x106015 x106016 x106017 x106018 x106019 x106020 x106021 x106022 x106023 x106024 x106020 x106021 x106022)) else (none)))) else (if (x106023.length : Int) > 8 then (some 5) else (config_rules.l1 k x106023 (x106023.length : Int) 0 x106000 x106001 x106002 x106003 x106004 x106005 x106006 x106007 x106008 x106009 x106010 x106011 x106012 x106013 x106014 x106015 x106016 x106017 x106018 x106019 x106020 x106021 x106022 x106023 x106024))
def config_rules.j1 : Nat → Int → Int → Bool → Int → List Int → Int → Int → Int → Int → Int → Int → Int → Int → Int → Int → Int → List (List Int) → Int → Int → Int → Int → Int → Int → Int → Int → Int → List Int → Int → Int → Int → Int → Option (Int)
 | 0, _, _, _, _, _, _, _, _, _, _, _, _, _, _, _, _, _, _, _, _, _, _, _, _, _, _, _, _, _, _, _ => none
 | k + 1, x3, x17, x20, x106000, x106001, x106002, x106003, x106004, x106005, x106006, x106007, x106008, x106009, x106010, x106011, x106012, x106013, x106014, x106015, x106016, x106017, x106018, x106019, x106020, x106021, x106022, x106023, x106024, x109000, x109001, x109002 => if x20 = true then (some 3) else ((mask_Has.f x109000 x109001).bind fun t109 => (if t109 = true then ((config_in.f x109002 1 32).bind fun t110 => (if t110 = true then (config_rules.l0 k x3 (wrap64 (x17 + 1)) x106000 x106001 x106002 x106003 x106004 x106005 x106006 x106007 x106008 x106009 x106010 x106011 x106012 x106013 x106014 x106015 x106016 x106017 x106018 x106019 x106020 x106021 x106022 x106023 x106024) else (some 2))) else (some 2)))
def config_rules.j2 : Nat → Int → Int → Bool → Int → List Int → Int → Int → Int → Int → Int → Int → Int → Int → Int → Int → Int → List (List Int) → Int → Int → Int → Int → Int → Int → Int → Int → Int → List Int → Int → Int → Int → Int → Option (Int)
 | 0, _, _, _, _, _, _, _, _, _, _, _, _, _, _, _, _, _, _, _, _, _, _, _, _, _, _, _, _, _, _, _ => none
 | k + 1, x3, x17, x20, x106000, x106001, x106002, x106003, x106004, x106005, x106006, x106007, x106008, x106009, x106010, x106011, x106012, x106013, x106014, x106015, x106016, x106017, x106018, x106019, x106020, x106021, x106022, x106023, x106024, x112000, x112001, x112002 => if x20 = true then (some 3) else ((mask_Has.f x112000 x112001).bind fun t112 => (if t112 = true then ((config_in.f x112002 1 32).bind fun t113 => (if t113 = true then (config_rules.l0 k x3 (wrap64 (x17 + 1)) x106000 x106001 x106002 x106003 x106004 x106005 x106006 x106007 x106008 x106009 x106010 x106011 x106012 x106013 x106014 x106015 x106016 x106017 x106018 x106019 x106020 x106021 x106022 x106023 x106024) else (some 2))) else (some 2)))
def config_rules.j3 : Nat → Int → Int → Bool → Int → List Int → Int → Int → Int → Int → Int → Int → Int → Int → Int → Int → Int → List (List Int) → Int → Int → Int → Int → Int → Int → Int → Int → Int → List Int → Int → Int → Int → Int → Option (Int)
 | 0, _, _, _, _, _, _, _, _, _, _, _, _, _, _, _, _, _, _, _, _, _, _, _, _, _, _, _, _, _, _, _ => none
 | k + 1, x3, x17, x20, x106000, x106001, x106002, x106003, x106004, x106005, x106006, x106007, x106008, x106009, x106010, x106011, x106012, x106013, x106014, x106015, x106016, x106017, x106018, x106019, x106020, x106021, x106022, x106023, x106024, x115000, x115001, x115002 => if x20 = true then (some 3) else ((mask_Has.f x115000 x115001).bind fun t115 => (if t115 = true then ((config_in.f x115002 1 32).bind fun t116 => (if t116 = true then (config_rules.l0 k x3 (wrap64 (x17 + 1)) x106000 x106001 x106002 x106003 x106004 x106005 x106006 x106007 x106008 x106009 x106010 x106011 x106012 x106013 x106014 x106015 x106016 x106017 x106018 x106019 x106020 x106021 x106022 x106023 x106024) else (some 2))) else (some 2)))
def config_rules.l1 : Nat → List Int → Int → Int → Int → List Int → Int → Int → Int → Int → Int → Int → Int → Int → Int → Int → Int → List (List Int) → Int → Int → Int → Int → Int → Int → Int → Int → Int → List Int → Int → Option (Int)
 | 0, _, _, _, _, _, _, _, _, _, _, _, _, _, _, _, _, _, _, _, _, _, _, _, _, _, _, _, _ => none
 | k + 1, x50, x51, x52, x106000, x106001, x106002, x106003, x106004, x106005, x106006, x106007, x106008, x106009, x106010, x106011, x106012, x106013, x106014, x106015, x106016, x106017, x106018, x106019, x106020, x106021, x106022, x106023, x106024 => if x52 < x51 then (if 0 ≤ x52 then (if x52 < (x50.length : Int) then ((config_in.f (rd x50 x52) 1 99).bind fun t118 => (if t118 = true then (if x52 > 0 then (if 0 ≤ (wrap64 (x52 - 1)) then (if (wrap64 (x52 - 1)) < (x106023.length : Int) then (if (rd x50 x52) ≤ (rd x106023 (wrap64 (x52 - 1))) then (some 8) else (config_rules.l1 k x50 x51 (wrap64 (x52 + 1)) x106000 x106001 x106002 x106003 x106004 x106005 x106006 x106007 x106008 x106009 x106010 x106011 x106012 x106013 x106014 x106015 x106016 x106017 x106018 x106019 x106020 x106021 x106022 x106023 x106024)) else (none)) else (none)) else (config_rules.l1 k x50 x51 (wrap64 (x52 + 1)) x106000 x106001 x106002 x106003 x106004 x106005 x106006 x106007 x106008 x106009 x106010 x106011 x106012 x106013 x106014 x106015 x106016 x106017 x106018 x106019 x106020 x106021 x106022 x106023 x106024)) else (some 2))) else (none)) else (none)) else (some 0)
end
def config_rules.f (k : Nat) (a0_0 : Int) (l0_1 : List Int) (a0_2 : Int) (a0_3 : Int) (a0_4 : Int) (a0_5 : Int) (a0_6 : Int) (a0_7 : Int) (a0_8 : Int) (a0_9 : Int) (a0_10 : Int) (a0_11 : Int) (a0_12 : Int) (l0_13 : List (List Int)) (a0_14 : Int) (a0_15 : Int) (a0_16 : Int) (a0_17 : Int) (a0_18 : Int) (a0_19 : Int) (a0_20 : Int) (a0_21 : Int) (a0_22 : Int) (l0_23 : List Int) (a0_24 : Int) : Option (Int) := (mask_All.f a0_0).bind fun bt106 => (config_rules.l0 k bt106.1 0 a0_0 l0_1 a0_2 a0_3 a0_4 a0_5 a0_6 a0_7 a0_8 a0_9 a0_10 a0_11 a0_12 l0_13 a0_14 a0_15 a0_16 a0_17 a0_18 a0_19 a0_20 a0_21 a0_22 l0_23 a0_24)
theorem config_rules.mono_l : ∀ k, (∀ y0 y1 y2 y3 y4 y5 y6 y7 y8 y9 y10 y11 y12 y13 y14 y15 y16 y17 y18 y19 y20 y21 y22 y23 y24 y25 y26, LeO (config_rules.l0 k y0 y1 y2 y3 y4 y5 y6 y7 y8 y9 y10 y11 y12 y13 y14 y15 y16 y17 y18 y19 y20 y21 y22 y23 y24 y25 y26) (config_rules.l0 (k + 1) y0 y1 y2 y3 y4 y5 y6 y7 y8 y9 y10 y11 y12 y13 y14 y15 y16 y17 y18 y19 y20 y21 y22 y23 y24 y25 y26)) ∧ (∀ y0 y1 y2 y3 y4 y5 y6 y7 y8 y9 y10 y11 y12 y13 y14 y15 y16 y17 y18 y19 y20 y21 y22 y23 y24 y25 y26 y27 y28 y29 y30, LeO (config_rules.j1 k y0 y1 y2 y3 y4 y5 y6 y7 y8 y9 y10 y11 y12 y13 y14 y15 y16 y17 y18 y19 y20 y21 y22 y23 y24 y25 y26 y27 y28 y29 y30) (config_rules.j1 (k + 1) y0 y1 y2 y3 y4 y5 y6 y7 y8 y9 y10 y11 y12 y13 y14 y15 y16 y17 y18 y19 y20 y21 y22 y23 y24 y25 y26 y27 y28 y29 y30)) ∧ (∀ y0 y1 y2 y3 y4 y5 y6 y7 y8 y9 y10 y11 y12 y13 y14 y15 y16 y17 y18 y19 y20 y21 y22 y23 y24 y25 y26 y27 y28 y29 y30, LeO (config_rules.j2 k y0 y1 y2 y3 y4 y5 y6 y7 y8 y9 y10 y11 y12 y13 y14 y15 y16 y17 y18 y19 y20 y21 y22 y23 y24 y25 y26 y27 y28 y29 y30) (config_rules.j2 (k + 1) y0 y1 y2 y3 y4 y5 y6 y7 y8 y9 y10 y11 y12 y13 y14 y15 y16 y17 y18 y19 y20 y21 y22 y23 y24 y25 y26 y27 y28 y29 y30)) ∧ (∀ y0 y1 y2 y3 y4 y5 y6 y7 y8 y9 y10 y11 y12 y13 y14 y15 y16 y17 y18 y19 y20 y21 y22 y23 y24 y25 y26 y27 y28 y29 y30, LeO (config_rules.j3 k y0 y1 y2 y3 y4 y5 y6 y7 y8 y9 y10 y11 y12 y13 y14 y15 y16 y17 y18 y19 y20 y21 y22 y23 y24 y25 y26 y27 y28 y29 y30) (config_rules.j3 (k + 1) y0 y1 y2 y3 y4 y5 y6 y7 y8 y9 y10 y11 y12 y13 y14 y15 y16 y17 y18 y19 y20 y21 y22 y23 y24 y25 y26 y27 y28 y29 y30)) ∧ (∀ y0 y1 y2 y3 y4 y5 y6 y7 y8 y9 y10 y11 y12 y13 y14 y15 y16 y17 y18 y19 y20 y21 y22 y23 y24 y25 y26 y27, LeO (config_rules.l1 k y0 y1 y2 y3 y4 y5 y6 y7 y8 y9 y10 y11 y12 y13 y14 y15 y16 y17 y18 y19 y20 y21 y22 y23 y24 y25 y26 y27) (config_rules.l1 (k + 1) y0 y1 y2 y3 y4 y5 y6 y7 y8 y9 y10 y11 y12 y13 y14 y15 y16 y17 y18 y19 y20 y21 y22 y23 y24 y25 y26 y27))
 | 0 => ⟨fun _ _ _ _ _ _ _ _ _ _ _ _ _ _ _ _ _ _ _ _ _ _ _ _ _ _ _ r h => by simp [config_rules.l0] at h, fun _ _ _ _ _ _ _ _ _ _ _ _ _ _ _ _ _ _ _ _ _ _ _ _ _ _ _ _ _ _ _ r h => by simp [config_rules.j1] at h, fun _ _ _ _ _ _ _ _ _ _ _ _ _ _ _ _ _ _ _ _ _ _ _ _ _ _ _ _ _ _ _ r h => by simp [config_rules.j2] at h, fun _ _ _ _ _ _ _ _ _ _ _ _ _ _ _ _ _ _ _ _ _ _ _ _ _ _ _ _ _ _ _ r h => by simp [config_rules.j3] at h, fun _ _ _ _ _ _ _ _ _ _ _ _ _ _ _ _ _ _ _ _ _ _ _ _ _ _ _ _ r h => by simp [config_rules.l1] at h⟩
 | k + 1 => by
  obtain ⟨ih0, ih1, ih2, ih3, ih4⟩ := config_rules.mono_l k
  refine ⟨?_, ?_, ?_, ?_, ?_⟩
  ·as_aux_lemma =>
   intro y0 y1 y2 y3 y4 y5 y6 y7 y8 y9 y10 y11 y12 y13 y14 y15 y16 y17 y18 y19 y20 y21 y22 y23 y24 y25 y26
   unfold config_rules.l0
   repeat' first
   | (with_reducible exact ih0 _ _ _ _ _ _ _ _ _ _ _ _ _ _ _ _ _ _ _ _ _ _ _ _ _ _ _)
   | (with_reducible exact ih1 _ _ _ _ _ _ _ _ _ _ _ _ _ _ _ _ _ _ _ _ _ _ _ _ _ _ _ _ _ _ _)
   | (with_reducible exact ih2 _ _ _ _ _ _ _ _ _ _ _ _ _ _ _ _ _ _ _ _ _ _ _ _ _ _ _ _ _ _ _)
   | (with_reducible exact ih3 _ _ _ _ _ _ _ _ _ _ _ _ _ _ _ _ _ _ _ _ _ _ _ _ _ _ _ _ _ _ _)
   | (with_reducible exact ih4 _ _ _ _ _ _ _ _ _ _ _ _ _ _ _ _ _ _ _ _ _ _ _ _ _ _ _ _)
   | (with_reducible exact LeO.refl _)
   | (with_reducible exact LeO.none _)
   | (with_reducible refine LeO.ite ?_ ?_)
   | (with_reducible refine LeO.bind ?_ (fun _ => ?_))
   | exact ih0 _ _ _ _ _ _ _ _ _ _ _ _ _ _ _ _ _ _ _ _ _ _ _ _ _ _ _
   | exact ih1 _ _ _ _ _ _ _ _ _ _ _ _ _ _ _ _ _ _ _ _ _ _ _ _ _ _ _ _ _ _ _
   | exact ih2 _ _ _ _ _ _ _ _ _ _ _ _ _ _ _ _ _ _ _ _ _ _ _ _ _ _ _ _ _ _ _
   | exact ih3 _ _ _ _ _ _ _ _ _ _ _ _ _ _ _ _ _ _ _ _ _ _ _ _ _ _ _ _ _ _ _
   | exact ih4 _ _ _ _ _ _ _ _ _ _ _ _ _ _ _ _ _ _ _ _ _ _ _ _ _ _ _ _
   | exact LeO.none _
   | refine LeO.ite ?_ ?_
   | refine LeO.bind ?_ (fun _ => ?_)
  ·as_aux_lemma =>
   intro y0 y1 y2 y3 y4 y5 y6 y7 y8 y9 y10 y11 y12 y13 y14 y15 y16 y17 y18 y19 y20 y21 y22 y23 y24 y25 y26 y27 y28 y29 y30
   unfold config_rules.j1
   repeat' first
   | (with_reducible exact ih0 _ _ _ _ _ _ _ _ _ _ _ _ _ _ _ _ _ _ _ _ _ _ _ _ _ _ _)
   | (with_reducible exact ih1 _ _ _ _ _ _ _ _ _ _ _ _ _ _ _ _ _ _ _ _ _ _ _ _ _ _ _ _ _ _ _)
   | (with_reducible exact ih2 _ _ _ _ _ _ _ _ _ _ _ _ _ _ _ _ _ _ _ _ _ _ _ _ _ _ _ _ _ _ _)
   | (with_reducible exact ih3 _ _ _ _ _ _ _ _ _ _ _ _ _ _ _ _ _ _ _ _ _ _ _ _ _ _ _ _ _ _ _)
   | (with_reducible exact ih4 _ _ _ _ _ _ _ _ _ _ _ _ _ _ _ _ _ _ _ _ _ _ _ _ _ _ _ _)
   | (with_reducible exact LeO.refl _)
   | (with_reducible exact LeO.none _)
   | (with_reducible refine LeO.ite ?_ ?_)
   | (with_reducible refine LeO.bind ?_ (fun _ => ?_))
   | exact ih0 _ _ _ _ _ _ _ _ _ _ _ _ _ _ _ _ _ _ _ _ _ _ _ _ _ _ _
   | exact ih1 _ _ _ _ _ _ _ _ _ _ _ _ _ _ _ _ _ _ _ _ _ _ _ _ _ _ _ _ _ _ _
   | exact ih2 _ _ _ _ _ _ _ _ _ _ _ _ _ _ _ _ _ _ _ _ _ _ _ _ _ _ _ _ _ _ _
   | exact ih3 _ _ _ _ _ _ _ _ _ _ _ _ _ _ _ _ _ _ _ _ _ _ _ _ _ _ _ _ _ _ _
   | exact ih4 _ _ _ _ _ _ _ _ _ _ _ _ _ _ _ _ _ _ _ _ _ _ _ _ _ _ _ _
   | exact LeO.none _
   | refine LeO.ite ?_ ?_
   | refine LeO.bind ?_ (fun _ => ?_)
  ·as_aux_lemma =>
   intro y0 y1 y2 y3 y4 y5 y6 y7 y8 y9 y10 y11 y12 y13 y14 y15 y16 y17 y18 y19 y20 y21 y22 y23 y24 y25 y26 y27 y28 y29 y30
   unfold config_rules.j2
   repeat' first
   | (with_reducible exact ih0 _ _ _ _ _ _ _ _ _ _ _ _ _ _ _ _ _ _ _ _ _ _ _ _ _ _ _)
   | (with_reducible exact ih1 _ _ _ _ _ _ _ _ _ _ _ _ _ _ _ _ _ _ _ _ _ _ _ _ _ _ _ _ _ _ _)
   | (with_reducible exact ih2 _ _ _ _ _ _ _ _ _ _ _ _ _ _ _ _ _ _ _ _ _ _ _ _ _ _ _ _ _ _ _)
   | (with_reducible exact ih3 _ _ _ _ _ _ _ _ _ _ _ _ _ _ _ _ _ _ _ _ _ _ _ _ _ _ _ _ _ _ _)
   | (with_reducible exact ih4 _ _ _ _ _ _ _ _ _ _ _ _ _ _ _ _ _ _ _ _ _ _ _ _ _ _ _ _)
   | (with_reducible exact LeO.refl _)
   | (with_reducible exact LeO.none _)
   | (with_reducible refine LeO.ite ?_ ?_)
   | (with_reducible refine LeO.bind ?_ (fun _ => ?_))
   | exact ih0 _ _ _ _ _ _ _ _ _ _ _ _ _ _ _ _ _ _ _ _ _ _ _ _ _ _ _
   | exact ih1 _ _ _ _ _ _ _ _ _ _ _ _ _ _ _ _ _ _ _ _ _ _ _ _ _ _ _ _ _ _ _
   | exact ih2 _ _ _ _ _ _ _ _ _ _ _ _ _ _ _ _ _ _ _ _ _ _ _ _ _ _ _ _ _ _ _
   | exact ih3 _ _ _ _ _ _ _ _ _ _ _ _ _ _ _ _ _ _ _ _ _ _ _ _ _ _ _ _ _ _ _
   | exact ih4 _ _ _ _ _ _ _ _ _ _ _ _ _ _ _ _ _ _ _ _ _ _ _ _ _ _ _ _
   | exact LeO.none _
   | refine LeO.ite ?_ ?_
   | refine LeO.bind ?_ (fun _ => ?_)
  ·as_aux_lemma =>
   intro y0 y1 y2 y3 y4 y5 y6 y7 y8 y9 y10 y11 y12 y13 y14 y15 y16 y17 y18 y19 y20 y21 y22 y23 y24 y25 y26 y27 y28 y29 y30
   unfold config_rules.j3
   repeat' first
   | (with_reducible exact ih0 _ _ _ _ _ _ _ _ _ _ _ _ _ _ _ _ _ _ _ _ _ _ _ _ _ _ _)
   | (with_reducible exact ih1 _ _ _ _ _ _ _ _ _ _ _ _ _ _ _ _ _ _ _ _ _ _ _ _ _ _ _ _ _ _ _)
   | (with_reducible exact ih2 _ _ _ _ _ _ _ _ _ _ _ _ _ _ _ _ _ _ _ _ _ _ _ _ _ _ _ _ _ _ _)
   | (with_reducible exact ih3 _ _ _ _ _ _ _ _ _ _ _ _ _ _ _ _ _ _ _ _ _ _ _ _ _ _ _ _ _ _ _)
   | (with_reducible exact ih4 _ _ _ _ _ _ _ _ _ _ _ _ _ _ _ _ _ _ _ _ _ _ _ _ _ _ _ _)
   | (with_reducible exact LeO.refl _)
   | (with_reducible exact LeO.none _)
   | (with_reducible refine LeO.ite ?_ ?_)
   | (with_reducible refine LeO.bind ?_ (fun _ => ?_))
   | exact ih0 _ _ _ _ _ _ _ _ _ _ _ _ _ _ _ _ _ _ _ _ _ _ _ _ _ _ _
   | exact ih1 _ _ _ _ _ _ _ _ _ _ _ _ _ _ _ _ _ _ _ _ _ _ _ _ _ _ _ _ _ _ _
   | exact ih2 _ _ _ _ _ _ _ _ _ _ _ _ _ _ _ _ _ _ _ _ _ _ _ _ _ _ _ _ _ _ _
   | exact ih3 _ _ _ _ _ _ _ _ _ _ _ _ _ _ _ _ _ _ _ _ _ _ _ _ _ _ _ _ _ _ _
   | exact ih4 _ _ _ _ _ _ _ _ _ _ _ _ _ _ _ _ _ _ _ _ _ _ _ _ _ _ _ _
   | exact LeO.none _
   | refine LeO.ite ?_ ?_
   | refine LeO.bind ?_ (fun _ => ?_)
  ·as_aux_lemma =>
   intro y0 y1 y2 y3 y4 y5 y6 y7 y8 y9 y10 y11 y12 y13 y14 y15 y16 y17 y18 y19 y20 y21 y22 y23 y24 y25 y26 y27
   unfold config_rules.l1
   repeat' first
   | (with_reducible exact ih0 _ _ _ _ _ _ _ _ _ _ _ _ _ _ _ _ _ _ _ _ _ _ _ _ _ _ _)
   | (with_reducible exact ih1 _ _ _ _ _ _ _ _ _ _ _ _ _ _ _ _ _ _ _ _ _ _ _ _ _ _ _ _ _ _ _)
   | (with_reducible exact ih2 _ _ _ _ _ _ _ _ _ _ _ _ _ _ _ _ _ _ _ _ _ _ _ _ _ _ _ _ _ _ _)
   | (with_reducible exact ih3 _ _ _ _ _ _ _ _ _ _ _ _ _ _ _ _ _ _ _ _ _ _ _ _ _ _ _ _ _ _ _)
   | (with_reducible exact ih4 _ _ _ _ _ _ _ _ _ _ _ _ _ _ _ _ _ _ _ _ _ _ _ _ _ _ _ _)
   | (with_reducible exact LeO.refl _)
   | (with_reducible exact LeO.none _)
   | (with_reducible refine LeO.ite ?_ ?_)
   | (with_reducible refine LeO.bind ?_ (fun _ => ?_))
   | exact ih0 _ _ _ _ _ _ _ _ _ _ _ _ _ _ _ _ _ _ _ _ _ _ _ _ _ _ _
   | exact ih1 _ _ _ _ _ _ _ _ _ _ _ _ _ _ _ _ _ _ _ _ _ _ _ _ _ _ _ _ _ _ _
   | exact ih2 _ _ _ _ _ _ _ _ _ _ _ _ _ _ _ _ _ _ _ _ _ _ _ _ _ _ _ _ _ _ _
   | exact ih3 _ _ _ _ _ _ _ _ _ _ _ _ _ _ _ _ _ _ _ _ _ _ _ _ _ _ _ _ _ _ _
   | exact ih4 _ _ _ _ _ _ _ _ _ _ _ _ _ _ _ _ _ _ _ _ _ _ _ _ _ _ _ _
   | exact LeO.none _
   | refine LeO.ite ?_ ?_
   | refine LeO.bind ?_ (fun _ => ?_)
theorem config_rules.mono : ∀ a0 a1 a2 a3 a4 a5 a6 a7 a8 a9 a10 a11 a12 a13 a14 a15 a16 a17 a18 a19 a20 a21 a22 a23 a24 k, LeO (config_rules.f k a0 a1 a2 a3 a4 a5 a6 a7 a8 a9 a10 a11 a12 a13 a14 a15 a16 a17 a18 a19 a20 a21 a22 a23 a24) (config_rules.f (k + 1) a0 a1 a2 a3 a4 a5 a6 a7 a8 a9 a10 a11 a12 a13 a14 a15 a16 a17 a18 a19 a20 a21 a22 a23 a24) := by
 intro a0 a1 a2 a3 a4 a5 a6 a7 a8 a9 a10 a11 a12 a13 a14 a15 a16 a17 a18 a19 a20 a21 a22 a23 a24 k
 obtain ⟨ih0, ih1, ih2, ih3, ih4⟩ := config_rules.mono_l k
 unfold config_rules.f
 repeat' first
   | (with_reducible exact ih0 _ _ _ _ _ _ _ _ _ _ _ _ _ _ _ _ _ _ _ _ _ _ _ _ _ _ _)
   | (with_reducible exact ih1 _ _ _ _ _ _ _ _ _ _ _ _ _ _ _ _ _ _ _ _ _ _ _ _ _ _ _ _ _ _ _)
   | (with_reducible exact ih2 _ _ _ _ _ _ _ _ _ _ _ _ _ _ _ _ _ _ _ _ _ _ _ _ _ _ _ _ _ _ _)
   | (with_reducible exact ih3 _ _ _ _ _ _ _ _ _ _ _ _ _ _ _ _ _ _ _ _ _ _ _ _ _ _ _ _ _ _ _)
   | (with_reducible exact ih4 _ _ _ _ _ _ _ _ _ _ _ _ _ _ _ _ _ _ _ _ _ _ _ _ _ _ _ _)
   | (with_reducible exact LeO.refl _)
   | (with_reducible exact LeO.none _)
   | (with_reducible refine LeO.ite ?_ ?_)
   | (with_reducible refine LeO.bind ?_ (fun _ => ?_))
   | exact ih0 _ _ _ _ _ _ _ _ _ _ _ _ _ _ _ _ _ _ _ _ _ _ _ _ _ _ _
   | exact ih1 _ _ _ _ _ _ _ _ _ _ _ _ _ _ _ _ _ _ _ _ _ _ _ _ _ _ _ _ _ _ _
   | exact ih2 _ _ _ _ _ _ _ _ _ _ _ _ _ _ _ _ _ _ _ _ _ _ _ _ _ _ _ _ _ _ _
   | exact ih3 _ _ _ _ _ _ _ _ _ _ _ _ _ _ _ _ _ _ _ _ _ _ _ _ _ _ _ _ _ _ _
   | exact ih4 _ _ _ _ _ _ _ _ _ _ _ _ _ _ _ _ _ _ _ _ _ _ _ _ _ _ _ _
   | exact LeO.none _
   | refine LeO.ite ?_ ?_
   | refine LeO.bind ?_ (fun _ => ?_)
set_option maxHeartbeats 8000000 in
set_option maxRecDepth 100000 in
theorem config_rules.calls (k : Nat) (a0_0 : Int) (A0_1 : Option Addr) (c0_1 : Nat) (l0_1 : List Int) (a0_2 : Int) (a0_3 : Int) (a0_4 : Int) (a0_5 : Int) (a0_6 : Int) (a0_7 : Int) (a0_8 : Int) (a0_9 : Int) (a0_10 : Int) (a0_11 : Int) (a0_12 : Int) (A0_13 : Option Addr) (c0_13 : Nat) (l0_13 : List (List Int)) (a0_14 : Int) (a0_15 : Int) (a0_16 : Int) (a0_17 : Int) (a0_18 : Int) (a0_19 : Int) (a0_20 : Int) (a0_21 : Int) (a0_22 : Int) (A0_23 : Option Addr) (c0_23 : Nat) (l0_23 : List Int) (a0_24 : Int) (r : Int) (w : World) (hr0_1 : Kd.C (Kd.int .i64) w A0_1 l0_1.length l0_1) (hc0_1 : l0_1.length ≤ c0_1) (hr0_13 : Kd.C (Kd.slice 3 (Kd.int .i64)) w A0_13 l0_13.length l0_13) (hc0_13 : l0_13.length ≤ c0_13) (hr0_23 : Kd.C (Kd.int .i64) w A0_23 l0_23.length l0_23) (hc0_23 : l0_23.length ≤ c0_23) (h : config_rules.f k a0_0 l0_1 a0_2 a0_3 a0_4 a0_5 a0_6 a0_7 a0_8 a0_9 a0_10 a0_11 a0_12 l0_13 a0_14 a0_15 a0_16 a0_17 a0_18 a0_19 a0_20 a0_21 a0_22 l0_23 a0_24 = some r) :
  Calls Try.prog 45 #[.agg #[.int .i64 a0_0, .slice A0_1 l0_1.length c0_1, .int .i64 a0_2, .int .i64 a0_3, .int .i64 a0_4, .int .i64 a0_5, .int .i64 a0_6, .int .i64 a0_7, .int .i64 a0_8, .int .i64 a0_9, .int .i64 a0_10, .int .i64 a0_11, .int .i64 a0_12, .slice A0_13 l0_13.length c0_13, .int .u64 a0_14, .int .i64 a0_15, .int .i64 a0_16, .int .u64 a0_17, .int .i64 a0_18, .int .i64 a0_19, .int .u64 a0_20, .int .i64 a0_21, .int .i64 a0_22, .slice A0_23 l0_23.length c0_23, .int .i64 a0_24]] w fun e w' => e = .returned (.int .i64 r) ∧ Below w.heap.size w w' := by
 have hu29 := Try.underlying29
 have hu27 := Try.underlying27
 have hu26 := Try.underlying26
 have HR0_1 := Aside0.mk hr0_1
 have HC0_1 := Aside0.mk hc0_1
 clear hr0_1 hc0_1
 have HR0_13 := Aside0.mk hr0_13
 have HC0_13 := Aside0.mk hc0_13
 clear hr0_13 hc0_13
 have HR0_23 := Aside0.mk hr0_23
 have HC0_23 := Aside0.mk hc0_23
 clear hr0_23 hc0_23
 have HB := Aside0.mk (Below.refl w.heap.size w)
 have H : ((mask_All.f a0_0).bind fun bt106 => (config_rules.l0 k bt106.1 0 a0_0 l0_1 a0_2 a0_3 a0_4 a0_5 a0_6 a0_7 a0_8 a0_9 a0_10 a0_11 a0_12 l0_13 a0_14 a0_15 a0_16 a0_17 a0_18 a0_19 a0_20 a0_21 a0_22 l0_23 a0_24)) = some r := h
 clear h
 replace H := Option.bind_eq_some_iff.mp H
 obtain ⟨⟨t106, t107⟩, A20, H⟩ := H
 replace H : (config_rules.l0 k t106 0 a0_0 l0_1 a0_2 a0_3 a0_4 a0_5 a0_6 a0_7 a0_8 a0_9 a0_10 a0_11 a0_12 l0_13 a0_14 a0_15 a0_16 a0_17 a0_18 a0_19 a0_20 a0_21 a0_22 l0_23 a0_24) = some r := H
 have A2 := Aside0.mk A20
 clear A20
 have H' := Aside0.mk H
 clear H
 go_enter Try.func45, Try.ntmps45
 go_wp2_with (first | ((with_reducible refine gate_dst (N := 1) rfl ?_); refine bxe (cs := #[.int .i64 a0_0, .slice A0_1 l0_1.length c0_1, .int .i64 a0_2, .int .i64 a0_3, .int .i64 a0_4, .int .i64 a0_5, .int .i64 a0_6, .int .i64 a0_7, .int .i64 a0_8, .int .i64 a0_9, .int .i64 a0_10, .int .i64 a0_11, .int .i64 a0_12, .slice A0_13 l0_13.length c0_13, .int .u64 a0_14, .int .i64 a0_15, .int .i64 a0_16, .int .u64 a0_17, .int .i64 a0_18, .int .i64 a0_19, .int .u64 a0_20, .int .i64 a0_21, .int .i64 a0_22, .slice A0_23 l0_23.length c0_23, .int .i64 a0_24]) (t := 29) ?_; intro gb105 hg w3 hbox hb; have BK105 := Aside0.mk (hbox); have GW105 := Aside0.mk (bge hg HB.out); have GE105 := Aside0.mk (bge hg HB.out); replace HB := Aside0.mk (bst HB.out hb); clear hb hbox hg; have hcz4_0 := cz25 BK105.out; have hfz4_0 := blk_frozen BK105.out) | ((with_reducible refine gate_callee (f := 55) rfl ?_); refine gsl (some 12) Try.func55 #[.int .i64 a0_0] ?_; (with_reducible refine (mask_All.calls a0_0 t106 t107 _ A2.out).mono ?_); rintro e w' ⟨rfl, ⟨nd, rfl⟩⟩; refine ⟨_, rfl, ?_⟩))
 go_loopg [17] k (fun kq v17 w' => ∃ (x17_1 : Int), v17 = .int .i64 x17_1 ∧ Aside0 (config_rules.l0 kq t106 x17_1 a0_0 l0_1 a0_2 a0_3 a0_4 a0_5 a0_6 a0_7 a0_8 a0_9 a0_10 a0_11 a0_12 l0_13 a0_14 a0_15 a0_16 a0_17 a0_18 a0_19 a0_20 a0_21 a0_22 l0_23 a0_24 = some r) ∧ Aside0 (kq ≤ k) ∧ Aside0 (w'.heap[gb105]? = some (.cells #[.int .i64 a0_0, (.slice A0_1 l0_1.length c0_1), .int .i64 a0_2, .int .i64 a0_3, .int .i64 a0_4, .int .i64 a0_5, .int .i64 a0_6, .int .i64 a0_7, .int .i64 a0_8, .int .i64 a0_9, .int .i64 a0_10, .int .i64 a0_11, .int .i64 a0_12, (.slice A0_13 l0_13.length c0_13), .int .u64 a0_14, .int .i64 a0_15, .int .i64 a0_16, .int .u64 a0_17, .int .i64 a0_18, .int .i64 a0_19, .int .u64 a0_20, .int .i64 a0_21, .int .i64 a0_22, (.slice A0_23 l0_23.length c0_23), .int .i64 a0_24] 29 (0, 0))) ∧ Aside0 (Below w.heap.size w w'))
 case atStart => exact ⟨(0), (by first | rfl | (simp; done) | (simp [*]; done)), H', ⟨Nat.le_refl _⟩, ⟨bkt BK105.out⟩, ⟨bel HB.out⟩⟩
 case round =>
  clear H'
  try clear p2
  try clear c4
  try clear hcz4_0
  try clear hfz4_0
  obtain ⟨x17_1, rfl, HA, HK1, BK105, HB⟩ := hrel
  cases gk with
  | zero => exact absurd HA.out (by simp [config_rules.l0])
  | succ k1 =>
   have H := HA.out
   clear HA
   simp only [config_rules.l0] at H
   by_cases c5 : x17_1 < 3
   ·as_aux_lemma =>
    rw [if_pos c5] at H
    have c5b0 : decide (x17_1 < 3) = true := decide_eq_true c5
    clear c5
    by_cases c6 : x17_1 = 0
    ·as_aux_lemma =>
     subst c6
     have H1 : (if a0_14 = 0 then (config_rules.j1 k1 t106 0 true a0_0 l0_1 a0_2 a0_3 a0_4 a0_5 a0_6 a0_7 a0_8 a0_9 a0_10 a0_11 a0_12 l0_13 a0_14 a0_15 a0_16 a0_17 a0_18 a0_19 a0_20 a0_21 a0_22 l0_23 a0_24 a0_14 a0_15 a0_16) else (config_rules.j1 k1 t106 0 ((Go.bits .andNot .u64 a0_14 t106) != 0) a0_0 l0_1 a0_2 a0_3 a0_4 a0_5 a0_6 a0_7 a0_8 a0_9 a0_10 a0_11 a0_12 l0_13 a0_14 a0_15 a0_16 a0_17 a0_18 a0_19 a0_20 a0_21 a0_22 l0_23 a0_24 a0_14 a0_15 a0_16)) = some r := by rw [if_pos rfl] at H; exact H
     clear H
     have H := H1
     clear H1
     have HC7 := Aside0.mk H
     clear H
     go_upto_region 5 with (first | ((with_reducible refine gate_dst (N := 6) rfl ?_); refine bxe (cs := #[.int .u64 0, .int .i64 0, .int .i64 0]) (t := 26) ?_; intro gb108 hg w8 hbox hb; have BK108 := Aside0.mk (hbox); have GW108 := Aside0.mk (bge hg HB.out); have GE108 := Aside0.mk (bge hg HB.out); have NB105_108 := Aside0.mk ((bkl hg BK105.out)); have NB108_105 := Aside0.mk ((bkg hg BK105.out)); replace BK105 := Aside0.mk (bkb BK105.out hb); replace HB := Aside0.mk (bst HB.out hb); clear hb hbox hg; have hnb9 := NB108_105.out; have hnc9 := NB105_108.out; have hcz10_0 := cz3 BK108.out; have hfz10_0 := blk_frozen BK108.out))
     (try simp only [Act.put, List.setIfInBounds_toArray, List.set_cons_zero, List.set_cons_succ])
     go_cut [20] (fun v20 wc => ∃ (kq : Nat) (x20_6 : Bool), v20 = .bool x20_6 ∧ Aside0 (config_rules.j1 kq t106 0 x20_6 a0_0 l0_1 a0_2 a0_3 a0_4 a0_5 a0_6 a0_7 a0_8 a0_9 a0_10 a0_11 a0_12 l0_13 a0_14 a0_15 a0_16 a0_17 a0_18 a0_19 a0_20 a0_21 a0_22 l0_23 a0_24 a0_14 a0_15 a0_16 = some r) ∧ Aside0 (kq ≤ k1) ∧ Aside0 (wc.heap[gb105]? = some (.cells #[.int .i64 a0_0, (.slice A0_1 l0_1.length c0_1), .int .i64 a0_2, .int .i64 a0_3, .int .i64 a0_4, .int .i64 a0_5, .int .i64 a0_6, .int .i64 a0_7, .int .i64 a0_8, .int .i64 a0_9, .int .i64 a0_10, .int .i64 a0_11, .int .i64 a0_12, (.slice A0_13 l0_13.length c0_13), .int .u64 a0_14, .int .i64 a0_15, .int .i64 a0_16, .int .u64 a0_17, .int .i64 a0_18, .int .i64 a0_19, .int .u64 a0_20, .int .i64 a0_21, .int .i64 a0_22, (.slice A0_23 l0_23.length c0_23), .int .i64 a0_24] 29 (0, 0))) ∧ Aside0 (wc.heap[gb108]? = some (.cells #[.int .u64 a0_14, .int .i64 a0_15, .int .i64 a0_16] 26 (0, 0))) ∧ Aside0 (Below w.heap.size w wc))
     case first =>
      have H := HC7.out
      clear HC7
      by_cases c11 : a0_14 = 0
      ·as_aux_lemma =>
       rw [if_pos c11] at H
       have c11b0 : (a0_14 == 0) = true := beq_iff_eq.mpr c11
       have c11b1 : (a0_14 != 0) = false := bne_eq_false_iff_eq.mpr c11
       clear c11
       (first | rw [c11b0] | (simp only [i64_w, i32_w]; rw [c11b0]) | skip)
       have H' := Aside0.mk H
       clear H
       have hnb12 := NB108_105.out
       have hnc12 := NB105_108.out
       have hcz13_0 := cz3 BK108.out
       have hfz13_0 := blk_frozen BK108.out
       go_wp2
       go_meet
       case rel => exact ⟨_, (true), (by first | rfl | (simp; done) | (simp [*]; done)), H', ⟨by have := HK1.out; first | omega | exact Nat.le_refl _⟩, ⟨bkt BK105.out⟩, ⟨bkt BK108.out⟩, ⟨bel HB.out⟩⟩
      ·as_aux_lemma =>
       rw [if_neg c11] at H
       have c11b0 : (a0_14 == 0) = false := beq_eq_false_iff_ne.mpr c11
       have c11b1 : (a0_14 != 0) = true := bne_iff_ne.mpr c11
       (first | rw [c11b0] | (simp only [i64_w, i32_w]; rw [c11b0]) | skip)
       have H' := Aside0.mk H
       clear H
       have hnb14 := NB108_105.out
       have hnc14 := NB105_108.out
       have hcz15_0 := cz3 BK108.out
       have hfz15_0 := blk_frozen BK108.out
       go_wp2
       go_meet
       case rel => exact ⟨_, (((Go.bits .andNot .u64 a0_14 t106) != 0)), (by first | rfl | (simp; done) | (simp [*]; done)), H', ⟨by have := HK1.out; first | omega | exact Nat.le_refl _⟩, ⟨bkt BK105.out⟩, ⟨bkt BK108.out⟩, ⟨bel HB.out⟩⟩
     case rest =>
      clear HC7
      try clear c1
      try clear p2
      try clear c4
      try clear c5
      try clear c5b0
      try clear c6
      try clear c9
      try clear c11
      try clear c11b0
      try clear c11b1
      try clear c12
      try clear c14
      try clear hcz10_0
      try clear hcz13_0
      try clear hcz15_0
      try clear hcz4_0
      try clear hfz10_0
      try clear hfz13_0
      try clear hfz15_0
      try clear hfz4_0
      try clear p2
      obtain ⟨kq, x20_6, rfl, HA, HJ6, BK105, BK108, HB⟩ := hcut
      cases kq with
      | zero => exact absurd HA.out (by simp [config_rules.j1])
      | succ kj6 =>
       have H := HA.out
       clear HA
       simp only [config_rules.j1] at H
       by_cases c16 : x20_6 = true
       ·as_aux_lemma =>
        subst c16
        have H1 : (some 3) = some r := by rw [if_pos rfl] at H; exact H
        clear H
        have H := H1
        clear H1
        obtain rfl := Option.some.inj H
        go_wp2
        go_ret
        exact bfin (bel HB.out)
       ·as_aux_lemma =>
        replace c16 := Bool.eq_false_iff.mpr c16
        subst c16
        have H1 : ((mask_Has.f a0_14 a0_15).bind fun t109 => (if t109 = true then ((config_in.f a0_16 1 32).bind fun t110 => (if t110 = true then (config_rules.l0 kj6 t106 (wrap64 (0 + 1)) a0_0 l0_1 a0_2 a0_3 a0_4 a0_5 a0_6 a0_7 a0_8 a0_9 a0_10 a0_11 a0_12 l0_13 a0_14 a0_15 a0_16 a0_17 a0_18 a0_19 a0_20 a0_21 a0_22 l0_23 a0_24) else (some 2))) else (some 2))) = some r := by rw [if_neg (show ¬ (false = true) by decide)] at H; exact H
        clear H
        have H := H1
        clear H1
        replace H := Option.bind_eq_some_iff.mp H
        obtain ⟨t109, A170, H⟩ := H
        replace H : (if t109 = true then ((config_in.f a0_16 1 32).bind fun t110 => (if t110 = true then (config_rules.l0 kj6 t106 (wrap64 (0 + 1)) a0_0 l0_1 a0_2 a0_3 a0_4 a0_5 a0_6 a0_7 a0_8 a0_9 a0_10 a0_11 a0_12 l0_13 a0_14 a0_15 a0_16 a0_17 a0_18 a0_19 a0_20 a0_21 a0_22 l0_23 a0_24) else (some 2))) else (some 2)) = some r := H
        have A17 := Aside0.mk A170
        clear A170
        by_cases c18 : t109 = true
        ·as_aux_lemma =>
         subst c18
         have H1 : ((config_in.f a0_16 1 32).bind fun t110 => (if t110 = true then (config_rules.l0 kj6 t106 (wrap64 (0 + 1)) a0_0 l0_1 a0_2 a0_3 a0_4 a0_5 a0_6 a0_7 a0_8 a0_9 a0_10 a0_11 a0_12 l0_13 a0_14 a0_15 a0_16 a0_17 a0_18 a0_19 a0_20 a0_21 a0_22 l0_23 a0_24) else (some 2))) = some r := by rw [if_pos rfl] at H; exact H
         clear H
         have H := H1
         clear H1
         replace H := Option.bind_eq_some_iff.mp H
         obtain ⟨t110, A190, H⟩ := H
         replace H : (if t110 = true then (config_rules.l0 kj6 t106 (wrap64 (0 + 1)) a0_0 l0_1 a0_2 a0_3 a0_4 a0_5 a0_6 a0_7 a0_8 a0_9 a0_10 a0_11 a0_12 l0_13 a0_14 a0_15 a0_16 a0_17 a0_18 a0_19 a0_20 a0_21 a0_22 l0_23 a0_24) else (some 2)) = some r := H
         have A19 := Aside0.mk A190
         clear A190
         by_cases c20 : t110 = true
         ·as_aux_lemma =>
          subst c20
          have H1 : (config_rules.l0 kj6 t106 (wrap64 (0 + 1)) a0_0 l0_1 a0_2 a0_3 a0_4 a0_5 a0_6 a0_7 a0_8 a0_9 a0_10 a0_11 a0_12 l0_13 a0_14 a0_15 a0_16 a0_17 a0_18 a0_19 a0_20 a0_21 a0_22 l0_23 a0_24) = some r := by rw [if_pos rfl] at H; exact H
          clear H
          have H := H1
          clear H1
          have H' := Aside0.mk H
          clear H
          have hnb21 := NB108_105.out
          have hnc21 := NB105_108.out
          have hcz22_0 := cz3 BK108.out
          have hfz22_0 := blk_frozen BK108.out
          go_wp2_with (first | ((with_reducible refine gate_callee (f := 56) rfl ?_); refine gsl (some 36) Try.func56 #[.int .u64 a0_14, .int .i64 a0_15] ?_; (with_reducible refine (mask_Has.calls a0_14 a0_15 true _ A17.out).mono ?_); rintro e w' ⟨rfl, ⟨nd, rfl⟩⟩; refine ⟨_, rfl, ?_⟩) | (go_at_call 31; (with_reducible refine (config_in.calls a0_16 1 32 true _ A19.out).mono ?_); rintro e w' ⟨rfl, ⟨nd, rfl⟩⟩; (try clear A19)))
          go_roundg kj6
          case measure => have := HK1.out; have := HJ6.out; omega
          case rel => exact ⟨(wrap64 (0 + 1)), (by first | rfl | (simp; done) | (simp [wrap64]; done)), H', ⟨by have := HK1.out; have := HJ6.out; omega⟩, ⟨bkt BK105.out⟩, ⟨bel HB.out⟩⟩
         ·as_aux_lemma =>
          replace c20 := Bool.eq_false_iff.mpr c20
          subst c20
          have H1 : (some 2) = some r := by rw [if_neg (show ¬ (false = true) by decide)] at H; exact H
          clear H
          have H := H1
          clear H1
          obtain rfl := Option.some.inj H
          have hnb23 := NB108_105.out
          have hnc23 := NB105_108.out
          have hcz24_0 := cz3 BK108.out
          have hfz24_0 := blk_frozen BK108.out
          go_wp2_with (first | ((with_reducible refine gate_callee (f := 56) rfl ?_); refine gsl (some 36) Try.func56 #[.int .u64 a0_14, .int .i64 a0_15] ?_; (with_reducible refine (mask_Has.calls a0_14 a0_15 true _ A17.out).mono ?_); rintro e w' ⟨rfl, ⟨nd, rfl⟩⟩; refine ⟨_, rfl, ?_⟩) | (go_at_call 31; (with_reducible refine (config_in.calls a0_16 1 32 false _ A19.out).mono ?_); rintro e w' ⟨rfl, ⟨nd, rfl⟩⟩; (try clear A19)))
          go_ret
          exact bfin (bel HB.out)
        ·as_aux_lemma =>
         replace c18 := Bool.eq_false_iff.mpr c18
         subst c18
         have H1 : (some 2) = some r := by rw [if_neg (show ¬ (false = true) by decide)] at H; exact H
         clear H
         have H := H1
         clear H1
         obtain rfl := Option.some.inj H
         have hnb25 := NB108_105.out
         have hnc25 := NB105_108.out
         have hcz26_0 := cz3 BK108.out
         have hfz26_0 := blk_frozen BK108.out
         go_wp2_with (first | ((with_reducible refine gate_callee (f := 56) rfl ?_); refine gsl (some 36) Try.func56 #[.int .u64 a0_14, .int .i64 a0_15] ?_; (with_reducible refine (mask_Has.calls a0_14 a0_15 false _ A17.out).mono ?_); rintro e w' ⟨rfl, ⟨nd, rfl⟩⟩; refine ⟨_, rfl, ?_⟩))
         go_ret
         exact bfin (bel HB.out)
    ·as_aux_lemma =>
     have H1 : (if x17_1 = 1 then (if a0_17 = 0 then (config_rules.j2 k1 t106 x17_1 true a0_0 l0_1 a0_2 a0_3 a0_4 a0_5 a0_6 a0_7 a0_8 a0_9 a0_10 a0_11 a0_12 l0_13 a0_14 a0_15 a0_16 a0_17 a0_18 a0_19 a0_20 a0_21 a0_22 l0_23 a0_24 a0_17 a0_18 a0_19) else (config_rules.j2 k1 t106 x17_1 ((Go.bits .andNot .u64 a0_17 t106) != 0) a0_0 l0_1 a0_2 a0_3 a0_4 a0_5 a0_6 a0_7 a0_8 a0_9 a0_10 a0_11 a0_12 l0_13 a0_14 a0_15 a0_16 a0_17 a0_18 a0_19 a0_20 a0_21 a0_22 l0_23 a0_24 a0_17 a0_18 a0_19)) else (if x17_1 = 2 then (if a0_20 = 0 then (config_rules.j3 k1 t106 x17_1 true a0_0 l0_1 a0_2 a0_3 a0_4 a0_5 a0_6 a0_7 a0_8 a0_9 a0_10 a0_11 a0_12 l0_13 a0_14 a0_15 a0_16 a0_17 a0_18 a0_19 a0_20 a0_21 a0_22 l0_23 a0_24 a0_20 a0_21 a0_22) else (config_rules.j3 k1 t106 x17_1 ((Go.bits .andNot .u64 a0_20 t106) != 0) a0_0 l0_1 a0_2 a0_3 a0_4 a0_5 a0_6 a0_7 a0_8 a0_9 a0_10 a0_11 a0_12 l0_13 a0_14 a0_15 a0_16 a0_17 a0_18 a0_19 a0_20 a0_21 a0_22 l0_23 a0_24 a0_20 a0_21 a0_22)) else (none))) = some r := by rw [if_neg c6] at H; exact H
     clear H
     have H := H1
     clear H1
     by_cases c27 : x17_1 = 1
     ·as_aux_lemma =>
      subst c27
      have H1 : (if a0_17 = 0 then (config_rules.j2 k1 t106 1 true a0_0 l0_1 a0_2 a0_3 a0_4 a0_5 a0_6 a0_7 a0_8 a0_9 a0_10 a0_11 a0_12 l0_13 a0_14 a0_15 a0_16 a0_17 a0_18 a0_19 a0_20 a0_21 a0_22 l0_23 a0_24 a0_17 a0_18 a0_19) else (config_rules.j2 k1 t106 1 ((Go.bits .andNot .u64 a0_17 t106) != 0) a0_0 l0_1 a0_2 a0_3 a0_4 a0_5 a0_6 a0_7 a0_8 a0_9 a0_10 a0_11 a0_12 l0_13 a0_14 a0_15 a0_16 a0_17 a0_18 a0_19 a0_20 a0_21 a0_22 l0_23 a0_24 a0_17 a0_18 a0_19)) = some r := by rw [if_pos rfl] at H; exact H
      clear H
      have H := H1
      clear H1
      have HC28 := Aside0.mk H
      clear H
      go_upto_region 5 with (first | ((with_reducible refine gate_dst (N := 6) rfl ?_); refine bxe (cs := #[.int .u64 0, .int .i64 0, .int .i64 0]) (t := 26) ?_; intro gb111 hg w29 hbox hb; have BK111 := Aside0.mk (hbox); have GW111 := Aside0.mk (bge hg HB.out); have GE111 := Aside0.mk (bge hg HB.out); have NB105_111 := Aside0.mk ((bkl hg BK105.out)); have NB111_105 := Aside0.mk ((bkg hg BK105.out)); replace BK105 := Aside0.mk (bkb BK105.out hb); replace HB := Aside0.mk (bst HB.out hb); clear hb hbox hg; have hnb30 := NB111_105.out; have hnc30 := NB105_111.out; have hcz31_0 := cz3 BK111.out; have hfz31_0 := blk_frozen BK111.out))
      (try simp only [Act.put, List.setIfInBounds_toArray, List.set_cons_zero, List.set_cons_succ])
      go_cut [20] (fun v20 wc => ∃ (kq : Nat) (x20_27 : Bool), v20 = .bool x20_27 ∧ Aside0 (config_rules.j2 kq t106 1 x20_27 a0_0 l0_1 a0_2 a0_3 a0_4 a0_5 a0_6 a0_7 a0_8 a0_9 a0_10 a0_11 a0_12 l0_13 a0_14 a0_15 a0_16 a0_17 a0_18 a0_19 a0_20 a0_21 a0_22 l0_23 a0_24 a0_17 a0_18 a0_19 = some r) ∧ Aside0 (kq ≤ k1) ∧ Aside0 (wc.heap[gb105]? = some (.cells #[.int .i64 a0_0, (.slice A0_1 l0_1.length c0_1), .int .i64 a0_2, .int .i64 a0_3, .int .i64 a0_4, .int .i64 a0_5, .int .i64 a0_6, .int .i64 a0_7, .int .i64 a0_8, .int .i64 a0_9, .int .i64 a0_10, .int .i64 a0_11, .int .i64 a0_12, (.slice A0_13 l0_13.length c0_13), .int .u64 a0_14, .int .i64 a0_15, .int .i64 a0_16, .int .u64 a0_17, .int .i64 a0_18, .int .i64 a0_19, .int .u64 a0_20, .int .i64 a0_21, .int .i64 a0_22, (.slice A0_23 l0_23.length c0_23), .int .i64 a0_24] 29 (0, 0))) ∧ Aside0 (wc.heap[gb111]? = some (.cells #[.int .u64 a0_17, .int .i64 a0_18, .int .i64 a0_19] 26 (0, 0))) ∧ Aside0 (Below w.heap.size w wc))
      case first =>
       have H := HC28.out
       clear HC28
       by_cases c32 : a0_17 = 0
       ·as_aux_lemma =>
        rw [if_pos c32] at H
        have c32b0 : (a0_17 == 0) = true := beq_iff_eq.mpr c32
        have c32b1 : (a0_17 != 0) = false := bne_eq_false_iff_eq.mpr c32
        clear c32
        (first | rw [c32b0] | (simp only [i64_w, i32_w]; rw [c32b0]) | skip)
        have H' := Aside0.mk H
        clear H
        have hnb33 := NB111_105.out
        have hnc33 := NB105_111.out
        have hcz34_0 := cz3 BK111.out
        have hfz34_0 := blk_frozen BK111.out
        go_wp2
        go_meet
        case rel => exact ⟨_, (true), (by first | rfl | (simp; done) | (simp [*]; done)), H', ⟨by have := HK1.out; first | omega | exact Nat.le_refl _⟩, ⟨bkt BK105.out⟩, ⟨bkt BK111.out⟩, ⟨bel HB.out⟩⟩
       ·as_aux_lemma =>
        rw [if_neg c32] at H
        have c32b0 : (a0_17 == 0) = false := beq_eq_false_iff_ne.mpr c32
        have c32b1 : (a0_17 != 0) = true := bne_iff_ne.mpr c32
        (first | rw [c32b0] | (simp only [i64_w, i32_w]; rw [c32b0]) | skip)
        have H' := Aside0.mk H
        clear H
        have hnb35 := NB111_105.out
        have hnc35 := NB105_111.out
        have hcz36_0 := cz3 BK111.out
        have hfz36_0 := blk_frozen BK111.out
        go_wp2
        go_meet
        case rel => exact ⟨_, (((Go.bits .andNot .u64 a0_17 t106) != 0)), (by first | rfl | (simp; done) | (simp [*]; done)), H', ⟨by have := HK1.out; first | omega | exact Nat.le_refl _⟩, ⟨bkt BK105.out⟩, ⟨bkt BK111.out⟩, ⟨bel HB.out⟩⟩
      case rest =>
       clear HC28
       try clear c1
       try clear c2
       try clear p2
       try clear c3
       try clear c4
       try clear c5
       try clear c5b0
       try clear c6
       try clear p6
       try clear c9
       try clear c11
       try clear c11b0
       try clear c11b1
       try clear c12
       try clear c14
       try clear c16
       try clear c18
       try clear c20
       try clear c21
       try clear c23
       try clear c25
       try clear c27
       try clear c30
       try clear c32
       try clear c32b0
       try clear c32b1
       try clear c33
       try clear c35
       try clear hcz10_0
       try clear hcz13_0
       try clear hcz15_0
       try clear hcz22_0
       try clear hcz24_0
       try clear hcz26_0
       try clear hcz31_0
       try clear hcz34_0
       try clear hcz36_0
       try clear hcz4_0
       try clear hfz10_0
       try clear hfz13_0
       try clear hfz15_0
       try clear hfz22_0
       try clear hfz24_0
       try clear hfz26_0
       try clear hfz31_0
       try clear hfz34_0
       try clear hfz36_0
       try clear hfz4_0
       try clear p2
       obtain ⟨kq, x20_27, rfl, HA, HJ27, BK105, BK111, HB⟩ := hcut
       cases kq with
       | zero => exact absurd HA.out (by simp [config_rules.j2])
       | succ kj27 =>
        have H := HA.out
        clear HA
        simp only [config_rules.j2] at H
        by_cases c37 : x20_27 = true
        ·as_aux_lemma =>
         subst c37
         have H1 : (some 3) = some r := by rw [if_pos rfl] at H; exact H
         clear H
         have H := H1
         clear H1
         obtain rfl := Option.some.inj H
         go_wp2
         go_ret
         exact bfin (bel HB.out)
        ·as_aux_lemma =>
         replace c37 := Bool.eq_false_iff.mpr c37
         subst c37
         have H1 : ((mask_Has.f a0_17 a0_18).bind fun t112 => (if t112 = true then ((config_in.f a0_19 1 32).bind fun t113 => (if t113 = true then (config_rules.l0 kj27 t106 (wrap64 (1 + 1)) a0_0 l0_1 a0_2 a0_3 a0_4 a0_5 a0_6 a0_7 a0_8 a0_9 a0_10 a0_11 a0_12 l0_13 a0_14 a0_15 a0_16 a0_17 a0_18 a0_19 a0_20 a0_21 a0_22 l0_23 a0_24) else (some 2))) else (some 2))) = some r := by rw [if_neg (show ¬ (false = true) by decide)] at H; exact H
         clear H
         have H := H1
         clear H1
         replace H := Option.bind_eq_some_iff.mp H
         obtain ⟨t112, A380, H⟩ := H
         replace H : (if t112 = true then ((config_in.f a0_19 1 32).bind fun t113 => (if t113 = true then (config_rules.l0 kj27 t106 (wrap64 (1 + 1)) a0_0 l0_1 a0_2 a0_3 a0_4 a0_5 a0_6 a0_7 a0_8 a0_9 a0_10 a0_11 a0_12 l0_13 a0_14 a0_15 a0_16 a0_17 a0_18 a0_19 a0_20 a0_21 a0_22 l0_23 a0_24) else (some 2))) else (some 2)) = some r := H
         have A38 := Aside0.mk A380
         clear A380
         by_cases c39 : t112 = true
         ·as_aux_lemma =>
          subst c39
          have H1 : ((config_in.f a0_19 1 32).bind fun t113 => (if t113 = true then (config_rules.l0 kj27 t106 (wrap64 (1 + 1)) a0_0 l0_1 a0_2 a0_3 a0_4 a0_5 a0_6 a0_7 a0_8 a0_9 a0_10 a0_11 a0_12 l0_13 a0_14 a0_15 a0_16 a0_17 a0_18 a0_19 a0_20 a0_21 a0_22 l0_23 a0_24) else (some 2))) = some r := by rw [if_pos rfl] at H; exact H
          clear H
          have H := H1
          clear H1
          replace H := Option.bind_eq_some_iff.mp H
          obtain ⟨t113, A400, H⟩ := H
          replace H : (if t113 = true then (config_rules.l0 kj27 t106 (wrap64 (1 + 1)) a0_0 l0_1 a0_2 a0_3 a0_4 a0_5 a0_6 a0_7 a0_8 a0_9 a0_10 a0_11 a0_12 l0_13 a0_14 a0_15 a0_16 a0_17 a0_18 a0_19 a0_20 a0_21 a0_22 l0_23 a0_24) else (some 2)) = some r := H
          have A40 := Aside0.mk A400
          clear A400
          by_cases c41 : t113 = true
          ·as_aux_lemma =>
           subst c41
           have H1 : (config_rules.l0 kj27 t106 (wrap64 (1 + 1)) a0_0 l0_1 a0_2 a0_3 a0_4 a0_5 a0_6 a0_7 a0_8 a0_9 a0_10 a0_11 a0_12 l0_13 a0_14 a0_15 a0_16 a0_17 a0_18 a0_19 a0_20 a0_21 a0_22 l0_23 a0_24) = some r := by rw [if_pos rfl] at H; exact H
           clear H
           have H := H1
           clear H1
           have H' := Aside0.mk H
           clear H
           have hnb42 := NB111_105.out
           have hnc42 := NB105_111.out
           have hcz43_0 := cz3 BK111.out
           have hfz43_0 := blk_frozen BK111.out
           go_wp2_with (first | ((with_reducible refine gate_callee (f := 56) rfl ?_); refine gsl (some 36) Try.func56 #[.int .u64 a0_17, .int .i64 a0_18] ?_; (with_reducible refine (mask_Has.calls a0_17 a0_18 true _ A38.out).mono ?_); rintro e w' ⟨rfl, ⟨nd, rfl⟩⟩; refine ⟨_, rfl, ?_⟩) | (go_at_call 31; (with_reducible refine (config_in.calls a0_19 1 32 true _ A40.out).mono ?_); rintro e w' ⟨rfl, ⟨nd, rfl⟩⟩; (try clear A40)))
           go_roundg kj27
           case measure => have := HK1.out; have := HJ27.out; omega
           case rel => exact ⟨(wrap64 (1 + 1)), (by first | rfl | (simp; done) | (simp [wrap64]; done)), H', ⟨by have := HK1.out; have := HJ27.out; omega⟩, ⟨bkt BK105.out⟩, ⟨bel HB.out⟩⟩
          ·as_aux_lemma =>
           replace c41 := Bool.eq_false_iff.mpr c41
           subst c41
           have H1 : (some 2) = some r := by rw [if_neg (show ¬ (false = true) by decide)] at H; exact H
           clear H
           have H := H1
           clear H1
           obtain rfl := Option.some.inj H
           have hnb44 := NB111_105.out
           have hnc44 := NB105_111.out
           have hcz45_0 := cz3 BK111.out
           have hfz45_0 := blk_frozen BK111.out
           go_wp2_with (first | ((with_reducible refine gate_callee (f := 56) rfl ?_); refine gsl (some 36) Try.func56 #[.int .u64 a0_17, .int .i64 a0_18] ?_; (with_reducible refine (mask_Has.calls a0_17 a0_18 true _ A38.out).mono ?_); rintro e w' ⟨rfl, ⟨nd, rfl⟩⟩; refine ⟨_, rfl, ?_⟩) | (go_at_call 31; (with_reducible refine (config_in.calls a0_19 1 32 false _ A40.out).mono ?_); rintro e w' ⟨rfl, ⟨nd, rfl⟩⟩; (try clear A40)))
           go_ret
           exact bfin (bel HB.out)
         ·as_aux_lemma =>
          replace c39 := Bool.eq_false_iff.mpr c39
          subst c39
          have H1 : (some 2) = some r := by rw [if_neg (show ¬ (false = true) by decide)] at H; exact H
          clear H
          have H := H1
          clear H1
          obtain rfl := Option.some.inj H
          have hnb46 := NB111_105.out
          have hnc46 := NB105_111.out
          have hcz47_0 := cz3 BK111.out
          have hfz47_0 := blk_frozen BK111.out
          go_wp2_with (first | ((with_reducible refine gate_callee (f := 56) rfl ?_); refine gsl (some 36) Try.func56 #[.int .u64 a0_17, .int .i64 a0_18] ?_; (with_reducible refine (mask_Has.calls a0_17 a0_18 false _ A38.out).mono ?_); rintro e w' ⟨rfl, ⟨nd, rfl⟩⟩; refine ⟨_, rfl, ?_⟩))
          go_ret
          exact bfin (bel HB.out)
     ·as_aux_lemma =>
      have H1 : (if x17_1 = 2 then (if a0_20 = 0 then (config_rules.j3 k1 t106 x17_1 true a0_0 l0_1 a0_2 a0_3 a0_4 a0_5 a0_6 a0_7 a0_8 a0_9 a0_10 a0_11 a0_12 l0_13 a0_14 a0_15 a0_16 a0_17 a0_18 a0_19 a0_20 a0_21 a0_22 l0_23 a0_24 a0_20 a0_21 a0_22) else (config_rules.j3 k1 t106 x17_1 ((Go.bits .andNot .u64 a0_20 t106) != 0) a0_0 l0_1 a0_2 a0_3 a0_4 a0_5 a0_6 a0_7 a0_8 a0_9 a0_10 a0_11 a0_12 l0_13 a0_14 a0_15 a0_16 a0_17 a0_18 a0_19 a0_20 a0_21 a0_22 l0_23 a0_24 a0_20 a0_21 a0_22)) else (none)) = some r := by rw [if_neg c27] at H; exact H
      clear H
      have H := H1
      clear H1
      by_cases c48 : x17_1 = 2
      ·as_aux_lemma =>
       subst c48
       have H1 : (if a0_20 = 0 then (config_rules.j3 k1 t106 2 true a0_0 l0_1 a0_2 a0_3 a0_4 a0_5 a0_6 a0_7 a0_8 a0_9 a0_10 a0_11 a0_12 l0_13 a0_14 a0_15 a0_16 a0_17 a0_18 a0_19 a0_20 a0_21 a0_22 l0_23 a0_24 a0_20 a0_21 a0_22) else (config_rules.j3 k1 t106 2 ((Go.bits .andNot .u64 a0_20 t106) != 0) a0_0 l0_1 a0_2 a0_3 a0_4 a0_5 a0_6 a0_7 a0_8 a0_9 a0_10 a0_11 a0_12 l0_13 a0_14 a0_15 a0_16 a0_17 a0_18 a0_19 a0_20 a0_21 a0_22 l0_23 a0_24 a0_20 a0_21 a0_22)) = some r := by rw [if_pos rfl] at H; exact H
       clear H
       have H := H1
       clear H1
       have HC49 := Aside0.mk H
       clear H
       go_upto_region 5 with (first | ((with_reducible refine gate_dst (N := 6) rfl ?_); refine bxe (cs := #[.int .u64 0, .int .i64 0, .int .i64 0]) (t := 26) ?_; intro gb114 hg w50 hbox hb; have BK114 := Aside0.mk (hbox); have GW114 := Aside0.mk (bge hg HB.out); have GE114 := Aside0.mk (bge hg HB.out); have NB105_114 := Aside0.mk ((bkl hg BK105.out)); have NB114_105 := Aside0.mk ((bkg hg BK105.out)); replace BK105 := Aside0.mk (bkb BK105.out hb); replace HB := Aside0.mk (bst HB.out hb); clear hb hbox hg; have hnb51 := NB114_105.out; have hnc51 := NB105_114.out; have hcz52_0 := cz3 BK114.out; have hfz52_0 := blk_frozen BK114.out))
       (try simp only [Act.put, List.setIfInBounds_toArray, List.set_cons_zero, List.set_cons_succ])
       go_cut [20] (fun v20 wc => ∃ (kq : Nat) (x20_48 : Bool), v20 = .bool x20_48 ∧ Aside0 (config_rules.j3 kq t106 2 x20_48 a0_0 l0_1 a0_2 a0_3 a0_4 a0_5 a0_6 a0_7 a0_8 a0_9 a0_10 a0_11 a0_12 l0_13 a0_14 a0_15 a0_16 a0_17 a0_18 a0_19 a0_20 a0_21 a0_22 l0_23 a0_24 a0_20 a0_21 a0_22 = some r) ∧ Aside0 (kq ≤ k1) ∧ Aside0 (wc.heap[gb105]? = some (.cells #[.int .i64 a0_0, (.slice A0_1 l0_1.length c0_1), .int .i64 a0_2, .int .i64 a0_3, .int .i64 a0_4, .int .i64 a0_5, .int .i64 a0_6, .int .i64 a0_7, .int .i64 a0_8, .int .i64 a0_9, .int .i64 a0_10, .int .i64 a0_11, .int .i64 a0_12, (.slice A0_13 l0_13.length c0_13), .int .u64 a0_14, .int .i64 a0_15, .int .i64 a0_16, .int .u64 a0_17, .int .i64 a0_18, .int .i64 a0_19, .int .u64 a0_20, .int .i64 a0_21, .int .i64 a0_22, (.slice A0_23 l0_23.length c0_23), .int .i64 a0_24] 29 (0, 0))) ∧ Aside0 (wc.heap[gb114]? = some (.cells #[.int .u64 a0_20, .int .i64 a0_21, .int .i64 a0_22] 26 (0, 0))) ∧ Aside0 (Below w.heap.size w wc))
       case first =>
        have H := HC49.out
        clear HC49
        by_cases c53 : a0_20 = 0
        ·as_aux_lemma =>
         rw [if_pos c53] at H
         have c53b0 : (a0_20 == 0) = true := beq_iff_eq.mpr c53
         have c53b1 : (a0_20 != 0) = false := bne_eq_false_iff_eq.mpr c53
         clear c53
         (first | rw [c53b0] | (simp only [i64_w, i32_w]; rw [c53b0]) | skip)
         have H' := Aside0.mk H
         clear H
         have hnb54 := NB114_105.out
         have hnc54 := NB105_114.out
         have hcz55_0 := cz3 BK114.out
         have hfz55_0 := blk_frozen BK114.out
         go_wp2
         go_meet
         case rel => exact ⟨_, (true), (by first | rfl | (simp; done) | (simp [*]; done)), H', ⟨by have := HK1.out; first | omega | exact Nat.le_refl _⟩, ⟨bkt BK105.out⟩, ⟨bkt BK114.out⟩, ⟨bel HB.out⟩⟩
        ·as_aux_lemma =>
         rw [if_neg c53] at H
         have c53b0 : (a0_20 == 0) = false := beq_eq_false_iff_ne.mpr c53
         have c53b1 : (a0_20 != 0) = true := bne_iff_ne.mpr c53
         (first | rw [c53b0] | (simp only [i64_w, i32_w]; rw [c53b0]) | skip)
         have H' := Aside0.mk H
         clear H
         have hnb56 := NB114_105.out
         have hnc56 := NB105_114.out
         have hcz57_0 := cz3 BK114.out
         have hfz57_0 := blk_frozen BK114.out
         go_wp2
         go_meet
         case rel => exact ⟨_, (((Go.bits .andNot .u64 a0_20 t106) != 0)), (by first | rfl | (simp; done) | (simp [*]; done)), H', ⟨by have := HK1.out; first | omega | exact Nat.le_refl _⟩, ⟨bkt BK105.out⟩, ⟨bkt BK114.out⟩, ⟨bel HB.out⟩⟩
       case rest =>
        clear HC49
        try clear c1
        try clear c2
        try clear p2
        try clear c3
        try clear c4
        try clear c5
        try clear c5b0
        try clear c6
        try clear p6
        try clear c9
        try clear c11
        try clear c11b0
        try clear c11b1
        try clear c12
        try clear c14
        try clear c16
        try clear c18
        try clear c20
        try clear c21
        try clear c23
        try clear c25
        try clear c27
        try clear c30
        try clear c32
        try clear c32b0
        try clear c32b1
        try clear c33
        try clear c35
        try clear c37
        try clear c39
        try clear c41
        try clear c42
        try clear c44
        try clear c46
        try clear c48
        try clear c51
        try clear c53
        try clear c53b0
        try clear c53b1
        try clear c54
        try clear c56
        try clear hcz10_0
        try clear hcz13_0
        try clear hcz15_0
        try clear hcz22_0
        try clear hcz24_0
        try clear hcz26_0
        try clear hcz31_0
        try clear hcz34_0
        try clear hcz36_0
        try clear hcz43_0
        try clear hcz45_0
        try clear hcz47_0
        try clear hcz4_0
        try clear hcz52_0
        try clear hcz55_0
        try clear hcz57_0
        try clear hfz10_0
        try clear hfz13_0
        try clear hfz15_0
        try clear hfz22_0
        try clear hfz24_0
        try clear hfz26_0
        try clear hfz31_0
        try clear hfz34_0
        try clear hfz36_0
        try clear hfz43_0
        try clear hfz45_0
        try clear hfz47_0
        try clear hfz4_0
        try clear hfz52_0
        try clear hfz55_0
        try clear hfz57_0
        try clear p2
        try clear p6
        obtain ⟨kq, x20_48, rfl, HA, HJ48, BK105, BK114, HB⟩ := hcut
        cases kq with
        | zero => exact absurd HA.out (by simp [config_rules.j3])
        | succ kj48 =>
         have H := HA.out
         clear HA
         simp only [config_rules.j3] at H
         by_cases c58 : x20_48 = true
         ·as_aux_lemma =>
          subst c58
          have H1 : (some 3) = some r := by rw [if_pos rfl] at H; exact H
          clear H
          have H := H1
          clear H1
          obtain rfl := Option.some.inj H
          go_wp2
          go_ret
          exact bfin (bel HB.out)
         ·as_aux_lemma =>
          replace c58 := Bool.eq_false_iff.mpr c58
          subst c58
          have H1 : ((mask_Has.f a0_20 a0_21).bind fun t115 => (if t115 = true then ((config_in.f a0_22 1 32).bind fun t116 => (if t116 = true then (config_rules.l0 kj48 t106 (wrap64 (2 + 1)) a0_0 l0_1 a0_2 a0_3 a0_4 a0_5 a0_6 a0_7 a0_8 a0_9 a0_10 a0_11 a0_12 l0_13 a0_14 a0_15 a0_16 a0_17 a0_18 a0_19 a0_20 a0_21 a0_22 l0_23 a0_24) else (some 2))) else (some 2))) = some r := by rw [if_neg (show ¬ (false = true) by decide)] at H; exact H
          clear H
          have H := H1
          clear H1
          replace H := Option.bind_eq_some_iff.mp H
          obtain ⟨t115, A590, H⟩ := H
          replace H : (if t115 = true then ((config_in.f a0_22 1 32).bind fun t116 => (if t116 = true then (config_rules.l0 kj48 t106 (wrap64 (2 + 1)) a0_0 l0_1 a0_2 a0_3 a0_4 a0_5 a0_6 a0_7 a0_8 a0_9 a0_10 a0_11 a0_12 l0_13 a0_14 a0_15 a0_16 a0_17 a0_18 a0_19 a0_20 a0_21 a0_22 l0_23 a0_24) else (some 2))) else (some 2)) = some r := H
          have A59 := Aside0.mk A590
          clear A590
          by_cases c60 : t115 = true
          ·as_aux_lemma =>
           subst c60
           have H1 : ((config_in.f a0_22 1 32).bind fun t116 => (if t116 = true then (config_rules.l0 kj48 t106 (wrap64 (2 + 1)) a0_0 l0_1 a0_2 a0_3 a0_4 a0_5 a0_6 a0_7 a0_8 a0_9 a0_10 a0_11 a0_12 l0_13 a0_14 a0_15 a0_16 a0_17 a0_18 a0_19 a0_20 a0_21 a0_22 l0_23 a0_24) else (some 2))) = some r := by rw [if_pos rfl] at H; exact H
           clear H
           have H := H1
           clear H1
           replace H := Option.bind_eq_some_iff.mp H
           obtain ⟨t116, A610, H⟩ := H
           replace H : (if t116 = true then (config_rules.l0 kj48 t106 (wrap64 (2 + 1)) a0_0 l0_1 a0_2 a0_3 a0_4 a0_5 a0_6 a0_7 a0_8 a0_9 a0_10 a0_11 a0_12 l0_13 a0_14 a0_15 a0_16 a0_17 a0_18 a0_19 a0_20 a0_21 a0_22 l0_23 a0_24) else (some 2)) = some r := H
           have A61 := Aside0.mk A610
           clear A610
           by_cases c62 : t116 = true
           ·as_aux_lemma =>
            subst c62
            have H1 : (config_rules.l0 kj48 t106 (wrap64 (2 + 1)) a0_0 l0_1 a0_2 a0_3 a0_4 a0_5 a0_6 a0_7 a0_8 a0_9 a0_10 a0_11 a0_12 l0_13 a0_14 a0_15 a0_16 a0_17 a0_18 a0_19 a0_20 a0_21 a0_22 l0_23 a0_24) = some r := by rw [if_pos rfl] at H; exact H
            clear H
            have H := H1
            clear H1
            have H' := Aside0.mk H
            clear H
            have hnb63 := NB114_105.out
            have hnc63 := NB105_114.out
            have hcz64_0 := cz3 BK114.out
            have hfz64_0 := blk_frozen BK114.out
            go_wp2_with (first | ((with_reducible refine gate_callee (f := 56) rfl ?_); refine gsl (some 36) Try.func56 #[.int .u64 a0_20, .int .i64 a0_21] ?_; (with_reducible refine (mask_Has.calls a0_20 a0_21 true _ A59.out).mono ?_); rintro e w' ⟨rfl, ⟨nd, rfl⟩⟩; refine ⟨_, rfl, ?_⟩) | (go_at_call 31; (with_reducible refine (config_in.calls a0_22 1 32 true _ A61.out).mono ?_); rintro e w' ⟨rfl, ⟨nd, rfl⟩⟩; (try clear A61)))
            go_roundg kj48
            case measure => have := HK1.out; have := HJ48.out; omega
            case rel => exact ⟨(wrap64 (2 + 1)), (by first | rfl | (simp; done) | (simp [wrap64]; done)), H', ⟨by have := HK1.out; have := HJ48.out; omega⟩, ⟨bkt BK105.out⟩, ⟨bel HB.out⟩⟩
           ·as_aux_lemma =>
            replace c62 := Bool.eq_false_iff.mpr c62
            subst c62
            have H1 : (some 2) = some r := by rw [if_neg (show ¬ (false = true) by decide)] at H; exact H
            clear H
            have H := H1
            clear H1
            obtain rfl := Option.some.inj H
            have hnb65 := NB114_105.out
            have hnc65 := NB105_114.out
            have hcz66_0 := cz3 BK114.out
            have hfz66_0 := blk_frozen BK114.out
            go_wp2_with (first | ((with_reducible refine gate_callee (f := 56) rfl ?_); refine gsl (some 36) Try.func56 #[.int .u64 a0_20, .int .i64 a0_21] ?_; (with_reducible refine (mask_Has.calls a0_20 a0_21 true _ A59.out).mono ?_); rintro e w' ⟨rfl, ⟨nd, rfl⟩⟩; refine ⟨_, rfl, ?_⟩) | (go_at_call 31; (with_reducible refine (config_in.calls a0_22 1 32 false _ A61.out).mono ?_); rintro e w' ⟨rfl, ⟨nd, rfl⟩⟩; (try clear A61)))
            go_ret
            exact bfin (bel HB.out)
          ·as_aux_lemma =>
           replace c60 := Bool.eq_false_iff.mpr c60
           subst c60
           have H1 : (some 2) = some r := by rw [if_neg (show ¬ (false = true) by decide)] at H; exact H
           clear H
           have H := H1
           clear H1
           obtain rfl := Option.some.inj H
           have hnb67 := NB114_105.out
           have hnc67 := NB105_114.out
           have hcz68_0 := cz3 BK114.out
           have hfz68_0 := blk_frozen BK114.out
           go_wp2_with (first | ((with_reducible refine gate_callee (f := 56) rfl ?_); refine gsl (some 36) Try.func56 #[.int .u64 a0_20, .int .i64 a0_21] ?_; (with_reducible refine (mask_Has.calls a0_20 a0_21 false _ A59.out).mono ?_); rintro e w' ⟨rfl, ⟨nd, rfl⟩⟩; refine ⟨_, rfl, ?_⟩))
           go_ret
           exact bfin (bel HB.out)
      ·have H1 : (none) = some r := by rw [if_neg c48] at H; exact H
       clear H
       have H := H1
       clear H1
       exact absurd H (by simp)
   ·as_aux_lemma =>
    rw [if_neg c5] at H
    have c5b0 : decide (x17_1 < 3) = false := decide_eq_false c5
    clear c5
    by_cases c69 : (l0_23.length : Int) > 8
    ·as_aux_lemma =>
     rw [if_pos c69] at H
     have c69b0 : decide (8 < (l0_23.length : Int)) = true := decide_eq_true c69
     have c69b1 : decide (8 < l0_23.length) = true := decide_eq_true (by omega)
     clear c69
     obtain rfl := Option.some.inj H
     have hcz70_0 := cz25 BK105.out
     have hfz70_0 := blk_frozen BK105.out
     go_wp2
     go_ret
     exact bfin (bel HB.out)
    ·as_aux_lemma =>
     rw [if_neg c69] at H
     have c69b0 : decide (8 < (l0_23.length : Int)) = false := decide_eq_false c69
     have c69b1 : decide (8 < l0_23.length) = false := decide_eq_false (by omega)
     clear c69
     have H' := Aside0.mk H
     clear H
     have hcz71_0 := cz25 BK105.out
     have hfz71_0 := blk_frozen BK105.out
     go_wp2
     go_loopg [52] k1 (fun kq v52 w' => ∃ (x52_2 : Int), v52 = .int .i64 x52_2 ∧ Aside0 (config_rules.l1 kq l0_23 (l0_23.length : Int) x52_2 a0_0 l0_1 a0_2 a0_3 a0_4 a0_5 a0_6 a0_7 a0_8 a0_9 a0_10 a0_11 a0_12 l0_13 a0_14 a0_15 a0_16 a0_17 a0_18 a0_19 a0_20 a0_21 a0_22 l0_23 a0_24 = some r) ∧ Aside0 (kq ≤ k1) ∧ Aside0 (w'.heap[gb105]? = some (.cells #[.int .i64 a0_0, (.slice A0_1 l0_1.length c0_1), .int .i64 a0_2, .int .i64 a0_3, .int .i64 a0_4, .int .i64 a0_5, .int .i64 a0_6, .int .i64 a0_7, .int .i64 a0_8, .int .i64 a0_9, .int .i64 a0_10, .int .i64 a0_11, .int .i64 a0_12, (.slice A0_13 l0_13.length c0_13), .int .u64 a0_14, .int .i64 a0_15, .int .i64 a0_16, .int .u64 a0_17, .int .i64 a0_18, .int .i64 a0_19, .int .u64 a0_20, .int .i64 a0_21, .int .i64 a0_22, (.slice A0_23 l0_23.length c0_23), .int .i64 a0_24] 29 (0, 0))) ∧ Aside0 (Below w.heap.size w w'))
     case atStart => exact ⟨(0), (by first | rfl | (simp; done) | (simp [*]; done)), H', ⟨Nat.le_refl _⟩, ⟨bkt BK105.out⟩, ⟨bel HB.out⟩⟩
     case round =>
      clear H'
      try clear c1
      try clear c2
      try clear p2
      try clear c3
      try clear c4
      try clear c5
      try clear c5b0
      try clear c6
      try clear p6
      try clear c9
      try clear c11
      try clear c11b0
      try clear c11b1
      try clear c12
      try clear c14
      try clear c16
      try clear c18
      try clear c20
      try clear c21
      try clear c23
      try clear c25
      try clear c27
      try clear c30
      try clear c32
      try clear c32b0
      try clear c32b1
      try clear c33
      try clear c35
      try clear c37
      try clear c39
      try clear c41
      try clear c42
      try clear c44
      try clear c46
      try clear c48
      try clear c51
      try clear c53
      try clear c53b0
      try clear c53b1
      try clear c54
      try clear c56
      try clear c58
      try clear c60
      try clear c62
      try clear c63
      try clear p64
      try clear c65
      try clear c67
      try clear c69
      try clear c69b0
      try clear c69b1
      try clear hcz10_0
      try clear hcz13_0
      try clear hcz15_0
      try clear hcz22_0
      try clear hcz24_0
      try clear hcz26_0
      try clear hcz31_0
      try clear hcz34_0
      try clear hcz36_0
      try clear hcz43_0
      try clear hcz45_0
      try clear hcz47_0
      try clear hcz4_0
      try clear hcz52_0
      try clear hcz55_0
      try clear hcz57_0
      try clear hcz64_0
      try clear hcz66_0
      try clear hcz68_0
      try clear hcz70_0
      try clear hcz71_0
      try clear hfz10_0
      try clear hfz13_0
      try clear hfz15_0
      try clear hfz22_0
      try clear hfz24_0
      try clear hfz26_0
      try clear hfz31_0
      try clear hfz34_0
      try clear hfz36_0
      try clear hfz43_0
      try clear hfz45_0
      try clear hfz47_0
      try clear hfz4_0
      try clear hfz52_0
      try clear hfz55_0
      try clear hfz57_0
      try clear hfz64_0
      try clear hfz66_0
      try clear hfz68_0
      try clear hfz70_0
      try clear hfz71_0
      try clear p2
      try clear p6
      obtain ⟨x52_2, rfl, HA, HK2, BK105, HB⟩ := hrel
      cases gk with
      | zero => exact absurd HA.out (by simp [config_rules.l1])
      | succ k2 =>
       have H := HA.out
       clear HA
       simp only [config_rules.l1] at H
       by_cases c72 : x52_2 < (l0_23.length : Int)
       ·as_aux_lemma =>
        rw [if_pos c72] at H
        have c72b0 : decide (x52_2 < (l0_23.length : Int)) = true := decide_eq_true c72
        clear c72
        by_cases c73 : 0 ≤ x52_2
        ·as_aux_lemma =>
         rw [if_pos c73] at H
         have c73b0 : decide (0 ≤ x52_2) = true := decide_eq_true c73
         clear c73
         by_cases c74 : x52_2 < (l0_23.length : Int)
         ·as_aux_lemma =>
          rw [if_pos c74] at H
          have c74b0 : decide (x52_2 < (l0_23.length : Int)) = true := decide_eq_true c74
          clear c74
          replace H := Option.bind_eq_some_iff.mp H
          obtain ⟨t118, A750, H⟩ := H
          replace H : (if t118 = true then (if x52_2 > 0 then (if 0 ≤ (wrap64 (x52_2 - 1)) then (if (wrap64 (x52_2 - 1)) < (l0_23.length : Int) then (if (rd l0_23 x52_2) ≤ (rd l0_23 (wrap64 (x52_2 - 1))) then (some 8) else (config_rules.l1 k2 l0_23 (l0_23.length : Int) (wrap64 (x52_2 + 1)) a0_0 l0_1 a0_2 a0_3 a0_4 a0_5 a0_6 a0_7 a0_8 a0_9 a0_10 a0_11 a0_12 l0_13 a0_14 a0_15 a0_16 a0_17 a0_18 a0_19 a0_20 a0_21 a0_22 l0_23 a0_24)) else (none)) else (none)) else (config_rules.l1 k2 l0_23 (l0_23.length : Int) (wrap64 (x52_2 + 1)) a0_0 l0_1 a0_2 a0_3 a0_4 a0_5 a0_6 a0_7 a0_8 a0_9 a0_10 a0_11 a0_12 l0_13 a0_14 a0_15 a0_16 a0_17 a0_18 a0_19 a0_20 a0_21 a0_22 l0_23 a0_24)) else (some 2)) = some r := H
          have A75 := Aside0.mk A750
          clear A750
          by_cases c76 : t118 = true
          ·as_aux_lemma =>
           subst c76
           have H1 : (if x52_2 > 0 then (if 0 ≤ (wrap64 (x52_2 - 1)) then (if (wrap64 (x52_2 - 1)) < (l0_23.length : Int) then (if (rd l0_23 x52_2) ≤ (rd l0_23 (wrap64 (x52_2 - 1))) then (some 8) else (config_rules.l1 k2 l0_23 (l0_23.length : Int) (wrap64 (x52_2 + 1)) a0_0 l0_1 a0_2 a0_3 a0_4 a0_5 a0_6 a0_7 a0_8 a0_9 a0_10 a0_11 a0_12 l0_13 a0_14 a0_15 a0_16 a0_17 a0_18 a0_19 a0_20 a0_21 a0_22 l0_23 a0_24)) else (none)) else (none)) else (config_rules.l1 k2 l0_23 (l0_23.length : Int) (wrap64 (x52_2 + 1)) a0_0 l0_1 a0_2 a0_3 a0_4 a0_5 a0_6 a0_7 a0_8 a0_9 a0_10 a0_11 a0_12 l0_13 a0_14 a0_15 a0_16 a0_17 a0_18 a0_19 a0_20 a0_21 a0_22 l0_23 a0_24)) = some r := by rw [if_pos rfl] at H; exact H
           clear H
           have H := H1
           clear H1
           by_cases c77 : x52_2 > 0
           ·as_aux_lemma =>
            rw [if_pos c77] at H
            have c77b0 : decide (0 < x52_2) = true := decide_eq_true c77
            clear c77
            obtain ⟨ji78, hji78⟩ : ∃ j_ : Int, (wrap64 (x52_2 - 1)) = j_ := ⟨_, rfl⟩
            replace H : (if 0 ≤ (ji78) then (if (ji78) < (l0_23.length : Int) then (if (rd l0_23 x52_2) ≤ (rd l0_23 (ji78)) then (some 8) else (config_rules.l1 k2 l0_23 (l0_23.length : Int) (wrap64 (x52_2 + 1)) a0_0 l0_1 a0_2 a0_3 a0_4 a0_5 a0_6 a0_7 a0_8 a0_9 a0_10 a0_11 a0_12 l0_13 a0_14 a0_15 a0_16 a0_17 a0_18 a0_19 a0_20 a0_21 a0_22 l0_23 a0_24)) else (none)) else (none)) = some r := by first | (rw [hji78] at H; exact H) | (simp only [hji78] at H ⊢; exact H)
            (try rw [hji78] at A75)
            have hji78w : (IntKind.i64.wrap (x52_2 - 1)) = ji78 := (i64_w _).trans hji78
            by_cases c79 : 0 ≤ (ji78)
            ·as_aux_lemma =>
             rw [if_pos c79] at H
             have c79b0 : decide (0 ≤ (ji78)) = true := decide_eq_true c79
             clear c79
             by_cases c80 : (ji78) < (l0_23.length : Int)
             ·as_aux_lemma =>
              rw [if_pos c80] at H
              have c80b0 : decide ((ji78) < (l0_23.length : Int)) = true := decide_eq_true c80
              clear c80
              by_cases c81 : (rd l0_23 x52_2) ≤ (rd l0_23 (ji78))
              ·as_aux_lemma =>
               rw [if_pos c81] at H
               have c81b0 : decide ((rd l0_23 x52_2) ≤ (rd l0_23 (ji78))) = true := decide_eq_true c81
               clear c81
               obtain rfl := Option.some.inj H
               have p117 : 0 ≤ (x52_2 : Int) := of_decide_eq_true (by first | (with_reducible assumption) | assumption)
               have q117 : x52_2 < (l0_23.length : Int) := of_decide_eq_true (by first | (with_reducible assumption) | assumption)
               obtain ⟨ad117, e117, hx117_0⟩ := Kd.at_int HR0_23.out x52_2 p117 q117
               cases e117
               replace hx117_0 := (HB.out.cell (World.block_lt_of_cell? w _ hx117_0)).trans hx117_0
               replace p117 := eq_true p117
               replace q117 := eq_true q117
               go_wp2_with (first | ((with_reducible refine gate_callee (f := 31) rfl ?_); refine gsl (some 58) Try.func31 #[.int .i64 (rd l0_23 x52_2), .int .i64 1, .int .i64 99] ?_; (with_reducible refine (config_in.calls (rd l0_23 x52_2) 1 99 true _ A75.out).mono ?_); rintro e w' ⟨rfl, ⟨nd, rfl⟩⟩; refine ⟨_, rfl, ?_⟩; have hcz82_0 := cz25 BK105.out; have hfz82_0 := blk_frozen BK105.out; have p119 : 0 ≤ ((ji78) : Int) := of_decide_eq_true (by first | (with_reducible assumption) | assumption); have q119 : (ji78) < (l0_23.length : Int) := of_decide_eq_true (by first | (with_reducible assumption) | assumption); obtain ⟨ad119, e119, hx119_0⟩ := Kd.at_int HR0_23.out (ji78) p119 q119; obtain rfl : ad117 = ad119 := (by injection e119); replace hx119_0 := (HB.out.cell (World.block_lt_of_cell? w _ hx119_0)).trans hx119_0; replace p119 := eq_true p119; replace q119 := eq_true q119))
               go_ret
               exact ⟨by first | rfl | (simp [errW_none, errW_some] <;> rfl) | (simp only [← hji78]; first | rfl | (simp [errW_none, errW_some] <;> rfl)) | (simp [*, errW_none, errW_some] <;> rfl), bel HB.out⟩
              ·as_aux_lemma =>
               rw [if_neg c81] at H
               have c81b0 : decide ((rd l0_23 x52_2) ≤ (rd l0_23 (ji78))) = false := decide_eq_false c81
               clear c81
               have H' := Aside0.mk H
               clear H
               have p117 : 0 ≤ (x52_2 : Int) := of_decide_eq_true (by first | (with_reducible assumption) | assumption)
               have q117 : x52_2 < (l0_23.length : Int) := of_decide_eq_true (by first | (with_reducible assumption) | assumption)
               obtain ⟨ad117, e117, hx117_0⟩ := Kd.at_int HR0_23.out x52_2 p117 q117
               cases e117
               replace hx117_0 := (HB.out.cell (World.block_lt_of_cell? w _ hx117_0)).trans hx117_0
               replace p117 := eq_true p117
               replace q117 := eq_true q117
               go_wp2_with (first | ((with_reducible refine gate_callee (f := 31) rfl ?_); refine gsl (some 58) Try.func31 #[.int .i64 (rd l0_23 x52_2), .int .i64 1, .int .i64 99] ?_; (with_reducible refine (config_in.calls (rd l0_23 x52_2) 1 99 true _ A75.out).mono ?_); rintro e w' ⟨rfl, ⟨nd, rfl⟩⟩; refine ⟨_, rfl, ?_⟩; have hcz83_0 := cz25 BK105.out; have hfz83_0 := blk_frozen BK105.out; have p119 : 0 ≤ ((ji78) : Int) := of_decide_eq_true (by first | (with_reducible assumption) | assumption); have q119 : (ji78) < (l0_23.length : Int) := of_decide_eq_true (by first | (with_reducible assumption) | assumption); obtain ⟨ad119, e119, hx119_0⟩ := Kd.at_int HR0_23.out (ji78) p119 q119; obtain rfl : ad117 = ad119 := (by injection e119); replace hx119_0 := (HB.out.cell (World.block_lt_of_cell? w _ hx119_0)).trans hx119_0; replace p119 := eq_true p119; replace q119 := eq_true q119))
               go_roundg k2
               case measure => have := HK1.out; have := HK2.out; omega
               case rel => exact ⟨(wrap64 (x52_2 + 1)), (by first | rfl | (simp; done) | (simp [*]; done)), H', ⟨by have := HK1.out; have := HK2.out; omega⟩, ⟨bkt BK105.out⟩, ⟨bel HB.out⟩⟩
             ·rw [if_neg c80] at H
              exact absurd H (by simp)
            ·rw [if_neg c79] at H
             exact absurd H (by simp)
           ·as_aux_lemma =>
            rw [if_neg c77] at H
            have c77b0 : decide (0 < x52_2) = false := decide_eq_false c77
            clear c77
            have H' := Aside0.mk H
            clear H
            have p117 : 0 ≤ (x52_2 : Int) := of_decide_eq_true (by first | (with_reducible assumption) | assumption)
            have q117 : x52_2 < (l0_23.length : Int) := of_decide_eq_true (by first | (with_reducible assumption) | assumption)
            obtain ⟨ad117, e117, hx117_0⟩ := Kd.at_int HR0_23.out x52_2 p117 q117
            cases e117
            replace hx117_0 := (HB.out.cell (World.block_lt_of_cell? w _ hx117_0)).trans hx117_0
            replace p117 := eq_true p117
            replace q117 := eq_true q117
            go_wp2_with (first | ((with_reducible refine gate_callee (f := 31) rfl ?_); refine gsl (some 58) Try.func31 #[.int .i64 (rd l0_23 x52_2), .int .i64 1, .int .i64 99] ?_; (with_reducible refine (config_in.calls (rd l0_23 x52_2) 1 99 true _ A75.out).mono ?_); rintro e w' ⟨rfl, ⟨nd, rfl⟩⟩; refine ⟨_, rfl, ?_⟩))
            go_roundg k2
            case measure => have := HK1.out; have := HK2.out; omega
            case rel => exact ⟨(wrap64 (x52_2 + 1)), (by first | rfl | (simp; done) | (simp [*]; done)), H', ⟨by have := HK1.out; have := HK2.out; omega⟩, ⟨bkt BK105.out⟩, ⟨bel HB.out⟩⟩
          ·as_aux_lemma =>
           replace c76 := Bool.eq_false_iff.mpr c76
           subst c76
           have H1 : (some 2) = some r := by rw [if_neg (show ¬ (false = true) by decide)] at H; exact H
           clear H
           have H := H1
           clear H1
           obtain rfl := Option.some.inj H
           have p117 : 0 ≤ (x52_2 : Int) := of_decide_eq_true (by first | (with_reducible assumption) | assumption)
           have q117 : x52_2 < (l0_23.length : Int) := of_decide_eq_true (by first | (with_reducible assumption) | assumption)
           obtain ⟨ad117, e117, hx117_0⟩ := Kd.at_int HR0_23.out x52_2 p117 q117
           cases e117
           replace hx117_0 := (HB.out.cell (World.block_lt_of_cell? w _ hx117_0)).trans hx117_0
           replace p117 := eq_true p117
           replace q117 := eq_true q117
           go_wp2_with (first | ((with_reducible refine gate_callee (f := 31) rfl ?_); refine gsl (some 58) Try.func31 #[.int .i64 (rd l0_23 x52_2), .int .i64 1, .int .i64 99] ?_; (with_reducible refine (config_in.calls (rd l0_23 x52_2) 1 99 false _ A75.out).mono ?_); rintro e w' ⟨rfl, ⟨nd, rfl⟩⟩; refine ⟨_, rfl, ?_⟩))
           go_ret
           exact bfin (bel HB.out)
         ·rw [if_neg c74] at H
          exact absurd H (by simp)
        ·rw [if_neg c73] at H
         exact absurd H (by simp)
       ·as_aux_lemma =>
        rw [if_neg c72] at H
        have c72b0 : decide (x52_2 < (l0_23.length : Int)) = false := decide_eq_false c72
        clear c72
        obtain rfl := Option.some.inj H
        go_wp2
        go_ret
        exact bfin (bel HB.out)

end Go.Proofs.Ytmdcjmackhjchaa.P
end
