import Derived.Test.YtmdcjmackhjchaaZad
import Derived.Test.YtmdcjmackhjchaaZai
section
-- Printed by wip/myprint.py of this repo (over the kit's printer). Not trusted: Lean checks it.
namespace Go.Proofs.Ytmdcjmackhjchaa.P
open Go.RowKit Go.Proofs.YtmdcjmackhjchaaW.PrintWords Go.Proofs.YtmdcjmackhjchaaW.PrintLast Go.Proofs.YtmdcjmackhjchaaW.PrintMore
attribute [local go_sem] cell_same1 cell_some1 ix27_0 ix27_1 ix27_2
attribute [local go_sem] max2_int min2_int max_two min_two max_three min_three max_four min_four   -- for this text's walks alone
set_option linter.unusedVariables false
set_option linter.unusedSimpArgs false

/-! ### r27_rules: function 36 -/
mutual
def r27_rules.l0 : Nat → Int → Int → List Int → Int → Int → Int → Int → Int → Int → Int → Int → Int → Int → Int → List (List Int) → Int → Int → Int → Int → Int → Int → Int → Int → Int → List Int → Int → Option (Int)
 | 0, _, _, _, _, _, _, _, _, _, _, _, _, _, _, _, _, _, _, _, _, _, _, _, _, _, _ => none
 | k + 1, x3, x204000, x204001, x204002, x204003, x204004, x204005, x204006, x204007, x204008, x204009, x204010, x204011, x204012, x204013, x204014, x204015, x204016, x204017, x204018, x204019, x204020, x204021, x204022, x204023, x204024 => if x3 < 3 then (if x3 = 0 then (if x204014 = 0 then (r27_rules.j1 k x3 true x204000 x204001 x204002 x204003 x204004 x204005 x204006 x204007 x204008 x204009 x204010 x204011 x204012 x204013 x204014 x204015 x204016 x204017 x204018 x204019 x204020 x204021 x204022 x204023 x204024 x204014 x204015 x204016) else (if x204000 < 64 then (if 0 ≤ (IntKind.u64.wrap (x204000)) then (r27_rules.j1 k x3 ((shr .u64 x204014 (IntKind.u64.wrap (x204000))) != 0) x204000 x204001 x204002 x204003 x204004 x204005 x204006 x204007 x204008 x204009 x204010 x204011 x204012 x204013 x204014 x204015 x204016 x204017 x204018 x204019 x204020 x204021 x204022 x204023 x204024 x204014 x204015 x204016) else (none)) else (r27_rules.j1 k x3 false x204000 x204001 x204002 x204003 x204004 x204005 x204006 x204007 x204008 x204009 x204010 x204011 x204012 x204013 x204014 x204015 x204016 x204017 x204018 x204019 x204020 x204021 x204022 x204023 x204024 x204014 x204015 x204016))) else (if x3 = 1 then (if x204017 = 0 then (r27_rules.j2 k x3 true x204000 x204001 x204002 x204003 x204004 x204005 x204006 x204007 x204008 x204009 x204010 x204011 x204012 x204013 x204014 x204015 x204016 x204017 x204018 x204019 x204020 x204021 x204022 x204023 x204024 x204017 x204018 x204019) else (if x204000 < 64 then (if 0 ≤ (IntKind.u64.wrap (x204000)) then (r27_rules.j2 k x3 ((shr .u64 x204017 (IntKind.u64.wrap (x204000))) != 0) x204000 x204001 x204002 x204003 x204004 x204005 x204006 x204007 x204008 x204009 x204010 x204011 x204012 x204013 x204014 x204015 x204016 x204017 x204018 x204019 x204020 x204021 x204022 x204023 x204024 x204017 x204018 x204019) else (none)) else (r27_rules.j2 k x3 false x204000 x204001 x204002 x204003 x204004 x204005 x204006 x204007 x204008 x204009 x204010 x204011 x204012 x204013 x204014 x204015 x204016 x204017 x204018 x204019 x204020 x204021 x204022 x204023 x204024 x204017 x204018 x204019))) else (if x3 = 2 then (if x204020 = 0 then (r27_rules.j3 k x3 true x204000 x204001 x204002 x204003 x204004 x204005 x204006 x204007 x204008 x204009 x204010 x204011 x204012 x204013 x204014 x204015 x204016 x204017 x204018 x204019 x204020 x204021 x204022 x204023 x204024 x204020 x204021 x204022) else (if x204000 < 64 then (if 0 ≤ (IntKind.u64.wrap (x204000)) then (r27_rules.j3 k x3 ((shr .u64 x204020 (IntKind.u64.wrap (x204000))) != 0) x204000 x204001 x204002 x204003 x204004 x204005 x204006 x204007 x204008 x204009 x204010 x204011 x204012 x204013 x204014 x204015 x204016 x204017 x204018 x204019 x204020 x204021 x204022 x204023 x204024 x204020 x204021 x204022) else (none)) else (r27_rules.j3 k x3 false x204000 x204001 x204002 x204003 x204004 x204005 x204006 x204007 x204008 x204009 x204010 x204011 x204012 x204013 x204014 x204015 x204016 x204017 x204018 x204019 x204020 x204021 x204022 x204023 x204024 x204020 x204021 x204022))) else (none)))) else (if (x204023.length : Int) > 8 then (some 5) else (r27_rules.l1 k 0 x204000 x204001 x204002 x204003 x204004 x204005 x204006 x204007 x204008 x204009 x204010 x204011 x204012 x204013 x204014 x204015 x204016 x204017 x204018 x204019 x204020 x204021 x204022 x204023 x204024))
def r27_rules.j1 : Nat → Int → Bool → Int → List Int → Int → Int → Int → Int → Int → Int → Int → Int → Int → Int → Int → List (List Int) → Int → Int → Int → Int → Int → Int → Int → Int → Int → List Int → Int → Int → Int → Int → Option (Int)
 | 0, _, _, _, _, _, _, _, _, _, _, _, _, _, _, _, _, _, _, _, _, _, _, _, _, _, _, _, _, _, _ => none
 | k + 1, x3, x14, x204000, x204001, x204002, x204003, x204004, x204005, x204006, x204007, x204008, x204009, x204010, x204011, x204012, x204013, x204014, x204015, x204016, x204017, x204018, x204019, x204020, x204021, x204022, x204023, x204024, x205000, x205001, x205002 => if x14 = true then (some 3) else ((r27_in.f x205001 0 (wrap64 (x204000 - 1))).bind fun t205 => (if t205 = true then ((r02_Has.f x205000 x205001).bind fun t206 => (if t206 = true then ((r27_in.f x205002 1 32).bind fun t207 => (if t207 = true then (r27_rules.l0 k (wrap64 (x3 + 1)) x204000 x204001 x204002 x204003 x204004 x204005 x204006 x204007 x204008 x204009 x204010 x204011 x204012 x204013 x204014 x204015 x204016 x204017 x204018 x204019 x204020 x204021 x204022 x204023 x204024) else (some 2))) else (some 2))) else (some 2)))
def r27_rules.j2 : Nat → Int → Bool → Int → List Int → Int → Int → Int → Int → Int → Int → Int → Int → Int → Int → Int → List (List Int) → Int → Int → Int → Int → Int → Int → Int → Int → Int → List Int → Int → Int → Int → Int → Option (Int)
 | 0, _, _, _, _, _, _, _, _, _, _, _, _, _, _, _, _, _, _, _, _, _, _, _, _, _, _, _, _, _, _ => none
 | k + 1, x3, x14, x204000, x204001, x204002, x204003, x204004, x204005, x204006, x204007, x204008, x204009, x204010, x204011, x204012, x204013, x204014, x204015, x204016, x204017, x204018, x204019, x204020, x204021, x204022, x204023, x204024, x209000, x209001, x209002 => if x14 = true then (some 3) else ((r27_in.f x209001 0 (wrap64 (x204000 - 1))).bind fun t209 => (if t209 = true then ((r02_Has.f x209000 x209001).bind fun t210 => (if t210 = true then ((r27_in.f x209002 1 32).bind fun t211 => (if t211 = true then (r27_rules.l0 k (wrap64 (x3 + 1)) x204000 x204001 x204002 x204003 x204004 x204005 x204006 x204007 x204008 x204009 x204010 x204011 x204012 x204013 x204014 x204015 x204016 x204017 x204018 x204019 x204020 x204021 x204022 x204023 x204024) else (some 2))) else (some 2))) else (some 2)))
def r27_rules.j3 : Nat → Int → Bool → Int → List Int → Int → Int → Int → Int → Int → Int → Int → Int → Int → Int → Int → List (List Int) → Int → Int → Int → Int → Int → Int → Int → Int → Int → List Int → Int → Int → Int → Int → Option (Int)
 | 0, _, _, _, _, _, _, _, _, _, _, _, _, _, _, _, _, _, _, _, _, _, _, _, _, _, _, _, _, _, _ => none
 | k + 1, x3, x14, x204000, x204001, x204002, x204003, x204004, x204005, x204006, x204007, x204008, x204009, x204010, x204011, x204012, x204013, x204014, x204015, x204016, x204017, x204018, x204019, x204020, x204021, x204022, x204023, x204024, x213000, x213001, x213002 => if x14 = true then (some 3) else ((r27_in.f x213001 0 (wrap64 (x204000 - 1))).bind fun t213 => (if t213 = true then ((r02_Has.f x213000 x213001).bind fun t214 => (if t214 = true then ((r27_in.f x213002 1 32).bind fun t215 => (if t215 = true then (r27_rules.l0 k (wrap64 (x3 + 1)) x204000 x204001 x204002 x204003 x204004 x204005 x204006 x204007 x204008 x204009 x204010 x204011 x204012 x204013 x204014 x204015 x204016 x204017 x204018 x204019 x204020 x204021 x204022 x204023 x204024) else (some 2))) else (some 2))) else (some 2)))
def r27_rules.l1 : Nat → Int → Int → List Int → Int → Int → Int → Int → Int → Int → Int → Int → Int → Int → Int → List (List Int) → Int → Int → Int → Int → Int → Int → Int → Int → Int → List Int → Int → Option (Int)
 | 0, _, _, _, _, _, _, _, _, _, _, _, _, _, _, _, _, _, _, _, _, _, _, _, _, _, _ => none
 | k + 1, x5, x204000, x204001, x204002, x204003, x204004, x204005, x204006, x204007, x204008, x204009, x204010, x204011, x204012, x204013, x204014, x204015, x204016, x204017, x204018, x204019, x204020, x204021, x204022, x204023, x204024 => if x5 < (x204023.length : Int) then (if 0 ≤ x5 then ((r27_in.f (rd x204023 x5) 1 99).bind fun t217 => (if t217 = true then (if x5 > 0 then (if 0 ≤ (wrap64 (x5 - 1)) then (if (wrap64 (x5 - 1)) < (x204023.length : Int) then (if (rd x204023 x5) ≤ (rd x204023 (wrap64 (x5 - 1))) then (some 8) else (r27_rules.l1 k (wrap64 (x5 + 1)) x204000 x204001 x204002 x204003 x204004 x204005 x204006 x204007 x204008 x204009 x204010 x204011 x204012 x204013 x204014 x204015 x204016 x204017 x204018 x204019 x204020 x204021 x204022 x204023 x204024)) else (none)) else (none)) else (r27_rules.l1 k (wrap64 (x5 + 1)) x204000 x204001 x204002 x204003 x204004 x204005 x204006 x204007 x204008 x204009 x204010 x204011 x204012 x204013 x204014 x204015 x204016 x204017 x204018 x204019 x204020 x204021 x204022 x204023 x204024)) else (some 2))) else (none)) else (some 0)
end
def r27_rules.f (k : Nat) (a0_0 : Int) (l0_1 : List Int) (a0_2 : Int) (a0_3 : Int) (a0_4 : Int) (a0_5 : Int) (a0_6 : Int) (a0_7 : Int) (a0_8 : Int) (a0_9 : Int) (a0_10 : Int) (a0_11 : Int) (a0_12 : Int) (l0_13 : List (List Int)) (a0_14 : Int) (a0_15 : Int) (a0_16 : Int) (a0_17 : Int) (a0_18 : Int) (a0_19 : Int) (a0_20 : Int) (a0_21 : Int) (a0_22 : Int) (l0_23 : List Int) (a0_24 : Int) : Option (Int) := r27_rules.l0 k 0 a0_0 l0_1 a0_2 a0_3 a0_4 a0_5 a0_6 a0_7 a0_8 a0_9 a0_10 a0_11 a0_12 l0_13 a0_14 a0_15 a0_16 a0_17 a0_18 a0_19 a0_20 a0_21 a0_22 l0_23 a0_24
theorem r27_rules.mono_l : ∀ k, (∀ y0 y1 y2 y3 y4 y5 y6 y7 y8 y9 y10 y11 y12 y13 y14 y15 y16 y17 y18 y19 y20 y21 y22 y23 y24 y25, LeO (r27_rules.l0 k y0 y1 y2 y3 y4 y5 y6 y7 y8 y9 y10 y11 y12 y13 y14 y15 y16 y17 y18 y19 y20 y21 y22 y23 y24 y25) (r27_rules.l0 (k + 1) y0 y1 y2 y3 y4 y5 y6 y7 y8 y9 y10 y11 y12 y13 y14 y15 y16 y17 y18 y19 y20 y21 y22 y23 y24 y25)) ∧ (∀ y0 y1 y2 y3 y4 y5 y6 y7 y8 y9 y10 y11 y12 y13 y14 y15 y16 y17 y18 y19 y20 y21 y22 y23 y24 y25 y26 y27 y28 y29, LeO (r27_rules.j1 k y0 y1 y2 y3 y4 y5 y6 y7 y8 y9 y10 y11 y12 y13 y14 y15 y16 y17 y18 y19 y20 y21 y22 y23 y24 y25 y26 y27 y28 y29) (r27_rules.j1 (k + 1) y0 y1 y2 y3 y4 y5 y6 y7 y8 y9 y10 y11 y12 y13 y14 y15 y16 y17 y18 y19 y20 y21 y22 y23 y24 y25 y26 y27 y28 y29)) ∧ (∀ y0 y1 y2 y3 y4 y5 y6 y7 y8 y9 y10 y11 y12 y13 y14 y15 y16 y17 y18 y19 y20 y21 y22 y23 y24 y25 y26 y27 y28 y29, LeO (r27_rules.j2 k y0 y1 y2 y3 y4 y5 y6 y7 y8 y9 y10 y11 y12 y13 y14 y15 y16 y17 y18 y19 y20 y21 y22 y23 y24 y25 y26 y27 y28 y29) (r27_rules.j2 (k + 1) y0 y1 y2 y3 y4 y5 y6 y7 y8 y9 y10 y11 y12 y13 y14 y15 y16 y17 y18 y19 y20 y21 y22 y23 y24 y25 y26 y27 y28 y29)) ∧ (∀ y0 y1 y2 y3 y4 y5 y6 y7 y8 y9 y10 y11 y12 y13 y14 y15 y16 y17 y18 y19 y20 y21 y22 y23 y24 y25 y26 y27 y28 y29, LeO (r27_rules.j3 k y0 y1 y2 y3 y4 y5 y6 y7 y8 y9 y10 y11 y12 y13 y14 y15 y16 y17 y18 y19 y20 y21 y22 y23 y24 y25 y26 y27 y28 y29) (r27_rules.j3 (k + 1) y0 y1 y2 y3 y4 y5 y6 y7 y8 y9 y10 y11 y12 y13 y14 y15 y16 y17 y18 y19 y20 y21 y22 y23 y24 y25 y26 y27 y28 y29)) ∧ (∀ y0 y1 y2 y3 y4 y5 y6 y7 y8 y9 y10 y11 y12 y13 y14 y15 y16 y17 y18 y19 y20 y21 y22 y23 y24 y25, LeO (r27_rules.l1 k y0 y1 y2 y3 y4 y5 y6 y7 y8 y9 y10 y11 y12 y13 y14 y15 y16 y17 y18 y19 y20 y21 y22 y23 y24 y25) (r27_rules.l1 (k + 1) y0 y1 y2 y3 y4 y5 y6 y7 y8 y9 y10 y11 y12 y13 y14 y15 y16 y17 y18 y19 y20 y21 y22 y23 y24 y25))
 | 0 => ⟨fun _ _ _ _ _ _ _ _ _ _ _ _ _ _ _ _ _ _ _ _ _ _ _ _ _ _ r h => by simp [r27_rules.l0] at h, fun _ _ _ _ _ _ _ _ _ _ _ _ _ _ _ _ _ _ _ _ _ _ _ _ _ _ _ _ _ _ r h => by simp [r27_rules.j1] at h, fun _ _ _ _ _ _ _ _ _ _ _ _ _ _ _ _ _ _ _ _ _ _ _ _ _ _ _ _ _ _ r h => by simp [r27_rules.j2] at h, fun _ _ _ _ _ _ _ _ _ _ _ _ _ _ _ _ _ _ _ _ _ _ _ _ _ _ _ _ _ _ r h => by simp [r27_rules.j3] at h, fun _ _ _ _ _ _ _ _ _ _ _ _ _ _ _ _ _ _ _ _ _ _ _ _ _ _ r h => by simp [r27_rules.l1] at h⟩
 | k + 1 => by
  obtain ⟨ih0, ih1, ih2, ih3, ih4⟩ := r27_rules.mono_l k
  refine ⟨?_, ?_, ?_, ?_, ?_⟩
  ·as_aux_lemma =>
   intro y0 y1 y2 y3 y4 y5 y6 y7 y8 y9 y10 y11 y12 y13 y14 y15 y16 y17 y18 y19 y20 y21 y22 y23 y24 y25
   unfold r27_rules.l0
   repeat' first
   | (with_reducible exact ih0 _ _ _ _ _ _ _ _ _ _ _ _ _ _ _ _ _ _ _ _ _ _ _ _ _ _)
   | (with_reducible exact ih1 _ _ _ _ _ _ _ _ _ _ _ _ _ _ _ _ _ _ _ _ _ _ _ _ _ _ _ _ _ _)
   | (with_reducible exact ih2 _ _ _ _ _ _ _ _ _ _ _ _ _ _ _ _ _ _ _ _ _ _ _ _ _ _ _ _ _ _)
   | (with_reducible exact ih3 _ _ _ _ _ _ _ _ _ _ _ _ _ _ _ _ _ _ _ _ _ _ _ _ _ _ _ _ _ _)
   | (with_reducible exact ih4 _ _ _ _ _ _ _ _ _ _ _ _ _ _ _ _ _ _ _ _ _ _ _ _ _ _)
   | (with_reducible exact LeO.refl _)
   | (with_reducible exact LeO.none _)
   | (with_reducible refine LeO.ite ?_ ?_)
   | (with_reducible refine LeO.bind ?_ (fun _ => ?_))
   | exact ih0 _ _ _ _ _ _ _ _ _ _ _ _ _ _ _ _ _ _ _ _ _ _ _ _ _ _
   | exact ih1 _ _ _ _ _ _ _ _ _ _ _ _ _ _ _ _ _ _ _ _ _ _ _ _ _ _ _ _ _ _
   | exact ih2 _ _ _ _ _ _ _ _ _ _ _ _ _ _ _ _ _ _ _ _ _ _ _ _ _ _ _ _ _ _
   | exact ih3 _ _ _ _ _ _ _ _ _ _ _ _ _ _ _ _ _ _ _ _ _ _ _ _ _ _ _ _ _ _
   | exact ih4 _ _ _ _ _ _ _ _ _ _ _ _ _ _ _ _ _ _ _ _ _ _ _ _ _ _
   | exact LeO.none _
   | refine LeO.ite ?_ ?_
   | refine LeO.bind ?_ (fun _ => ?_)
  ·as_aux_lemma =>
   intro y0 y1 y2 y3 y4 y5 y6 y7 y8 y9 y10 y11 y12 y13 y14 y15 y16 y17 y18 y19 y20 y21 y22 y23 y24 y25 y26 y27 y28 y29
   unfold r27_rules.j1
   repeat' first
   | (with_reducible exact ih0 _ _ _ _ _ _ _ _ _ _ _ _ _ _ _ _ _ _ _ _ _ _ _ _ _ _)
   | (with_reducible exact ih1 _ _ _ _ _ _ _ _ _ _ _ _ _ _ _ _ _ _ _ _ _ _ _ _ _ _ _ _ _ _)
   | (with_reducible exact ih2 _ _ _ _ _ _ _ _ _ _ _ _ _ _ _ _ _ _ _ _ _ _ _ _ _ _ _ _ _ _)
   | (with_reducible exact ih3 _ _ _ _ _ _ _ _ _ _ _ _ _ _ _ _ _ _ _ _ _ _ _ _ _ _ _ _ _ _)
   | (with_reducible exact ih4 _ _ _ _ _ _ _ _ _ _ _ _ _ _ _ _ _ _ _ _ _ _ _ _ _ _)
   | (with_reducible exact LeO.refl _)
   | (with_reducible exact LeO.none _)
   | (with_reducible refine LeO.ite ?_ ?_)
   | (with_reducible refine LeO.bind ?_ (fun _ => ?_))
   | exact ih0 _ _ _ _ _ _ _ _ _ _ _ _ _ _ _ _ _ _ _ _ _ _ _ _ _ _
   | exact ih1 _ _ _ _ _ _ _ _ _ _ _ _ _ _ _ _ _ _ _ _ _ _ _ _ _ _ _ _ _ _
   | exact ih2 _ _ _ _ _ _ _ _ _ _ _ _ _ _ _ _ _ _ _ _ _ _ _ _ _ _ _ _ _ _
   | exact ih3 _ _ _ _ _ _ _ _ _ _ _ _ _ _ _ _ _ _ _ _ _ _ _ _ _ _ _ _ _ _
   | exact ih4 _ _ _ _ _ _ _ _ _ _ _ _ _ _ _ _ _ _ _ _ _ _ _ _ _ _
   | exact LeO.none _
   | refine LeO.ite ?_ ?_
   | refine LeO.bind ?_ (fun _ => ?_)
  ·as_aux_lemma =>
   intro y0 y1 y2 y3 y4 y5 y6 y7 y8 y9 y10 y11 y12 y13 y14 y15 y16 y17 y18 y19 y20 y21 y22 y23 y24 y25 y26 y27 y28 y29
   unfold r27_rules.j2
   repeat' first
   | (with_reducible exact ih0 _ _ _ _ _ _ _ _ _ _ _ _ _ _ _ _ _ _ _ _ _ _ _ _ _ _)
   | (with_reducible exact ih1 _ _ _ _ _ _ _ _ _ _ _ _ _ _ _ _ _ _ _ _ _ _ _ _ _ _ _ _ _ _)
   | (with_reducible exact ih2 _ _ _ _ _ _ _ _ _ _ _ _ _ _ _ _ _ _ _ _ _ _ _ _ _ _ _ _ _ _)
   | (with_reducible exact ih3 _ _ _ _ _ _ _ _ _ _ _ _ _ _ _ _ _ _ _ _ _ _ _ _ _ _ _ _ _ _)
   | (with_reducible exact ih4 _ _ _ _ _ _ _ _ _ _ _ _ _ _ _ _ _ _ _ _ _ _ _ _ _ _)
   | (with_reducible exact LeO.refl _)
   | (with_reducible exact LeO.none _)
   | (with_reducible refine LeO.ite ?_ ?_)
   | (with_reducible refine LeO.bind ?_ (fun _ => ?_))
   | exact ih0 _ _ _ _ _ _ _ _ _ _ _ _ _ _ _ _ _ _ _ _ _ _ _ _ _ _
   | exact ih1 _ _ _ _ _ _ _ _ _ _ _ _ _ _ _ _ _ _ _ _ _ _ _ _ _ _ _ _ _ _
   | exact ih2 _ _ _ _ _ _ _ _ _ _ _ _ _ _ _ _ _ _ _ _ _ _ _ _ _ _ _ _ _ _
   | exact ih3 _ _ _ _ _ _ _ _ _ _ _ _ _ _ _ _ _ _ _ _ _ _ _ _ _ _ _ _ _ _
   | exact ih4 _ _ _ _ _ _ _ _ _ _ _ _ _ _ _ _ _ _ _ _ _ _ _ _ _ _
   | exact LeO.none _
   | refine LeO.ite ?_ ?_
   | refine LeO.bind ?_ (fun _ => ?_)
  ·as_aux_lemma =>
   intro y0 y1 y2 y3 y4 y5 y6 y7 y8 y9 y10 y11 y12 y13 y14 y15 y16 y17 y18 y19 y20 y21 y22 y23 y24 y25 y26 y27 y28 y29
   unfold r27_rules.j3
   repeat' first
   | (with_reducible exact ih0 _ _ _ _ _ _ _ _ _ _ _ _ _ _ _ _ _ _ _ _ _ _ _ _ _ _)
   | (with_reducible exact ih1 _ _ _ _ _ _ _ _ _ _ _ _ _ _ _ _ _ _ _ _ _ _ _ _ _ _ _ _ _ _)
   | (with_reducible exact ih2 _ _ _ _ _ _ _ _ _ _ _ _ _ _ _ _ _ _ _ _ _ _ _ _ _ _ _ _ _ _)
   | (with_reducible exact ih3 _ _ _ _ _ _ _ _ _ _ _ _ _ _ _ _ _ _ _ _ _ _ _ _ _ _ _ _ _ _)
   | (with_reducible exact ih4 _ _ _ _ _ _ _ _ _ _ _ _ _ _ _ _ _ _ _ _ _ _ _ _ _ _)
   | (with_reducible exact LeO.refl _)
   | (with_reducible exact LeO.none _)
   | (with_reducible refine LeO.ite ?_ ?_)
   | (with_reducible refine LeO.bind ?_ (fun _ => ?_))
   | exact ih0 _ _ _ _ _ _ _ _ _ _ _ _ _ _ _ _ _ _ _ _ _ _ _ _ _ _
   | exact ih1 _ _ _ _ _ _ _ _ _ _ _ _ _ _ _ _ _ _ _ _ _ _ _ _ _ _ _ _ _ _
   | exact ih2 _ _ _ _ _ _ _ _ _ _ _ _ _ _ _ _ _ _ _ _ _ _ _ _ _ _ _ _ _ _
   | exact ih3 _ _ _ _ _ _ _ _ _ _ _ _ _ _ _ _ _ _ _ _ _ _ _ _ _ _ _ _ _ _
   | exact ih4 _ _ _ _ _ _ _ _ _ _ _ _ _ _ _ _ _ _ _ _ _ _ _ _ _ _
   | exact LeO.none _
   | refine LeO.ite ?_ ?_
   | refine LeO.bind ?_ (fun _ => ?_)
  ·as_aux_lemma =>
   intro y0 y1 y2 y3 y4 y5 y6 y7 y8 y9 y10 y11 y12 y13 y14 y15 y16 y17 y18 y19 y20 y21 y22 y23 y24 y25
   unfold r27_rules.l1
   repeat' first
   | (with_reducible exact ih0 _ _ _ _ _ _ _ _ _ _ _ _ _ _ _ _ _ _ _ _ _ _ _ _ _ _)
   | (with_reducible exact ih1 _ _ _ _ _ _ _ _ _ _ _ _ _ _ _ _ _ _ _ _ _ _ _ _ _ _ _ _ _ _)
   | (with_reducible exact ih2 _ _ _ _ _ _ _ _ _ _ _ _ _ _ _ _ _ _ _ _ _ _ _ _ _ _ _ _ _ _)
   | (with_reducible exact ih3 _ _ _ _ _ _ _ _ _ _ _ _ _ _ _ _ _ _ _ _ _ _ _ _ _ _ _ _ _ _)
   | (with_reducible exact ih4 _ _ _ _ _ _ _ _ _ _ _ _ _ _ _ _ _ _ _ _ _ _ _ _ _ _)
   | (with_reducible exact LeO.refl _)
   | (with_reducible exact LeO.none _)
   | (with_reducible refine LeO.ite ?_ ?_)
   | (with_reducible refine LeO.bind ?_ (fun _ => ?_))
   | exact ih0 _ _ _ _ _ _ _ _ _ _ _ _ _ _ _ _ _ _ _ _ _ _ _ _ _ _
   | exact ih1 _ _ _ _ _ _ _ _ _ _ _ _ _ _ _ _ _ _ _ _ _ _ _ _ _ _ _ _ _ _
   | exact ih2 _ _ _ _ _ _ _ _ _ _ _ _ _ _ _ _ _ _ _ _ _ _ _ _ _ _ _ _ _ _
   | exact ih3 _ _ _ _ _ _ _ _ _ _ _ _ _ _ _ _ _ _ _ _ _ _ _ _ _ _ _ _ _ _
   | exact ih4 _ _ _ _ _ _ _ _ _ _ _ _ _ _ _ _ _ _ _ _ _ _ _ _ _ _
   | exact LeO.none _
   | refine LeO.ite ?_ ?_
   | refine LeO.bind ?_ (fun _ => ?_)
theorem r27_rules.mono : ∀ a0 a1 a2 a3 a4 a5 a6 a7 a8 a9 a10 a11 a12 a13 a14 a15 a16 a17 a18 a19 a20 a21 a22 a23 a24 k, LeO (r27_rules.f k a0 a1 a2 a3 a4 a5 a6 a7 a8 a9 a10 a11 a12 a13 a14 a15 a16 a17 a18 a19 a20 a21 a22 a23 a24) (r27_rules.f (k + 1) a0 a1 a2 a3 a4 a5 a6 a7 a8 a9 a10 a11 a12 a13 a14 a15 a16 a17 a18 a19 a20 a21 a22 a23 a24) := by
 intro a0 a1 a2 a3 a4 a5 a6 a7 a8 a9 a10 a11 a12 a13 a14 a15 a16 a17 a18 a19 a20 a21 a22 a23 a24 k
 obtain ⟨ih0, ih1, ih2, ih3, ih4⟩ := r27_rules.mono_l k
 unfold r27_rules.f
 repeat' first
   | (with_reducible exact ih0 _ _ _ _ _ _ _ _ _ _ _ _ _ _ _ _ _ _ _ _ _ _ _ _ _ _)
   | (with_reducible exact ih1 _ _ _ _ _ _ _ _ _ _ _ _ _ _ _ _ _ _ _ _ _ _ _ _ _ _ _ _ _ _)
   | (with_reducible exact ih2 _ _ _ _ _ _ _ _ _ _ _ _ _ _ _ _ _ _ _ _ _ _ _ _ _ _ _ _ _ _)
   | (with_reducible exact ih3 _ _ _ _ _ _ _ _ _ _ _ _ _ _ _ _ _ _ _ _ _ _ _ _ _ _ _ _ _ _)
   | (with_reducible exact ih4 _ _ _ _ _ _ _ _ _ _ _ _ _ _ _ _ _ _ _ _ _ _ _ _ _ _)
   | (with_reducible exact LeO.refl _)
   | (with_reducible exact LeO.none _)
   | (with_reducible refine LeO.ite ?_ ?_)
   | (with_reducible refine LeO.bind ?_ (fun _ => ?_))
   | exact ih0 _ _ _ _ _ _ _ _ _ _ _ _ _ _ _ _ _ _ _ _ _ _ _ _ _ _
   | exact ih1 _ _ _ _ _ _ _ _ _ _ _ _ _ _ _ _ _ _ _ _ _ _ _ _ _ _ _ _ _ _
   | exact ih2 _ _ _ _ _ _ _ _ _ _ _ _ _ _ _ _ _ _ _ _ _ _ _ _ _ _ _ _ _ _
   | exact ih3 _ _ _ _ _ _ _ _ _ _ _ _ _ _ _ _ _ _ _ _ _ _ _ _ _ _ _ _ _ _
   | exact ih4 _ _ _ _ _ _ _ _ _ _ _ _ _ _ _ _ _ _ _ _ _ _ _ _ _ _
   | exact LeO.none _
   | refine LeO.ite ?_ ?_
   | refine LeO.bind ?_ (fun _ => ?_)
set_option maxHeartbeats 8000000 in
set_option maxRecDepth 100000 in
theorem r27_rules.calls (k : Nat) (a0_0 : Int) (A0_1 : Option Addr) (c0_1 : Nat) (l0_1 : List Int) (a0_2 : Int) (a0_3 : Int) (a0_4 : Int) (a0_5 : Int) (a0_6 : Int) (a0_7 : Int) (a0_8 : Int) (a0_9 : Int) (a0_10 : Int) (a0_11 : Int) (a0_12 : Int) (A0_13 : Option Addr) (c0_13 : Nat) (l0_13 : List (List Int)) (a0_14 : Int) (a0_15 : Int) (a0_16 : Int) (a0_17 : Int) (a0_18 : Int) (a0_19 : Int) (a0_20 : Int) (a0_21 : Int) (a0_22 : Int) (A0_23 : Option Addr) (c0_23 : Nat) (l0_23 : List Int) (a0_24 : Int) (r : Int) (w : World) (hr0_1 : Kd.C (Kd.int .i64) w A0_1 l0_1.length l0_1) (hc0_1 : l0_1.length ≤ c0_1) (hr0_13 : Kd.C (Kd.slice 3 (Kd.int .i64)) w A0_13 l0_13.length l0_13) (hc0_13 : l0_13.length ≤ c0_13) (hr0_23 : Kd.C (Kd.int .i64) w A0_23 l0_23.length l0_23) (hc0_23 : l0_23.length ≤ c0_23) (h : r27_rules.f k a0_0 l0_1 a0_2 a0_3 a0_4 a0_5 a0_6 a0_7 a0_8 a0_9 a0_10 a0_11 a0_12 l0_13 a0_14 a0_15 a0_16 a0_17 a0_18 a0_19 a0_20 a0_21 a0_22 l0_23 a0_24 = some r) :
  Calls Try.prog 36 #[.agg #[.int .i64 a0_0, .slice A0_1 l0_1.length c0_1, .int .i64 a0_2, .int .i64 a0_3, .int .i64 a0_4, .int .i64 a0_5, .int .i64 a0_6, .int .i64 a0_7, .int .i64 a0_8, .int .i64 a0_9, .int .i64 a0_10, .int .i64 a0_11, .int .i64 a0_12, .slice A0_13 l0_13.length c0_13, .int .u64 a0_14, .int .i64 a0_15, .int .i64 a0_16, .int .u64 a0_17, .int .i64 a0_18, .int .i64 a0_19, .int .u64 a0_20, .int .i64 a0_21, .int .i64 a0_22, .slice A0_23 l0_23.length c0_23, .int .i64 a0_24]] w fun e w' => e = .returned (.int .i64 r) ∧ Below w.heap.size w w' := by
 have hu29 := Try.underlying29
 have hu26 := Try.underlying26
 have HR0_1 := Aside0.mk hr0_1
 have HC0_1 := Aside0.mk hc0_1
 clear hr0_1 hc0_1
 have HR0_13 := Aside0.mk hr0_13
 have HC0_13 := Aside0.mk hc0_13
 clear hr0_13 hc0_13
 have HR0_23 := Aside0.mk hr0_23
 have HC0_23 := Aside0.mk hc0_23
 clear hr0_23 hc0_23
 have HB := Aside0.mk (Below.refl w.heap.size w)
 have H : (r27_rules.l0 k 0 a0_0 l0_1 a0_2 a0_3 a0_4 a0_5 a0_6 a0_7 a0_8 a0_9 a0_10 a0_11 a0_12 l0_13 a0_14 a0_15 a0_16 a0_17 a0_18 a0_19 a0_20 a0_21 a0_22 l0_23 a0_24) = some r := h
 clear h
 have H' := Aside0.mk H
 clear H
 go_enter Try.func36, Try.ntmps36
 go_wp2_with (first | ((with_reducible refine gate_dst (N := 1) rfl ?_); refine bxe (cs := #[.int .i64 a0_0, .slice A0_1 l0_1.length c0_1, .int .i64 a0_2, .int .i64 a0_3, .int .i64 a0_4, .int .i64 a0_5, .int .i64 a0_6, .int .i64 a0_7, .int .i64 a0_8, .int .i64 a0_9, .int .i64 a0_10, .int .i64 a0_11, .int .i64 a0_12, .slice A0_13 l0_13.length c0_13, .int .u64 a0_14, .int .i64 a0_15, .int .i64 a0_16, .int .u64 a0_17, .int .i64 a0_18, .int .i64 a0_19, .int .u64 a0_20, .int .i64 a0_21, .int .i64 a0_22, .slice A0_23 l0_23.length c0_23, .int .i64 a0_24]) (t := 29) ?_; intro gb203 hg w2 hbox hb; have BK203 := Aside0.mk (hbox); have GW203 := Aside0.mk (bge hg HB.out); have GE203 := Aside0.mk (bge hg HB.out); replace HB := Aside0.mk (bst HB.out hb); clear hb hbox hg))
 repeat (go_quiet (first | ((with_reducible refine gate_dst (N := 1) rfl ?_); refine bxe (cs := #[.int .i64 a0_0, .slice A0_1 l0_1.length c0_1, .int .i64 a0_2, .int .i64 a0_3, .int .i64 a0_4, .int .i64 a0_5, .int .i64 a0_6, .int .i64 a0_7, .int .i64 a0_8, .int .i64 a0_9, .int .i64 a0_10, .int .i64 a0_11, .int .i64 a0_12, .slice A0_13 l0_13.length c0_13, .int .u64 a0_14, .int .i64 a0_15, .int .i64 a0_16, .int .u64 a0_17, .int .i64 a0_18, .int .i64 a0_19, .int .u64 a0_20, .int .i64 a0_21, .int .i64 a0_22, .slice A0_23 l0_23.length c0_23, .int .i64 a0_24]) (t := 29) ?_; intro gb203 hg w2 hbox hb; have BK203 := Aside0.mk (hbox); have GW203 := Aside0.mk (bge hg HB.out); have GE203 := Aside0.mk (bge hg HB.out); replace HB := Aside0.mk (bst HB.out hb); clear hb hbox hg)); try go_wp2_with (first | ((with_reducible refine gate_dst (N := 1) rfl ?_); refine bxe (cs := #[.int .i64 a0_0, .slice A0_1 l0_1.length c0_1, .int .i64 a0_2, .int .i64 a0_3, .int .i64 a0_4, .int .i64 a0_5, .int .i64 a0_6, .int .i64 a0_7, .int .i64 a0_8, .int .i64 a0_9, .int .i64 a0_10, .int .i64 a0_11, .int .i64 a0_12, .slice A0_13 l0_13.length c0_13, .int .u64 a0_14, .int .i64 a0_15, .int .i64 a0_16, .int .u64 a0_17, .int .i64 a0_18, .int .i64 a0_19, .int .u64 a0_20, .int .i64 a0_21, .int .i64 a0_22, .slice A0_23 l0_23.length c0_23, .int .i64 a0_24]) (t := 29) ?_; intro gb203 hg w2 hbox hb; have BK203 := Aside0.mk (hbox); have GW203 := Aside0.mk (bge hg HB.out); have GE203 := Aside0.mk (bge hg HB.out); replace HB := Aside0.mk (bst HB.out hb); clear hb hbox hg)))
 go_loopg [3] k (fun kq v3 w' => ∃ (x3_1 : Int), v3 = .int .i64 x3_1 ∧ Aside0 (r27_rules.l0 kq x3_1 a0_0 l0_1 a0_2 a0_3 a0_4 a0_5 a0_6 a0_7 a0_8 a0_9 a0_10 a0_11 a0_12 l0_13 a0_14 a0_15 a0_16 a0_17 a0_18 a0_19 a0_20 a0_21 a0_22 l0_23 a0_24 = some r) ∧ Aside0 (kq ≤ k) ∧ Aside0 (w'.heap[gb203]? = some (.cells #[.int .i64 a0_0, (.slice A0_1 l0_1.length c0_1), .int .i64 a0_2, .int .i64 a0_3, .int .i64 a0_4, .int .i64 a0_5, .int .i64 a0_6, .int .i64 a0_7, .int .i64 a0_8, .int .i64 a0_9, .int .i64 a0_10, .int .i64 a0_11, .int .i64 a0_12, (.slice A0_13 l0_13.length c0_13), .int .u64 a0_14, .int .i64 a0_15, .int .i64 a0_16, .int .u64 a0_17, .int .i64 a0_18, .int .i64 a0_19, .int .u64 a0_20, .int .i64 a0_21, .int .i64 a0_22, (.slice A0_23 l0_23.length c0_23), .int .i64 a0_24] 29 (0, 0))) ∧ Aside0 (Below w.heap.size w w'))
 case atStart => exact ⟨(0), (by first | rfl | (simp; done) | (simp [*]; done)), H', ⟨Nat.le_refl _⟩, ⟨bkt BK203.out⟩, ⟨bel HB.out⟩⟩
 case round =>
  clear H'
  try clear p2
  obtain ⟨x3_1, rfl, HA, HK1, BK203, HB⟩ := hrel
  cases gk with
  | zero => exact absurd HA.out (by simp [r27_rules.l0])
  | succ k1 =>
   have H := HA.out
   clear HA
   simp only [r27_rules.l0] at H
   by_cases c3 : x3_1 < 3
   ·as_aux_lemma =>
    rw [if_pos c3] at H
    have c3b0 : decide (x3_1 < 3) = true := decide_eq_true c3
    clear c3
    by_cases c4 : x3_1 = 0
    ·as_aux_lemma =>
     subst c4
     have H1 : (if a0_14 = 0 then (r27_rules.j1 k1 0 true a0_0 l0_1 a0_2 a0_3 a0_4 a0_5 a0_6 a0_7 a0_8 a0_9 a0_10 a0_11 a0_12 l0_13 a0_14 a0_15 a0_16 a0_17 a0_18 a0_19 a0_20 a0_21 a0_22 l0_23 a0_24 a0_14 a0_15 a0_16) else (if a0_0 < 64 then (if 0 ≤ (IntKind.u64.wrap (a0_0)) then (r27_rules.j1 k1 0 ((shr .u64 a0_14 (IntKind.u64.wrap (a0_0))) != 0) a0_0 l0_1 a0_2 a0_3 a0_4 a0_5 a0_6 a0_7 a0_8 a0_9 a0_10 a0_11 a0_12 l0_13 a0_14 a0_15 a0_16 a0_17 a0_18 a0_19 a0_20 a0_21 a0_22 l0_23 a0_24 a0_14 a0_15 a0_16) else (none)) else (r27_rules.j1 k1 0 false a0_0 l0_1 a0_2 a0_3 a0_4 a0_5 a0_6 a0_7 a0_8 a0_9 a0_10 a0_11 a0_12 l0_13 a0_14 a0_15 a0_16 a0_17 a0_18 a0_19 a0_20 a0_21 a0_22 l0_23 a0_24 a0_14 a0_15 a0_16))) = some r := by rw [if_pos rfl] at H; exact H
     clear H
     have H := H1
     clear H1
     have HC5 := Aside0.mk H
     clear H
     have hcz6_0 := cz25 BK203.out
     have hfz6_0 := blk_frozen BK203.out
     go_upto_region 5 with (first | ((with_reducible refine gate_dst (N := 4) rfl ?_); refine bxe (cs := #[.int .u64 0, .int .i64 0, .int .i64 0]) (t := 26) ?_; intro gb204 hg w7 hbox hb; have BK204 := Aside0.mk (hbox); have GW204 := Aside0.mk (bge hg HB.out); have GE204 := Aside0.mk (bge hg HB.out); have NB203_204 := Aside0.mk ((bkl hg BK203.out)); have NB204_203 := Aside0.mk ((bkg hg BK203.out)); replace BK203 := Aside0.mk (bkb BK203.out hb); replace HB := Aside0.mk (bst HB.out hb); clear hb hbox hg; have hnb8 := NB204_203.out; have hnc8 := NB203_204.out; have hcz9_0 := cz3 BK204.out; have hfz9_0 := blk_frozen BK204.out))
     repeat (go_quiet (first | ((with_reducible refine gate_dst (N := 4) rfl ?_); refine bxe (cs := #[.int .u64 0, .int .i64 0, .int .i64 0]) (t := 26) ?_; intro gb204 hg w7 hbox hb; have BK204 := Aside0.mk (hbox); have GW204 := Aside0.mk (bge hg HB.out); have GE204 := Aside0.mk (bge hg HB.out); have NB203_204 := Aside0.mk ((bkl hg BK203.out)); have NB204_203 := Aside0.mk ((bkg hg BK203.out)); replace BK203 := Aside0.mk (bkb BK203.out hb); replace HB := Aside0.mk (bst HB.out hb); clear hb hbox hg; have hnb8 := NB204_203.out; have hnc8 := NB203_204.out; have hcz9_0 := cz3 BK204.out; have hfz9_0 := blk_frozen BK204.out)); go_upto_region 5 with (first | ((with_reducible refine gate_dst (N := 4) rfl ?_); refine bxe (cs := #[.int .u64 0, .int .i64 0, .int .i64 0]) (t := 26) ?_; intro gb204 hg w7 hbox hb; have BK204 := Aside0.mk (hbox); have GW204 := Aside0.mk (bge hg HB.out); have GE204 := Aside0.mk (bge hg HB.out); have NB203_204 := Aside0.mk ((bkl hg BK203.out)); have NB204_203 := Aside0.mk ((bkg hg BK203.out)); replace BK203 := Aside0.mk (bkb BK203.out hb); replace HB := Aside0.mk (bst HB.out hb); clear hb hbox hg; have hnb8 := NB204_203.out; have hnc8 := NB203_204.out; have hcz9_0 := cz3 BK204.out; have hfz9_0 := blk_frozen BK204.out)))
     (try simp only [Act.put, List.setIfInBounds_toArray, List.set_cons_zero, List.set_cons_succ])
     go_cut [14] (fun v14 wc => ∃ (kq : Nat) (x14_4 : Bool), v14 = .bool x14_4 ∧ Aside0 (r27_rules.j1 kq 0 x14_4 a0_0 l0_1 a0_2 a0_3 a0_4 a0_5 a0_6 a0_7 a0_8 a0_9 a0_10 a0_11 a0_12 l0_13 a0_14 a0_15 a0_16 a0_17 a0_18 a0_19 a0_20 a0_21 a0_22 l0_23 a0_24 a0_14 a0_15 a0_16 = some r) ∧ Aside0 (kq ≤ k1) ∧ Aside0 (wc.heap[gb203]? = some (.cells #[.int .i64 a0_0, (.slice A0_1 l0_1.length c0_1), .int .i64 a0_2, .int .i64 a0_3, .int .i64 a0_4, .int .i64 a0_5, .int .i64 a0_6, .int .i64 a0_7, .int .i64 a0_8, .int .i64 a0_9, .int .i64 a0_10, .int .i64 a0_11, .int .i64 a0_12, (.slice A0_13 l0_13.length c0_13), .int .u64 a0_14, .int .i64 a0_15, .int .i64 a0_16, .int .u64 a0_17, .int .i64 a0_18, .int .i64 a0_19, .int .u64 a0_20, .int .i64 a0_21, .int .i64 a0_22, (.slice A0_23 l0_23.length c0_23), .int .i64 a0_24] 29 (0, 0))) ∧ Aside0 (wc.heap[gb204]? = some (.cells #[.int .u64 a0_14, .int .i64 a0_15, .int .i64 a0_16] 26 (0, 0))) ∧ Aside0 (Below w.heap.size w wc))
     case first =>
      have H := HC5.out
      clear HC5
      by_cases c10 : a0_14 = 0
      ·as_aux_lemma =>
       rw [if_pos c10] at H
       have c10b0 : (a0_14 == 0) = true := beq_iff_eq.mpr c10
       have c10b1 : (a0_14 != 0) = false := bne_eq_false_iff_eq.mpr c10
       clear c10
       (first | rw [c10b0] | (simp only [i64_w, i32_w]; rw [c10b0]) | skip)
       have H' := Aside0.mk H
       clear H
       have hnb11 := NB204_203.out
       have hnc11 := NB203_204.out
       have hcz12_0 := cz3 BK204.out
       have hfz12_0 := blk_frozen BK204.out
       go_wp2
       repeat (go_quiet (fail); try go_wp2)
       go_meet
       case rel => exact ⟨_, (true), (by first | rfl | (simp; done) | (simp [*]; done)), H', ⟨by have := HK1.out; first | omega | exact Nat.le_refl _⟩, ⟨bkt BK203.out⟩, ⟨bkt BK204.out⟩, ⟨bel HB.out⟩⟩
      ·as_aux_lemma =>
       rw [if_neg c10] at H
       have c10b0 : (a0_14 == 0) = false := beq_eq_false_iff_ne.mpr c10
       have c10b1 : (a0_14 != 0) = true := bne_iff_ne.mpr c10
       (first | rw [c10b0] | (simp only [i64_w, i32_w]; rw [c10b0]) | skip)
       by_cases c13 : a0_0 < 64
       ·as_aux_lemma =>
        rw [if_pos c13] at H
        have c13b0 : decide (a0_0 < 64) = true := decide_eq_true c13
        clear c13
        obtain ⟨ji14, hji14⟩ : ∃ j_ : Int, (IntKind.u64.wrap (a0_0)) = j_ := ⟨_, rfl⟩
        replace H : (if 0 ≤ (ji14) then (r27_rules.j1 k1 0 ((shr .u64 a0_14 (ji14)) != 0) a0_0 l0_1 a0_2 a0_3 a0_4 a0_5 a0_6 a0_7 a0_8 a0_9 a0_10 a0_11 a0_12 l0_13 a0_14 a0_15 a0_16 a0_17 a0_18 a0_19 a0_20 a0_21 a0_22 l0_23 a0_24 a0_14 a0_15 a0_16) else (none)) = some r := by first | (rw [hji14] at H; exact H) | (simp only [hji14] at H ⊢; exact H)
        by_cases c15 : 0 ≤ (ji14)
        ·as_aux_lemma =>
         rw [if_pos c15] at H
         have c15b0 := eq_true c15
         have c15b1 : decide (0 ≤ (ji14)) = true := decide_eq_true c15
         clear c15
         obtain ⟨ji16, hji16⟩ : ∃ j_ : Int, (shr .u64 a0_14 (ji14)) = j_ := ⟨_, rfl⟩
         replace H : (r27_rules.j1 k1 0 ((ji16) != 0) a0_0 l0_1 a0_2 a0_3 a0_4 a0_5 a0_6 a0_7 a0_8 a0_9 a0_10 a0_11 a0_12 l0_13 a0_14 a0_15 a0_16 a0_17 a0_18 a0_19 a0_20 a0_21 a0_22 l0_23 a0_24 a0_14 a0_15 a0_16) = some r := by first | (rw [hji16] at H; exact H) | (simp only [hji16] at H ⊢; exact H)
         have hji16_ : (a0_14 / 2 ^ min (ji14).toNat 64) = ji16 := hji16
         have hji16z : (ji14) ≤ 64 → (a0_14 / 2 ^ (ji14).toNat) = ji16 := shr_small hji16
         have H' := Aside0.mk H
         clear H
         have hnb17 := NB204_203.out
         have hnc17 := NB203_204.out
         have hcz18_0 := cz3 BK204.out
         have hfz18_0 := blk_frozen BK204.out
         have hcz19_0 := cz25 BK203.out
         have hfz19_0 := blk_frozen BK203.out
         go_wp2
         repeat (go_quiet (fail); try go_wp2)
         go_meet
         case rel => exact ⟨_, (((ji16) != 0)), (by first | rfl | (simp; done) | (simp only [← hji16] <;> (first | rfl | simp)) | (simp [*]; done)), H', ⟨by have := HK1.out; first | omega | exact Nat.le_refl _⟩, ⟨bkt BK203.out⟩, ⟨bkt BK204.out⟩, ⟨bel HB.out⟩⟩
        ·rw [if_neg c15] at H
         exact absurd H (by simp)
       ·as_aux_lemma =>
        rw [if_neg c13] at H
        have c13b0 : decide (a0_0 < 64) = false := decide_eq_false c13
        clear c13
        have H' := Aside0.mk H
        clear H
        have hnb20 := NB204_203.out
        have hnc20 := NB203_204.out
        have hcz21_0 := cz3 BK204.out
        have hfz21_0 := blk_frozen BK204.out
        have hcz22_0 := cz25 BK203.out
        have hfz22_0 := blk_frozen BK203.out
        go_wp2
        repeat (go_quiet (fail); try go_wp2)
        go_meet
        case rel => exact ⟨_, (false), (by first | rfl | (simp; done) | (simp [*]; done)), H', ⟨by have := HK1.out; first | omega | exact Nat.le_refl _⟩, ⟨bkt BK203.out⟩, ⟨bkt BK204.out⟩, ⟨bel HB.out⟩⟩
     case rest =>
      clear HC5
      try clear c1
      try clear c2
      try clear p2
      try clear c3
      try clear c3b0
      try clear c4
      try clear c8
      try clear c10
      try clear c10b0
      try clear c10b1
      try clear c11
      try clear c13
      try clear c13b0
      try clear c15
      try clear c15b0
      try clear c15b1
      try clear c17
      try clear c20
      try clear hcz12_0
      try clear hcz18_0
      try clear hcz19_0
      try clear hcz21_0
      try clear hcz22_0
      try clear hcz6_0
      try clear hcz9_0
      try clear hfz12_0
      try clear hfz18_0
      try clear hfz19_0
      try clear hfz21_0
      try clear hfz22_0
      try clear hfz6_0
      try clear hfz9_0
      try clear p2
      obtain ⟨kq, x14_4, rfl, HA, HJ4, BK203, BK204, HB⟩ := hcut
      cases kq with
      | zero => exact absurd HA.out (by simp [r27_rules.j1])
      | succ kj4 =>
       have H := HA.out
       clear HA
       simp only [r27_rules.j1] at H
       by_cases c23 : x14_4 = true
       ·as_aux_lemma =>
        subst c23
        have H1 : (some 3) = some r := by rw [if_pos rfl] at H; exact H
        clear H
        have H := H1
        clear H1
        obtain rfl := Option.some.inj H
        go_wp2
        repeat (go_quiet (fail); try go_wp2)
        go_ret
        exact bfin (bel HB.out)
       ·as_aux_lemma =>
        replace c23 := Bool.eq_false_iff.mpr c23
        subst c23
        have H1 : ((r27_in.f a0_15 0 (wrap64 (a0_0 - 1))).bind fun t205 => (if t205 = true then ((r02_Has.f a0_14 a0_15).bind fun t206 => (if t206 = true then ((r27_in.f a0_16 1 32).bind fun t207 => (if t207 = true then (r27_rules.l0 kj4 (wrap64 (0 + 1)) a0_0 l0_1 a0_2 a0_3 a0_4 a0_5 a0_6 a0_7 a0_8 a0_9 a0_10 a0_11 a0_12 l0_13 a0_14 a0_15 a0_16 a0_17 a0_18 a0_19 a0_20 a0_21 a0_22 l0_23 a0_24) else (some 2))) else (some 2))) else (some 2))) = some r := by rw [if_neg (show ¬ (false = true) by decide)] at H; exact H
        clear H
        have H := H1
        clear H1
        replace H := Option.bind_eq_some_iff.mp H
        obtain ⟨t205, A240, H⟩ := H
        replace H : (if t205 = true then ((r02_Has.f a0_14 a0_15).bind fun t206 => (if t206 = true then ((r27_in.f a0_16 1 32).bind fun t207 => (if t207 = true then (r27_rules.l0 kj4 (wrap64 (0 + 1)) a0_0 l0_1 a0_2 a0_3 a0_4 a0_5 a0_6 a0_7 a0_8 a0_9 a0_10 a0_11 a0_12 l0_13 a0_14 a0_15 a0_16 a0_17 a0_18 a0_19 a0_20 a0_21 a0_22 l0_23 a0_24) else (some 2))) else (some 2))) else (some 2)) = some r := H
        have A24 := Aside0.mk A240
        clear A240
        by_cases c25 : t205 = true
        ·as_aux_lemma =>
         subst c25
         have H1 : ((r02_Has.f a0_14 a0_15).bind fun t206 => (if t206 = true then ((r27_in.f a0_16 1 32).bind fun t207 => (if t207 = true then (r27_rules.l0 kj4 (wrap64 (0 + 1)) a0_0 l0_1 a0_2 a0_3 a0_4 a0_5 a0_6 a0_7 a0_8 a0_9 a0_10 a0_11 a0_12 l0_13 a0_14 a0_15 a0_16 a0_17 a0_18 a0_19 a0_20 a0_21 a0_22 l0_23 a0_24) else (some 2))) else (some 2))) = some r := by rw [if_pos rfl] at H; exact H
         clear H
         have H := H1
         clear H1
         replace H := Option.bind_eq_some_iff.mp H
         obtain ⟨t206, A260, H⟩ := H
         replace H : (if t206 = true then ((r27_in.f a0_16 1 32).bind fun t207 => (if t207 = true then (r27_rules.l0 kj4 (wrap64 (0 + 1)) a0_0 l0_1 a0_2 a0_3 a0_4 a0_5 a0_6 a0_7 a0_8 a0_9 a0_10 a0_11 a0_12 l0_13 a0_14 a0_15 a0_16 a0_17 a0_18 a0_19 a0_20 a0_21 a0_22 l0_23 a0_24) else (some 2))) else (some 2)) = some r := H
         have A26 := Aside0.mk A260
         clear A260
         by_cases c27 : t206 = true
         ·as_aux_lemma =>
          subst c27
          have H1 : ((r27_in.f a0_16 1 32).bind fun t207 => (if t207 = true then (r27_rules.l0 kj4 (wrap64 (0 + 1)) a0_0 l0_1 a0_2 a0_3 a0_4 a0_5 a0_6 a0_7 a0_8 a0_9 a0_10 a0_11 a0_12 l0_13 a0_14 a0_15 a0_16 a0_17 a0_18 a0_19 a0_20 a0_21 a0_22 l0_23 a0_24) else (some 2))) = some r := by rw [if_pos rfl] at H; exact H
          clear H
          have H := H1
          clear H1
          replace H := Option.bind_eq_some_iff.mp H
          obtain ⟨t207, A280, H⟩ := H
          replace H : (if t207 = true then (r27_rules.l0 kj4 (wrap64 (0 + 1)) a0_0 l0_1 a0_2 a0_3 a0_4 a0_5 a0_6 a0_7 a0_8 a0_9 a0_10 a0_11 a0_12 l0_13 a0_14 a0_15 a0_16 a0_17 a0_18 a0_19 a0_20 a0_21 a0_22 l0_23 a0_24) else (some 2)) = some r := H
          have A28 := Aside0.mk A280
          clear A280
          by_cases c29 : t207 = true
          ·as_aux_lemma =>
           subst c29
           have H1 : (r27_rules.l0 kj4 (wrap64 (0 + 1)) a0_0 l0_1 a0_2 a0_3 a0_4 a0_5 a0_6 a0_7 a0_8 a0_9 a0_10 a0_11 a0_12 l0_13 a0_14 a0_15 a0_16 a0_17 a0_18 a0_19 a0_20 a0_21 a0_22 l0_23 a0_24) = some r := by rw [if_pos rfl] at H; exact H
           clear H
           have H := H1
           clear H1
           have H' := Aside0.mk H
           clear H
           have hnb30 := NB204_203.out
           have hnc30 := NB203_204.out
           have hcz31_0 := cz3 BK204.out
           have hfz31_0 := blk_frozen BK204.out
           have hcz32_0 := cz25 BK203.out
           have hfz32_0 := blk_frozen BK203.out
           go_wp2_with (first | (go_at_call 34; (with_reducible refine (r27_in.calls a0_15 0 (wrap64 (a0_0 - 1)) true _ A24.out).mono ?_); rintro e w' ⟨rfl, ⟨nd, rfl⟩⟩; (try clear A24); (try first | exact ⟨rfl, _, World.drewN_drewN _ _ _⟩ | exact ⟨rfl, _, Eq.trans (World.drewN_drewN _ _ _) (congrArg (World.drewN _) (Nat.add_assoc _ _ _))⟩)) | (go_at_call 46; (with_reducible refine (r02_Has.calls a0_14 a0_15 true _ A26.out).mono ?_); rintro e w' ⟨rfl, ⟨nd, rfl⟩⟩; (try clear A26); (try first | exact ⟨rfl, _, World.drewN_drewN _ _ _⟩ | exact ⟨rfl, _, Eq.trans (World.drewN_drewN _ _ _) (congrArg (World.drewN _) (Nat.add_assoc _ _ _))⟩)) | (go_at_call 34; (with_reducible refine (r27_in.calls a0_16 1 32 true _ A28.out).mono ?_); rintro e w' ⟨rfl, ⟨nd, rfl⟩⟩; (try clear A28); (try first | exact ⟨rfl, _, World.drewN_drewN _ _ _⟩ | exact ⟨rfl, _, Eq.trans (World.drewN_drewN _ _ _) (congrArg (World.drewN _) (Nat.add_assoc _ _ _))⟩)))
           repeat (go_quiet (first | (go_at_call 34; (with_reducible refine (r27_in.calls a0_15 0 (wrap64 (a0_0 - 1)) true _ A24.out).mono ?_); rintro e w' ⟨rfl, ⟨nd, rfl⟩⟩; (try clear A24); (try first | exact ⟨rfl, _, World.drewN_drewN _ _ _⟩ | exact ⟨rfl, _, Eq.trans (World.drewN_drewN _ _ _) (congrArg (World.drewN _) (Nat.add_assoc _ _ _))⟩)) | (go_at_call 46; (with_reducible refine (r02_Has.calls a0_14 a0_15 true _ A26.out).mono ?_); rintro e w' ⟨rfl, ⟨nd, rfl⟩⟩; (try clear A26); (try first | exact ⟨rfl, _, World.drewN_drewN _ _ _⟩ | exact ⟨rfl, _, Eq.trans (World.drewN_drewN _ _ _) (congrArg (World.drewN _) (Nat.add_assoc _ _ _))⟩)) | (go_at_call 34; (with_reducible refine (r27_in.calls a0_16 1 32 true _ A28.out).mono ?_); rintro e w' ⟨rfl, ⟨nd, rfl⟩⟩; (try clear A28); (try first | exact ⟨rfl, _, World.drewN_drewN _ _ _⟩ | exact ⟨rfl, _, Eq.trans (World.drewN_drewN _ _ _) (congrArg (World.drewN _) (Nat.add_assoc _ _ _))⟩))); try go_wp2_with (first | (go_at_call 34; (with_reducible refine (r27_in.calls a0_15 0 (wrap64 (a0_0 - 1)) true _ A24.out).mono ?_); rintro e w' ⟨rfl, ⟨nd, rfl⟩⟩; (try clear A24); (try first | exact ⟨rfl, _, World.drewN_drewN _ _ _⟩ | exact ⟨rfl, _, Eq.trans (World.drewN_drewN _ _ _) (congrArg (World.drewN _) (Nat.add_assoc _ _ _))⟩)) | (go_at_call 46; (with_reducible refine (r02_Has.calls a0_14 a0_15 true _ A26.out).mono ?_); rintro e w' ⟨rfl, ⟨nd, rfl⟩⟩; (try clear A26); (try first | exact ⟨rfl, _, World.drewN_drewN _ _ _⟩ | exact ⟨rfl, _, Eq.trans (World.drewN_drewN _ _ _) (congrArg (World.drewN _) (Nat.add_assoc _ _ _))⟩)) | (go_at_call 34; (with_reducible refine (r27_in.calls a0_16 1 32 true _ A28.out).mono ?_); rintro e w' ⟨rfl, ⟨nd, rfl⟩⟩; (try clear A28); (try first | exact ⟨rfl, _, World.drewN_drewN _ _ _⟩ | exact ⟨rfl, _, Eq.trans (World.drewN_drewN _ _ _) (congrArg (World.drewN _) (Nat.add_assoc _ _ _))⟩))))
           go_roundg kj4
           case measure => have := HK1.out; have := HJ4.out; omega
           case rel => exact ⟨(wrap64 (0 + 1)), (by first | rfl | (simp; done) | (simp [wrap64]; done)), H', ⟨by have := HK1.out; have := HJ4.out; omega⟩, ⟨bkt BK203.out⟩, ⟨bel HB.out⟩⟩
          ·as_aux_lemma =>
           replace c29 := Bool.eq_false_iff.mpr c29
           subst c29
           have H1 : (some 2) = some r := by rw [if_neg (show ¬ (false = true) by decide)] at H; exact H
           clear H
           have H := H1
           clear H1
           obtain rfl := Option.some.inj H
           have hnb33 := NB204_203.out
           have hnc33 := NB203_204.out
           have hcz34_0 := cz3 BK204.out
           have hfz34_0 := blk_frozen BK204.out
           have hcz35_0 := cz25 BK203.out
           have hfz35_0 := blk_frozen BK203.out
           go_wp2_with (first | (go_at_call 34; (with_reducible refine (r27_in.calls a0_15 0 (wrap64 (a0_0 - 1)) true _ A24.out).mono ?_); rintro e w' ⟨rfl, ⟨nd, rfl⟩⟩; (try clear A24); (try first | exact ⟨rfl, _, World.drewN_drewN _ _ _⟩ | exact ⟨rfl, _, Eq.trans (World.drewN_drewN _ _ _) (congrArg (World.drewN _) (Nat.add_assoc _ _ _))⟩)) | (go_at_call 46; (with_reducible refine (r02_Has.calls a0_14 a0_15 true _ A26.out).mono ?_); rintro e w' ⟨rfl, ⟨nd, rfl⟩⟩; (try clear A26); (try first | exact ⟨rfl, _, World.drewN_drewN _ _ _⟩ | exact ⟨rfl, _, Eq.trans (World.drewN_drewN _ _ _) (congrArg (World.drewN _) (Nat.add_assoc _ _ _))⟩)) | (go_at_call 34; (with_reducible refine (r27_in.calls a0_16 1 32 false _ A28.out).mono ?_); rintro e w' ⟨rfl, ⟨nd, rfl⟩⟩; (try clear A28); (try first | exact ⟨rfl, _, World.drewN_drewN _ _ _⟩ | exact ⟨rfl, _, Eq.trans (World.drewN_drewN _ _ _) (congrArg (World.drewN _) (Nat.add_assoc _ _ _))⟩)))
           repeat (go_quiet (first | (go_at_call 34; (with_reducible refine (r27_in.calls a0_15 0 (wrap64 (a0_0 - 1)) true _ A24.out).mono ?_); rintro e w' ⟨rfl, ⟨nd, rfl⟩⟩; (try clear A24); (try first | exact ⟨rfl, _, World.drewN_drewN _ _ _⟩ | exact ⟨rfl, _, Eq.trans (World.drewN_drewN _ _ _) (congrArg (World.drewN _) (Nat.add_assoc _ _ _))⟩)) | (go_at_call 46; (with_reducible refine (r02_Has.calls a0_14 a0_15 true _ A26.out).mono ?_); rintro e w' ⟨rfl, ⟨nd, rfl⟩⟩; (try clear A26); (try first | exact ⟨rfl, _, World.drewN_drewN _ _ _⟩ | exact ⟨rfl, _, Eq.trans (World.drewN_drewN _ _ _) (congrArg (World.drewN _) (Nat.add_assoc _ _ _))⟩)) | (go_at_call 34; (with_reducible refine (r27_in.calls a0_16 1 32 false _ A28.out).mono ?_); rintro e w' ⟨rfl, ⟨nd, rfl⟩⟩; (try clear A28); (try first | exact ⟨rfl, _, World.drewN_drewN _ _ _⟩ | exact ⟨rfl, _, Eq.trans (World.drewN_drewN _ _ _) (congrArg (World.drewN _) (Nat.add_assoc _ _ _))⟩))); try go_wp2_with (first | (go_at_call 34; (with_reducible refine (r27_in.calls a0_15 0 (wrap64 (a0_0 - 1)) true _ A24.out).mono ?_); rintro e w' ⟨rfl, ⟨nd, rfl⟩⟩; (try clear A24); (try first | exact ⟨rfl, _, World.drewN_drewN _ _ _⟩ | exact ⟨rfl, _, Eq.trans (World.drewN_drewN _ _ _) (congrArg (World.drewN _) (Nat.add_assoc _ _ _))⟩)) | (go_at_call 46; (with_reducible refine (r02_Has.calls a0_14 a0_15 true _ A26.out).mono ?_); rintro e w' ⟨rfl, ⟨nd, rfl⟩⟩; (try clear A26); (try first | exact ⟨rfl, _, World.drewN_drewN _ _ _⟩ | exact ⟨rfl, _, Eq.trans (World.drewN_drewN _ _ _) (congrArg (World.drewN _) (Nat.add_assoc _ _ _))⟩)) | (go_at_call 34; (with_reducible refine (r27_in.calls a0_16 1 32 false _ A28.out).mono ?_); rintro e w' ⟨rfl, ⟨nd, rfl⟩⟩; (try clear A28); (try first | exact ⟨rfl, _, World.drewN_drewN _ _ _⟩ | exact ⟨rfl, _, Eq.trans (World.drewN_drewN _ _ _) (congrArg (World.drewN _) (Nat.add_assoc _ _ _))⟩))))
           go_ret
           exact bfin (bel HB.out)
         ·as_aux_lemma =>
          replace c27 := Bool.eq_false_iff.mpr c27
          subst c27
          have H1 : (some 2) = some r := by rw [if_neg (show ¬ (false = true) by decide)] at H; exact H
          clear H
          have H := H1
          clear H1
          obtain rfl := Option.some.inj H
          have hnb36 := NB204_203.out
          have hnc36 := NB203_204.out
          have hcz37_0 := cz3 BK204.out
          have hfz37_0 := blk_frozen BK204.out
          have hcz38_0 := cz25 BK203.out
          have hfz38_0 := blk_frozen BK203.out
          go_wp2_with (first | (go_at_call 34; (with_reducible refine (r27_in.calls a0_15 0 (wrap64 (a0_0 - 1)) true _ A24.out).mono ?_); rintro e w' ⟨rfl, ⟨nd, rfl⟩⟩; (try clear A24); (try first | exact ⟨rfl, _, World.drewN_drewN _ _ _⟩ | exact ⟨rfl, _, Eq.trans (World.drewN_drewN _ _ _) (congrArg (World.drewN _) (Nat.add_assoc _ _ _))⟩)) | (go_at_call 46; (with_reducible refine (r02_Has.calls a0_14 a0_15 false _ A26.out).mono ?_); rintro e w' ⟨rfl, ⟨nd, rfl⟩⟩; (try clear A26); (try first | exact ⟨rfl, _, World.drewN_drewN _ _ _⟩ | exact ⟨rfl, _, Eq.trans (World.drewN_drewN _ _ _) (congrArg (World.drewN _) (Nat.add_assoc _ _ _))⟩)))
          repeat (go_quiet (first | (go_at_call 34; (with_reducible refine (r27_in.calls a0_15 0 (wrap64 (a0_0 - 1)) true _ A24.out).mono ?_); rintro e w' ⟨rfl, ⟨nd, rfl⟩⟩; (try clear A24); (try first | exact ⟨rfl, _, World.drewN_drewN _ _ _⟩ | exact ⟨rfl, _, Eq.trans (World.drewN_drewN _ _ _) (congrArg (World.drewN _) (Nat.add_assoc _ _ _))⟩)) | (go_at_call 46; (with_reducible refine (r02_Has.calls a0_14 a0_15 false _ A26.out).mono ?_); rintro e w' ⟨rfl, ⟨nd, rfl⟩⟩; (try clear A26); (try first | exact ⟨rfl, _, World.drewN_drewN _ _ _⟩ | exact ⟨rfl, _, Eq.trans (World.drewN_drewN _ _ _) (congrArg (World.drewN _) (Nat.add_assoc _ _ _))⟩))); try go_wp2_with (first | (go_at_call 34; (with_reducible refine (r27_in.calls a0_15 0 (wrap64 (a0_0 - 1)) true _ A24.out).mono ?_); rintro e w' ⟨rfl, ⟨nd, rfl⟩⟩; (try clear A24); (try first | exact ⟨rfl, _, World.drewN_drewN _ _ _⟩ | exact ⟨rfl, _, Eq.trans (World.drewN_drewN _ _ _) (congrArg (World.drewN _) (Nat.add_assoc _ _ _))⟩)) | (go_at_call 46; (with_reducible refine (r02_Has.calls a0_14 a0_15 false _ A26.out).mono ?_); rintro e w' ⟨rfl, ⟨nd, rfl⟩⟩; (try clear A26); (try first | exact ⟨rfl, _, World.drewN_drewN _ _ _⟩ | exact ⟨rfl, _, Eq.trans (World.drewN_drewN _ _ _) (congrArg (World.drewN _) (Nat.add_assoc _ _ _))⟩))))
          go_ret
          exact bfin (bel HB.out)
        ·as_aux_lemma =>
         replace c25 := Bool.eq_false_iff.mpr c25
         subst c25
         have H1 : (some 2) = some r := by rw [if_neg (show ¬ (false = true) by decide)] at H; exact H
         clear H
         have H := H1
         clear H1
         obtain rfl := Option.some.inj H
         have hnb39 := NB204_203.out
         have hnc39 := NB203_204.out
         have hcz40_0 := cz3 BK204.out
         have hfz40_0 := blk_frozen BK204.out
         have hcz41_0 := cz25 BK203.out
         have hfz41_0 := blk_frozen BK203.out
         go_wp2_with (first | (go_at_call 34; (with_reducible refine (r27_in.calls a0_15 0 (wrap64 (a0_0 - 1)) false _ A24.out).mono ?_); rintro e w' ⟨rfl, ⟨nd, rfl⟩⟩; (try clear A24); (try first | exact ⟨rfl, _, World.drewN_drewN _ _ _⟩ | exact ⟨rfl, _, Eq.trans (World.drewN_drewN _ _ _) (congrArg (World.drewN _) (Nat.add_assoc _ _ _))⟩)))
         repeat (go_quiet (first | (go_at_call 34; (with_reducible refine (r27_in.calls a0_15 0 (wrap64 (a0_0 - 1)) false _ A24.out).mono ?_); rintro e w' ⟨rfl, ⟨nd, rfl⟩⟩; (try clear A24); (try first | exact ⟨rfl, _, World.drewN_drewN _ _ _⟩ | exact ⟨rfl, _, Eq.trans (World.drewN_drewN _ _ _) (congrArg (World.drewN _) (Nat.add_assoc _ _ _))⟩))); try go_wp2_with (first | (go_at_call 34; (with_reducible refine (r27_in.calls a0_15 0 (wrap64 (a0_0 - 1)) false _ A24.out).mono ?_); rintro e w' ⟨rfl, ⟨nd, rfl⟩⟩; (try clear A24); (try first | exact ⟨rfl, _, World.drewN_drewN _ _ _⟩ | exact ⟨rfl, _, Eq.trans (World.drewN_drewN _ _ _) (congrArg (World.drewN _) (Nat.add_assoc _ _ _))⟩))))
         go_ret
         exact bfin (bel HB.out)
    ·as_aux_lemma =>
     have H1 : (if x3_1 = 1 then (if a0_17 = 0 then (r27_rules.j2 k1 x3_1 true a0_0 l0_1 a0_2 a0_3 a0_4 a0_5 a0_6 a0_7 a0_8 a0_9 a0_10 a0_11 a0_12 l0_13 a0_14 a0_15 a0_16 a0_17 a0_18 a0_19 a0_20 a0_21 a0_22 l0_23 a0_24 a0_17 a0_18 a0_19) else (if a0_0 < 64 then (if 0 ≤ (IntKind.u64.wrap (a0_0)) then (r27_rules.j2 k1 x3_1 ((shr .u64 a0_17 (IntKind.u64.wrap (a0_0))) != 0) a0_0 l0_1 a0_2 a0_3 a0_4 a0_5 a0_6 a0_7 a0_8 a0_9 a0_10 a0_11 a0_12 l0_13 a0_14 a0_15 a0_16 a0_17 a0_18 a0_19 a0_20 a0_21 a0_22 l0_23 a0_24 a0_17 a0_18 a0_19) else (none)) else (r27_rules.j2 k1 x3_1 false a0_0 l0_1 a0_2 a0_3 a0_4 a0_5 a0_6 a0_7 a0_8 a0_9 a0_10 a0_11 a0_12 l0_13 a0_14 a0_15 a0_16 a0_17 a0_18 a0_19 a0_20 a0_21 a0_22 l0_23 a0_24 a0_17 a0_18 a0_19))) else (if x3_1 = 2 then (if a0_20 = 0 then (r27_rules.j3 k1 x3_1 true a0_0 l0_1 a0_2 a0_3 a0_4 a0_5 a0_6 a0_7 a0_8 a0_9 a0_10 a0_11 a0_12 l0_13 a0_14 a0_15 a0_16 a0_17 a0_18 a0_19 a0_20 a0_21 a0_22 l0_23 a0_24 a0_20 a0_21 a0_22) else (if a0_0 < 64 then (if 0 ≤ (IntKind.u64.wrap (a0_0)) then (r27_rules.j3 k1 x3_1 ((shr .u64 a0_20 (IntKind.u64.wrap (a0_0))) != 0) a0_0 l0_1 a0_2 a0_3 a0_4 a0_5 a0_6 a0_7 a0_8 a0_9 a0_10 a0_11 a0_12 l0_13 a0_14 a0_15 a0_16 a0_17 a0_18 a0_19 a0_20 a0_21 a0_22 l0_23 a0_24 a0_20 a0_21 a0_22) else (none)) else (r27_rules.j3 k1 x3_1 false a0_0 l0_1 a0_2 a0_3 a0_4 a0_5 a0_6 a0_7 a0_8 a0_9 a0_10 a0_11 a0_12 l0_13 a0_14 a0_15 a0_16 a0_17 a0_18 a0_19 a0_20 a0_21 a0_22 l0_23 a0_24 a0_20 a0_21 a0_22))) else (none))) = some r := by rw [if_neg c4] at H; exact H
     clear H
     have H := H1
     clear H1
     by_cases c42 : x3_1 = 1
     ·as_aux_lemma =>
      subst c42
      have H1 : (if a0_17 = 0 then (r27_rules.j2 k1 1 true a0_0 l0_1 a0_2 a0_3 a0_4 a0_5 a0_6 a0_7 a0_8 a0_9 a0_10 a0_11 a0_12 l0_13 a0_14 a0_15 a0_16 a0_17 a0_18 a0_19 a0_20 a0_21 a0_22 l0_23 a0_24 a0_17 a0_18 a0_19) else (if a0_0 < 64 then (if 0 ≤ (IntKind.u64.wrap (a0_0)) then (r27_rules.j2 k1 1 ((shr .u64 a0_17 (IntKind.u64.wrap (a0_0))) != 0) a0_0 l0_1 a0_2 a0_3 a0_4 a0_5 a0_6 a0_7 a0_8 a0_9 a0_10 a0_11 a0_12 l0_13 a0_14 a0_15 a0_16 a0_17 a0_18 a0_19 a0_20 a0_21 a0_22 l0_23 a0_24 a0_17 a0_18 a0_19) else (none)) else (r27_rules.j2 k1 1 false a0_0 l0_1 a0_2 a0_3 a0_4 a0_5 a0_6 a0_7 a0_8 a0_9 a0_10 a0_11 a0_12 l0_13 a0_14 a0_15 a0_16 a0_17 a0_18 a0_19 a0_20 a0_21 a0_22 l0_23 a0_24 a0_17 a0_18 a0_19))) = some r := by rw [if_pos rfl] at H; exact H
      clear H
      have H := H1
      clear H1
      have HC43 := Aside0.mk H
      clear H
      have hcz44_0 := cz25 BK203.out
      have hfz44_0 := blk_frozen BK203.out
      go_upto_region 5 with (first | ((with_reducible refine gate_dst (N := 4) rfl ?_); refine bxe (cs := #[.int .u64 0, .int .i64 0, .int .i64 0]) (t := 26) ?_; intro gb208 hg w45 hbox hb; have BK208 := Aside0.mk (hbox); have GW208 := Aside0.mk (bge hg HB.out); have GE208 := Aside0.mk (bge hg HB.out); have NB203_208 := Aside0.mk ((bkl hg BK203.out)); have NB208_203 := Aside0.mk ((bkg hg BK203.out)); replace BK203 := Aside0.mk (bkb BK203.out hb); replace HB := Aside0.mk (bst HB.out hb); clear hb hbox hg; have hnb46 := NB208_203.out; have hnc46 := NB203_208.out; have hcz47_0 := cz3 BK208.out; have hfz47_0 := blk_frozen BK208.out))
      repeat (go_quiet (first | ((with_reducible refine gate_dst (N := 4) rfl ?_); refine bxe (cs := #[.int .u64 0, .int .i64 0, .int .i64 0]) (t := 26) ?_; intro gb208 hg w45 hbox hb; have BK208 := Aside0.mk (hbox); have GW208 := Aside0.mk (bge hg HB.out); have GE208 := Aside0.mk (bge hg HB.out); have NB203_208 := Aside0.mk ((bkl hg BK203.out)); have NB208_203 := Aside0.mk ((bkg hg BK203.out)); replace BK203 := Aside0.mk (bkb BK203.out hb); replace HB := Aside0.mk (bst HB.out hb); clear hb hbox hg; have hnb46 := NB208_203.out; have hnc46 := NB203_208.out; have hcz47_0 := cz3 BK208.out; have hfz47_0 := blk_frozen BK208.out)); go_upto_region 5 with (first | ((with_reducible refine gate_dst (N := 4) rfl ?_); refine bxe (cs := #[.int .u64 0, .int .i64 0, .int .i64 0]) (t := 26) ?_; intro gb208 hg w45 hbox hb; have BK208 := Aside0.mk (hbox); have GW208 := Aside0.mk (bge hg HB.out); have GE208 := Aside0.mk (bge hg HB.out); have NB203_208 := Aside0.mk ((bkl hg BK203.out)); have NB208_203 := Aside0.mk ((bkg hg BK203.out)); replace BK203 := Aside0.mk (bkb BK203.out hb); replace HB := Aside0.mk (bst HB.out hb); clear hb hbox hg; have hnb46 := NB208_203.out; have hnc46 := NB203_208.out; have hcz47_0 := cz3 BK208.out; have hfz47_0 := blk_frozen BK208.out)))
      (try simp only [Act.put, List.setIfInBounds_toArray, List.set_cons_zero, List.set_cons_succ])
      go_cut [14] (fun v14 wc => ∃ (kq : Nat) (x14_42 : Bool), v14 = .bool x14_42 ∧ Aside0 (r27_rules.j2 kq 1 x14_42 a0_0 l0_1 a0_2 a0_3 a0_4 a0_5 a0_6 a0_7 a0_8 a0_9 a0_10 a0_11 a0_12 l0_13 a0_14 a0_15 a0_16 a0_17 a0_18 a0_19 a0_20 a0_21 a0_22 l0_23 a0_24 a0_17 a0_18 a0_19 = some r) ∧ Aside0 (kq ≤ k1) ∧ Aside0 (wc.heap[gb203]? = some (.cells #[.int .i64 a0_0, (.slice A0_1 l0_1.length c0_1), .int .i64 a0_2, .int .i64 a0_3, .int .i64 a0_4, .int .i64 a0_5, .int .i64 a0_6, .int .i64 a0_7, .int .i64 a0_8, .int .i64 a0_9, .int .i64 a0_10, .int .i64 a0_11, .int .i64 a0_12, (.slice A0_13 l0_13.length c0_13), .int .u64 a0_14, .int .i64 a0_15, .int .i64 a0_16, .int .u64 a0_17, .int .i64 a0_18, .int .i64 a0_19, .int .u64 a0_20, .int .i64 a0_21, .int .i64 a0_22, (.slice A0_23 l0_23.length c0_23), .int .i64 a0_24] 29 (0, 0))) ∧ Aside0 (wc.heap[gb208]? = some (.cells #[.int .u64 a0_17, .int .i64 a0_18, .int .i64 a0_19] 26 (0, 0))) ∧ Aside0 (Below w.heap.size w wc))
      case first =>
       have H := HC43.out
       clear HC43
       by_cases c48 : a0_17 = 0
       ·as_aux_lemma =>
        rw [if_pos c48] at H
        have c48b0 : (a0_17 == 0) = true := beq_iff_eq.mpr c48
        have c48b1 : (a0_17 != 0) = false := bne_eq_false_iff_eq.mpr c48
        clear c48
        (first | rw [c48b0] | (simp only [i64_w, i32_w]; rw [c48b0]) | skip)
        have H' := Aside0.mk H
        clear H
        have hnb49 := NB208_203.out
        have hnc49 := NB203_208.out
        have hcz50_0 := cz3 BK208.out
        have hfz50_0 := blk_frozen BK208.out
        go_wp2
        repeat (go_quiet (fail); try go_wp2)
        go_meet
        case rel => exact ⟨_, (true), (by first | rfl | (simp; done) | (simp [*]; done)), H', ⟨by have := HK1.out; first | omega | exact Nat.le_refl _⟩, ⟨bkt BK203.out⟩, ⟨bkt BK208.out⟩, ⟨bel HB.out⟩⟩
       ·as_aux_lemma =>
        rw [if_neg c48] at H
        have c48b0 : (a0_17 == 0) = false := beq_eq_false_iff_ne.mpr c48
        have c48b1 : (a0_17 != 0) = true := bne_iff_ne.mpr c48
        (first | rw [c48b0] | (simp only [i64_w, i32_w]; rw [c48b0]) | skip)
        by_cases c51 : a0_0 < 64
        ·as_aux_lemma =>
         rw [if_pos c51] at H
         have c51b0 : decide (a0_0 < 64) = true := decide_eq_true c51
         clear c51
         obtain ⟨ji52, hji52⟩ : ∃ j_ : Int, (IntKind.u64.wrap (a0_0)) = j_ := ⟨_, rfl⟩
         replace H : (if 0 ≤ (ji52) then (r27_rules.j2 k1 1 ((shr .u64 a0_17 (ji52)) != 0) a0_0 l0_1 a0_2 a0_3 a0_4 a0_5 a0_6 a0_7 a0_8 a0_9 a0_10 a0_11 a0_12 l0_13 a0_14 a0_15 a0_16 a0_17 a0_18 a0_19 a0_20 a0_21 a0_22 l0_23 a0_24 a0_17 a0_18 a0_19) else (none)) = some r := by first | (rw [hji52] at H; exact H) | (simp only [hji52] at H ⊢; exact H)
         by_cases c53 : 0 ≤ (ji52)
         ·as_aux_lemma =>
          rw [if_pos c53] at H
          have c53b0 := eq_true c53
          have c53b1 : decide (0 ≤ (ji52)) = true := decide_eq_true c53
          clear c53
          obtain ⟨ji54, hji54⟩ : ∃ j_ : Int, (shr .u64 a0_17 (ji52)) = j_ := ⟨_, rfl⟩
          replace H : (r27_rules.j2 k1 1 ((ji54) != 0) a0_0 l0_1 a0_2 a0_3 a0_4 a0_5 a0_6 a0_7 a0_8 a0_9 a0_10 a0_11 a0_12 l0_13 a0_14 a0_15 a0_16 a0_17 a0_18 a0_19 a0_20 a0_21 a0_22 l0_23 a0_24 a0_17 a0_18 a0_19) = some r := by first | (rw [hji54] at H; exact H) | (simp only [hji54] at H ⊢; exact H)
          have hji54_ : (a0_17 / 2 ^ min (ji52).toNat 64) = ji54 := hji54
          have hji54z : (ji52) ≤ 64 → (a0_17 / 2 ^ (ji52).toNat) = ji54 := shr_small hji54
          have H' := Aside0.mk H
          clear H
          have hnb55 := NB208_203.out
          have hnc55 := NB203_208.out
          have hcz56_0 := cz3 BK208.out
          have hfz56_0 := blk_frozen BK208.out
          have hcz57_0 := cz25 BK203.out
          have hfz57_0 := blk_frozen BK203.out
          go_wp2
          repeat (go_quiet (fail); try go_wp2)
          go_meet
          case rel => exact ⟨_, (((ji54) != 0)), (by first | rfl | (simp; done) | (simp only [← hji54] <;> (first | rfl | simp)) | (simp [*]; done)), H', ⟨by have := HK1.out; first | omega | exact Nat.le_refl _⟩, ⟨bkt BK203.out⟩, ⟨bkt BK208.out⟩, ⟨bel HB.out⟩⟩
         ·rw [if_neg c53] at H
          exact absurd H (by simp)
        ·as_aux_lemma =>
         rw [if_neg c51] at H
         have c51b0 : decide (a0_0 < 64) = false := decide_eq_false c51
         clear c51
         have H' := Aside0.mk H
         clear H
         have hnb58 := NB208_203.out
         have hnc58 := NB203_208.out
         have hcz59_0 := cz3 BK208.out
         have hfz59_0 := blk_frozen BK208.out
         have hcz60_0 := cz25 BK203.out
         have hfz60_0 := blk_frozen BK203.out
         go_wp2
         repeat (go_quiet (fail); try go_wp2)
         go_meet
         case rel => exact ⟨_, (false), (by first | rfl | (simp; done) | (simp [*]; done)), H', ⟨by have := HK1.out; first | omega | exact Nat.le_refl _⟩, ⟨bkt BK203.out⟩, ⟨bkt BK208.out⟩, ⟨bel HB.out⟩⟩
      case rest =>
       clear HC43
       try clear c2
       try clear p2
       try clear c3
       try clear c4
       try clear c5
       try clear p6
       try clear c23
       try clear c25
       try clear c27
       try clear c29
       try clear c30
       try clear c33
       try clear c36
       try clear c39
       try clear c42
       try clear c46
       try clear c48
       try clear c48b0
       try clear c48b1
       try clear c49
       try clear c51
       try clear c51b0
       try clear c53
       try clear c53b0
       try clear c53b1
       try clear c55
       try clear c58
       try clear hcz31_0
       try clear hcz32_0
       try clear hcz34_0
       try clear hcz35_0
       try clear hcz37_0
       try clear hcz38_0
       try clear hcz40_0
       try clear hcz41_0
       try clear hcz44_0
       try clear hcz47_0
       try clear hcz50_0
       try clear hcz56_0
       try clear hcz57_0
       try clear hcz59_0
       try clear hcz60_0
       try clear hfz31_0
       try clear hfz32_0
       try clear hfz34_0
       try clear hfz35_0
       try clear hfz37_0
       try clear hfz38_0
       try clear hfz40_0
       try clear hfz41_0
       try clear hfz44_0
       try clear hfz47_0
       try clear hfz50_0
       try clear hfz56_0
       try clear hfz57_0
       try clear hfz59_0
       try clear hfz60_0
       try clear hfz9_0
       try clear p2
       obtain ⟨kq, x14_42, rfl, HA, HJ42, BK203, BK208, HB⟩ := hcut
       cases kq with
       | zero => exact absurd HA.out (by simp [r27_rules.j2])
       | succ kj42 =>
        have H := HA.out
        clear HA
        simp only [r27_rules.j2] at H
        by_cases c61 : x14_42 = true
        ·as_aux_lemma =>
         subst c61
         have H1 : (some 3) = some r := by rw [if_pos rfl] at H; exact H
         clear H
         have H := H1
         clear H1
         obtain rfl := Option.some.inj H
         go_wp2
         repeat (go_quiet (fail); try go_wp2)
         go_ret
         exact bfin (bel HB.out)
        ·as_aux_lemma =>
         replace c61 := Bool.eq_false_iff.mpr c61
         subst c61
         have H1 : ((r27_in.f a0_18 0 (wrap64 (a0_0 - 1))).bind fun t209 => (if t209 = true then ((r02_Has.f a0_17 a0_18).bind fun t210 => (if t210 = true then ((r27_in.f a0_19 1 32).bind fun t211 => (if t211 = true then (r27_rules.l0 kj42 (wrap64 (1 + 1)) a0_0 l0_1 a0_2 a0_3 a0_4 a0_5 a0_6 a0_7 a0_8 a0_9 a0_10 a0_11 a0_12 l0_13 a0_14 a0_15 a0_16 a0_17 a0_18 a0_19 a0_20 a0_21 a0_22 l0_23 a0_24) else (some 2))) else (some 2))) else (some 2))) = some r := by rw [if_neg (show ¬ (false = true) by decide)] at H; exact H
         clear H
         have H := H1
         clear H1
         replace H := Option.bind_eq_some_iff.mp H
         obtain ⟨t209, A620, H⟩ := H
         replace H : (if t209 = true then ((r02_Has.f a0_17 a0_18).bind fun t210 => (if t210 = true then ((r27_in.f a0_19 1 32).bind fun t211 => (if t211 = true then (r27_rules.l0 kj42 (wrap64 (1 + 1)) a0_0 l0_1 a0_2 a0_3 a0_4 a0_5 a0_6 a0_7 a0_8 a0_9 a0_10 a0_11 a0_12 l0_13 a0_14 a0_15 a0_16 a0_17 a0_18 a0_19 a0_20 a0_21 a0_22 l0_23 a0_24) else (some 2))) else (some 2))) else (some 2)) = some r := H
         have A62 := Aside0.mk A620
         clear A620
         by_cases c63 : t209 = true
         ·as_aux_lemma =>
          subst c63
          have H1 : ((r02_Has.f a0_17 a0_18).bind fun t210 => (if t210 = true then ((r27_in.f a0_19 1 32).bind fun t211 => (if t211 = true then (r27_rules.l0 kj42 (wrap64 (1 + 1)) a0_0 l0_1 a0_2 a0_3 a0_4 a0_5 a0_6 a0_7 a0_8 a0_9 a0_10 a0_11 a0_12 l0_13 a0_14 a0_15 a0_16 a0_17 a0_18 a0_19 a0_20 a0_21 a0_22 l0_23 a0_24) else (some 2))) else (some 2))) = some r := by rw [if_pos rfl] at H; exact H
          clear H
          have H := H1
          clear H1
          replace H := Option.bind_eq_some_iff.mp H
          obtain ⟨t210, A640, H⟩ := H
          replace H : (if t210 = true then ((r27_in.f a0_19 1 32).bind fun t211 => (if t211 = true then (r27_rules.l0 kj42 (wrap64 (1 + 1)) a0_0 l0_1 a0_2 a0_3 a0_4 a0_5 a0_6 a0_7 a0_8 a0_9 a0_10 a0_11 a0_12 l0_13 a0_14 a0_15 a0_16 a0_17 a0_18 a0_19 a0_20 a0_21 a0_22 l0_23 a0_24) else (some 2))) else (some 2)) = some r := H
          have A64 := Aside0.mk A640
          clear A640
          by_cases c65 : t210 = true
          ·as_aux_lemma =>
           subst c65
           have H1 : ((r27_in.f a0_19 1 32).bind fun t211 => (if t211 = true then (r27_rules.l0 kj42 (wrap64 (1 + 1)) a0_0 l0_1 a0_2 a0_3 a0_4 a0_5 a0_6 a0_7 a0_8 a0_9 a0_10 a0_11 a0_12 l0_13 a0_14 a0_15 a0_16 a0_17 a0_18 a0_19 a0_20 a0_21 a0_22 l0_23 a0_24) else (some 2))) = some r := by rw [if_pos rfl] at H; exact H
           clear H
           have H := H1
           clear H1
           replace H := Option.bind_eq_some_iff.mp H
           obtain ⟨t211, A660, H⟩ := H
           replace H : (if t211 = true then (r27_rules.l0 kj42 (wrap64 (1 + 1)) a0_0 l0_1 a0_2 a0_3 a0_4 a0_5 a0_6 a0_7 a0_8 a0_9 a0_10 a0_11 a0_12 l0_13 a0_14 a0_15 a0_16 a0_17 a0_18 a0_19 a0_20 a0_21 a0_22 l0_23 a0_24) else (some 2)) = some r := H
           have A66 := Aside0.mk A660
           clear A660
           by_cases c67 : t211 = true
           ·as_aux_lemma =>
            subst c67
            have H1 : (r27_rules.l0 kj42 (wrap64 (1 + 1)) a0_0 l0_1 a0_2 a0_3 a0_4 a0_5 a0_6 a0_7 a0_8 a0_9 a0_10 a0_11 a0_12 l0_13 a0_14 a0_15 a0_16 a0_17 a0_18 a0_19 a0_20 a0_21 a0_22 l0_23 a0_24) = some r := by rw [if_pos rfl] at H; exact H
            clear H
            have H := H1
            clear H1
            have H' := Aside0.mk H
            clear H
            have hnb68 := NB208_203.out
            have hnc68 := NB203_208.out
            have hcz69_0 := cz3 BK208.out
            have hfz69_0 := blk_frozen BK208.out
            have hcz70_0 := cz25 BK203.out
            have hfz70_0 := blk_frozen BK203.out
            go_wp2_with (first | (go_at_call 34; (with_reducible refine (r27_in.calls a0_18 0 (wrap64 (a0_0 - 1)) true _ A62.out).mono ?_); rintro e w' ⟨rfl, ⟨nd, rfl⟩⟩; (try clear A62); (try first | exact ⟨rfl, _, World.drewN_drewN _ _ _⟩ | exact ⟨rfl, _, Eq.trans (World.drewN_drewN _ _ _) (congrArg (World.drewN _) (Nat.add_assoc _ _ _))⟩)) | (go_at_call 46; (with_reducible refine (r02_Has.calls a0_17 a0_18 true _ A64.out).mono ?_); rintro e w' ⟨rfl, ⟨nd, rfl⟩⟩; (try clear A64); (try first | exact ⟨rfl, _, World.drewN_drewN _ _ _⟩ | exact ⟨rfl, _, Eq.trans (World.drewN_drewN _ _ _) (congrArg (World.drewN _) (Nat.add_assoc _ _ _))⟩)) | (go_at_call 34; (with_reducible refine (r27_in.calls a0_19 1 32 true _ A66.out).mono ?_); rintro e w' ⟨rfl, ⟨nd, rfl⟩⟩; (try clear A66); (try first | exact ⟨rfl, _, World.drewN_drewN _ _ _⟩ | exact ⟨rfl, _, Eq.trans (World.drewN_drewN _ _ _) (congrArg (World.drewN _) (Nat.add_assoc _ _ _))⟩)))
            repeat (go_quiet (first | (go_at_call 34; (with_reducible refine (r27_in.calls a0_18 0 (wrap64 (a0_0 - 1)) true _ A62.out).mono ?_); rintro e w' ⟨rfl, ⟨nd, rfl⟩⟩; (try clear A62); (try first | exact ⟨rfl, _, World.drewN_drewN _ _ _⟩ | exact ⟨rfl, _, Eq.trans (World.drewN_drewN _ _ _) (congrArg (World.drewN _) (Nat.add_assoc _ _ _))⟩)) | (go_at_call 46; (with_reducible refine (r02_Has.calls a0_17 a0_18 true _ A64.out).mono ?_); rintro e w' ⟨rfl, ⟨nd, rfl⟩⟩; (try clear A64); (try first | exact ⟨rfl, _, World.drewN_drewN _ _ _⟩ | exact ⟨rfl, _, Eq.trans (World.drewN_drewN _ _ _) (congrArg (World.drewN _) (Nat.add_assoc _ _ _))⟩)) | (go_at_call 34; (with_reducible refine (r27_in.calls a0_19 1 32 true _ A66.out).mono ?_); rintro e w' ⟨rfl, ⟨nd, rfl⟩⟩; (try clear A66); (try first | exact ⟨rfl, _, World.drewN_drewN _ _ _⟩ | exact ⟨rfl, _, Eq.trans (World.drewN_drewN _ _ _) (congrArg (World.drewN _) (Nat.add_assoc _ _ _))⟩))); try go_wp2_with (first | (go_at_call 34; (with_reducible refine (r27_in.calls a0_18 0 (wrap64 (a0_0 - 1)) true _ A62.out).mono ?_); rintro e w' ⟨rfl, ⟨nd, rfl⟩⟩; (try clear A62); (try first | exact ⟨rfl, _, World.drewN_drewN _ _ _⟩ | exact ⟨rfl, _, Eq.trans (World.drewN_drewN _ _ _) (congrArg (World.drewN _) (Nat.add_assoc _ _ _))⟩)) | (go_at_call 46; (with_reducible refine (r02_Has.calls a0_17 a0_18 true _ A64.out).mono ?_); rintro e w' ⟨rfl, ⟨nd, rfl⟩⟩; (try clear A64); (try first | exact ⟨rfl, _, World.drewN_drewN _ _ _⟩ | exact ⟨rfl, _, Eq.trans (World.drewN_drewN _ _ _) (congrArg (World.drewN _) (Nat.add_assoc _ _ _))⟩)) | (go_at_call 34; (with_reducible refine (r27_in.calls a0_19 1 32 true _ A66.out).mono ?_); rintro e w' ⟨rfl, ⟨nd, rfl⟩⟩; (try clear A66); (try first | exact ⟨rfl, _, World.drewN_drewN _ _ _⟩ | exact ⟨rfl, _, Eq.trans (World.drewN_drewN _ _ _) (congrArg (World.drewN _) (Nat.add_assoc _ _ _))⟩))))
            go_roundg kj42
            case measure => have := HK1.out; have := HJ42.out; omega
            case rel => exact ⟨(wrap64 (1 + 1)), (by first | rfl | (simp; done) | (simp [wrap64]; done)), H', ⟨by have := HK1.out; have := HJ42.out; omega⟩, ⟨bkt BK203.out⟩, ⟨bel HB.out⟩⟩
           ·as_aux_lemma =>
            replace c67 := Bool.eq_false_iff.mpr c67
            subst c67
            have H1 : (some 2) = some r := by rw [if_neg (show ¬ (false = true) by decide)] at H; exact H
            clear H
            have H := H1
            clear H1
            obtain rfl := Option.some.inj H
            have hnb71 := NB208_203.out
            have hnc71 := NB203_208.out
            have hcz72_0 := cz3 BK208.out
            have hfz72_0 := blk_frozen BK208.out
            have hcz73_0 := cz25 BK203.out
            have hfz73_0 := blk_frozen BK203.out
            go_wp2_with (first | (go_at_call 34; (with_reducible refine (r27_in.calls a0_18 0 (wrap64 (a0_0 - 1)) true _ A62.out).mono ?_); rintro e w' ⟨rfl, ⟨nd, rfl⟩⟩; (try clear A62); (try first | exact ⟨rfl, _, World.drewN_drewN _ _ _⟩ | exact ⟨rfl, _, Eq.trans (World.drewN_drewN _ _ _) (congrArg (World.drewN _) (Nat.add_assoc _ _ _))⟩)) | (go_at_call 46; (with_reducible refine (r02_Has.calls a0_17 a0_18 true _ A64.out).mono ?_); rintro e w' ⟨rfl, ⟨nd, rfl⟩⟩; (try clear A64); (try first | exact ⟨rfl, _, World.drewN_drewN _ _ _⟩ | exact ⟨rfl, _, Eq.trans (World.drewN_drewN _ _ _) (congrArg (World.drewN _) (Nat.add_assoc _ _ _))⟩)) | (go_at_call 34; (with_reducible refine (r27_in.calls a0_19 1 32 false _ A66.out).mono ?_); rintro e w' ⟨rfl, ⟨nd, rfl⟩⟩; (try clear A66); (try first | exact ⟨rfl, _, World.drewN_drewN _ _ _⟩ | exact ⟨rfl, _, Eq.trans (World.drewN_drewN _ _ _) (congrArg (World.drewN _) (Nat.add_assoc _ _ _))⟩)))
            repeat (go_quiet (first | (go_at_call 34; (with_reducible refine (r27_in.calls a0_18 0 (wrap64 (a0_0 - 1)) true _ A62.out).mono ?_); rintro e w' ⟨rfl, ⟨nd, rfl⟩⟩; (try clear A62); (try first | exact ⟨rfl, _, World.drewN_drewN _ _ _⟩ | exact ⟨rfl, _, Eq.trans (World.drewN_drewN _ _ _) (congrArg (World.drewN _) (Nat.add_assoc _ _ _))⟩)) | (go_at_call 46; (with_reducible refine (r02_Has.calls a0_17 a0_18 true _ A64.out).mono ?_); rintro e w' ⟨rfl, ⟨nd, rfl⟩⟩; (try clear A64); (try first | exact ⟨rfl, _, World.drewN_drewN _ _ _⟩ | exact ⟨rfl, _, Eq.trans (World.drewN_drewN _ _ _) (congrArg (World.drewN _) (Nat.add_assoc _ _ _))⟩)) | (go_at_call 34; (with_reducible refine (r27_in.calls a0_19 1 32 false _ A66.out).mono ?_); rintro e w' ⟨rfl, ⟨nd, rfl⟩⟩; (try clear A66); (try first | exact ⟨rfl, _, World.drewN_drewN _ _ _⟩ | exact ⟨rfl, _, Eq.trans (World.drewN_drewN _ _ _) (congrArg (World.drewN _) (Nat.add_assoc _ _ _))⟩))); try go_wp2_with (first | (go_at_call 34; (with_reducible refine (r27_in.calls a0_18 0 (wrap64 (a0_0 - 1)) true _ A62.out).mono ?_); rintro e w' ⟨rfl, ⟨nd, rfl⟩⟩; (try clear A62); (try first | exact ⟨rfl, _, World.drewN_drewN _ _ _⟩ | exact ⟨rfl, _, Eq.trans (World.drewN_drewN _ _ _) (congrArg (World.drewN _) (Nat.add_assoc _ _ _))⟩)) | (go_at_call 46; (with_reducible refine (r02_Has.calls a0_17 a0_18 true _ A64.out).mono ?_); rintro e w' ⟨rfl, ⟨nd, rfl⟩⟩; (try clear A64); (try first | exact ⟨rfl, _, World.drewN_drewN _ _ _⟩ | exact ⟨rfl, _, Eq.trans (World.drewN_drewN _ _ _) (congrArg (World.drewN _) (Nat.add_assoc _ _ _))⟩)) | (go_at_call 34; (with_reducible refine (r27_in.calls a0_19 1 32 false _ A66.out).mono ?_); rintro e w' ⟨rfl, ⟨nd, rfl⟩⟩; (try clear A66); (try first | exact ⟨rfl, _, World.drewN_drewN _ _ _⟩ | exact ⟨rfl, _, Eq.trans (World.drewN_drewN _ _ _) (congrArg (World.drewN _) (Nat.add_assoc _ _ _))⟩))))
            go_ret
            exact bfin (bel HB.out)
          ·as_aux_lemma =>
           replace c65 := Bool.eq_false_iff.mpr c65
           subst c65
           have H1 : (some 2) = some r := by rw [if_neg (show ¬ (false = true) by decide)] at H; exact H
           clear H
           have H := H1
           clear H1
           obtain rfl := Option.some.inj H
           have hnb74 := NB208_203.out
           have hnc74 := NB203_208.out
           have hcz75_0 := cz3 BK208.out
           have hfz75_0 := blk_frozen BK208.out
           have hcz76_0 := cz25 BK203.out
           have hfz76_0 := blk_frozen BK203.out
           go_wp2_with (first | (go_at_call 34; (with_reducible refine (r27_in.calls a0_18 0 (wrap64 (a0_0 - 1)) true _ A62.out).mono ?_); rintro e w' ⟨rfl, ⟨nd, rfl⟩⟩; (try clear A62); (try first | exact ⟨rfl, _, World.drewN_drewN _ _ _⟩ | exact ⟨rfl, _, Eq.trans (World.drewN_drewN _ _ _) (congrArg (World.drewN _) (Nat.add_assoc _ _ _))⟩)) | (go_at_call 46; (with_reducible refine (r02_Has.calls a0_17 a0_18 false _ A64.out).mono ?_); rintro e w' ⟨rfl, ⟨nd, rfl⟩⟩; (try clear A64); (try first | exact ⟨rfl, _, World.drewN_drewN _ _ _⟩ | exact ⟨rfl, _, Eq.trans (World.drewN_drewN _ _ _) (congrArg (World.drewN _) (Nat.add_assoc _ _ _))⟩)))
           repeat (go_quiet (first | (go_at_call 34; (with_reducible refine (r27_in.calls a0_18 0 (wrap64 (a0_0 - 1)) true _ A62.out).mono ?_); rintro e w' ⟨rfl, ⟨nd, rfl⟩⟩; (try clear A62); (try first | exact ⟨rfl, _, World.drewN_drewN _ _ _⟩ | exact ⟨rfl, _, Eq.trans (World.drewN_drewN _ _ _) (congrArg (World.drewN _) (Nat.add_assoc _ _ _))⟩)) | (go_at_call 46; (with_reducible refine (r02_Has.calls a0_17 a0_18 false _ A64.out).mono ?_); rintro e w' ⟨rfl, ⟨nd, rfl⟩⟩; (try clear A64); (try first | exact ⟨rfl, _, World.drewN_drewN _ _ _⟩ | exact ⟨rfl, _, Eq.trans (World.drewN_drewN _ _ _) (congrArg (World.drewN _) (Nat.add_assoc _ _ _))⟩))); try go_wp2_with (first | (go_at_call 34; (with_reducible refine (r27_in.calls a0_18 0 (wrap64 (a0_0 - 1)) true _ A62.out).mono ?_); rintro e w' ⟨rfl, ⟨nd, rfl⟩⟩; (try clear A62); (try first | exact ⟨rfl, _, World.drewN_drewN _ _ _⟩ | exact ⟨rfl, _, Eq.trans (World.drewN_drewN _ _ _) (congrArg (World.drewN _) (Nat.add_assoc _ _ _))⟩)) | (go_at_call 46; (with_reducible refine (r02_Has.calls a0_17 a0_18 false _ A64.out).mono ?_); rintro e w' ⟨rfl, ⟨nd, rfl⟩⟩; (try clear A64); (try first | exact ⟨rfl, _, World.drewN_drewN _ _ _⟩ | exact ⟨rfl, _, Eq.trans (World.drewN_drewN _ _ _) (congrArg (World.drewN _) (Nat.add_assoc _ _ _))⟩))))
           go_ret
           exact bfin (bel HB.out)
         ·as_aux_lemma =>
          replace c63 := Bool.eq_false_iff.mpr c63
          subst c63
          have H1 : (some 2) = some r := by rw [if_neg (show ¬ (false = true) by decide)] at H; exact H
          clear H
          have H := H1
          clear H1
          obtain rfl := Option.some.inj H
          have hnb77 := NB208_203.out
          have hnc77 := NB203_208.out
          have hcz78_0 := cz3 BK208.out
          have hfz78_0 := blk_frozen BK208.out
          have hcz79_0 := cz25 BK203.out
          have hfz79_0 := blk_frozen BK203.out
          go_wp2_with (first | (go_at_call 34; (with_reducible refine (r27_in.calls a0_18 0 (wrap64 (a0_0 - 1)) false _ A62.out).mono ?_); rintro e w' ⟨rfl, ⟨nd, rfl⟩⟩; (try clear A62); (try first | exact ⟨rfl, _, World.drewN_drewN _ _ _⟩ | exact ⟨rfl, _, Eq.trans (World.drewN_drewN _ _ _) (congrArg (World.drewN _) (Nat.add_assoc _ _ _))⟩)))
          repeat (go_quiet (first | (go_at_call 34; (with_reducible refine (r27_in.calls a0_18 0 (wrap64 (a0_0 - 1)) false _ A62.out).mono ?_); rintro e w' ⟨rfl, ⟨nd, rfl⟩⟩; (try clear A62); (try first | exact ⟨rfl, _, World.drewN_drewN _ _ _⟩ | exact ⟨rfl, _, Eq.trans (World.drewN_drewN _ _ _) (congrArg (World.drewN _) (Nat.add_assoc _ _ _))⟩))); try go_wp2_with (first | (go_at_call 34; (with_reducible refine (r27_in.calls a0_18 0 (wrap64 (a0_0 - 1)) false _ A62.out).mono ?_); rintro e w' ⟨rfl, ⟨nd, rfl⟩⟩; (try clear A62); (try first | exact ⟨rfl, _, World.drewN_drewN _ _ _⟩ | exact ⟨rfl, _, Eq.trans (World.drewN_drewN _ _ _) (congrArg (World.drewN _) (Nat.add_assoc _ _ _))⟩))))
          go_ret
          exact bfin (bel HB.out)
     ·as_aux_lemma =>
      have H1 : (if x3_1 = 2 then (if a0_20 = 0 then (r27_rules.j3 k1 x3_1 true a0_0 l0_1 a0_2 a0_3 a0_4 a0_5 a0_6 a0_7 a0_8 a0_9 a0_10 a0_11 a0_12 l0_13 a0_14 a0_15 a0_16 a0_17 a0_18 a0_19 a0_20 a0_21 a0_22 l0_23 a0_24 a0_20 a0_21 a0_22) else (if a0_0 < 64 then (if 0 ≤ (IntKind.u64.wrap (a0_0)) then (r27_rules.j3 k1 x3_1 ((shr .u64 a0_20 (IntKind.u64.wrap (a0_0))) != 0) a0_0 l0_1 a0_2 a0_3 a0_4 a0_5 a0_6 a0_7 a0_8 a0_9 a0_10 a0_11 a0_12 l0_13 a0_14 a0_15 a0_16 a0_17 a0_18 a0_19 a0_20 a0_21 a0_22 l0_23 a0_24 a0_20 a0_21 a0_22) else (none)) else (r27_rules.j3 k1 x3_1 false a0_0 l0_1 a0_2 a0_3 a0_4 a0_5 a0_6 a0_7 a0_8 a0_9 a0_10 a0_11 a0_12 l0_13 a0_14 a0_15 a0_16 a0_17 a0_18 a0_19 a0_20 a0_21 a0_22 l0_23 a0_24 a0_20 a0_21 a0_22))) else (none)) = some r := by rw [if_neg c42] at H; exact H
      clear H
      have H := H1
      clear H1
      by_cases c80 : x3_1 = 2
      ·as_aux_lemma =>
       subst c80
       have H1 : (if a0_20 = 0 then (r27_rules.j3 k1 2 true a0_0 l0_1 a0_2 a0_3 a0_4 a0_5 a0_6 a0_7 a0_8 a0_9 a0_10 a0_11 a0_12 l0_13 a0_14 a0_15 a0_16 a0_17 a0_18 a0_19 a0_20 a0_21 a0_22 l0_23 a0_24 a0_20 a0_21 a0_22) else (if a0_0 < 64 then (if 0 ≤ (IntKind.u64.wrap (a0_0)) then (r27_rules.j3 k1 2 ((shr .u64 a0_20 (IntKind.u64.wrap (a0_0))) != 0) a0_0 l0_1 a0_2 a0_3 a0_4 a0_5 a0_6 a0_7 a0_8 a0_9 a0_10 a0_11 a0_12 l0_13 a0_14 a0_15 a0_16 a0_17 a0_18 a0_19 a0_20 a0_21 a0_22 l0_23 a0_24 a0_20 a0_21 a0_22) else (none)) else (r27_rules.j3 k1 2 false a0_0 l0_1 a0_2 a0_3 a0_4 a0_5 a0_6 a0_7 a0_8 a0_9 a0_10 a0_11 a0_12 l0_13 a0_14 a0_15 a0_16 a0_17 a0_18 a0_19 a0_20 a0_21 a0_22 l0_23 a0_24 a0_20 a0_21 a0_22))) = some r := by rw [if_pos rfl] at H; exact H
       clear H
       have H := H1
       clear H1
       have HC81 := Aside0.mk H
       clear H
       have hcz82_0 := cz25 BK203.out
       have hfz82_0 := blk_frozen BK203.out
       go_upto_region 5 with (first | ((with_reducible refine gate_dst (N := 4) rfl ?_); refine bxe (cs := #[.int .u64 0, .int .i64 0, .int .i64 0]) (t := 26) ?_; intro gb212 hg w83 hbox hb; have BK212 := Aside0.mk (hbox); have GW212 := Aside0.mk (bge hg HB.out); have GE212 := Aside0.mk (bge hg HB.out); have NB203_212 := Aside0.mk ((bkl hg BK203.out)); have NB212_203 := Aside0.mk ((bkg hg BK203.out)); replace BK203 := Aside0.mk (bkb BK203.out hb); replace HB := Aside0.mk (bst HB.out hb); clear hb hbox hg; have hnb84 := NB212_203.out; have hnc84 := NB203_212.out; have hcz85_0 := cz3 BK212.out; have hfz85_0 := blk_frozen BK212.out))
       repeat (go_quiet (first | ((with_reducible refine gate_dst (N := 4) rfl ?_); refine bxe (cs := #[.int .u64 0, .int .i64 0, .int .i64 0]) (t := 26) ?_; intro gb212 hg w83 hbox hb; have BK212 := Aside0.mk (hbox); have GW212 := Aside0.mk (bge hg HB.out); have GE212 := Aside0.mk (bge hg HB.out); have NB203_212 := Aside0.mk ((bkl hg BK203.out)); have NB212_203 := Aside0.mk ((bkg hg BK203.out)); replace BK203 := Aside0.mk (bkb BK203.out hb); replace HB := Aside0.mk (bst HB.out hb); clear hb hbox hg; have hnb84 := NB212_203.out; have hnc84 := NB203_212.out; have hcz85_0 := cz3 BK212.out; have hfz85_0 := blk_frozen BK212.out)); go_upto_region 5 with (first | ((with_reducible refine gate_dst (N := 4) rfl ?_); refine bxe (cs := #[.int .u64 0, .int .i64 0, .int .i64 0]) (t := 26) ?_; intro gb212 hg w83 hbox hb; have BK212 := Aside0.mk (hbox); have GW212 := Aside0.mk (bge hg HB.out); have GE212 := Aside0.mk (bge hg HB.out); have NB203_212 := Aside0.mk ((bkl hg BK203.out)); have NB212_203 := Aside0.mk ((bkg hg BK203.out)); replace BK203 := Aside0.mk (bkb BK203.out hb); replace HB := Aside0.mk (bst HB.out hb); clear hb hbox hg; have hnb84 := NB212_203.out; have hnc84 := NB203_212.out; have hcz85_0 := cz3 BK212.out; have hfz85_0 := blk_frozen BK212.out)))
       (try simp only [Act.put, List.setIfInBounds_toArray, List.set_cons_zero, List.set_cons_succ])
       go_cut [14] (fun v14 wc => ∃ (kq : Nat) (x14_80 : Bool), v14 = .bool x14_80 ∧ Aside0 (r27_rules.j3 kq 2 x14_80 a0_0 l0_1 a0_2 a0_3 a0_4 a0_5 a0_6 a0_7 a0_8 a0_9 a0_10 a0_11 a0_12 l0_13 a0_14 a0_15 a0_16 a0_17 a0_18 a0_19 a0_20 a0_21 a0_22 l0_23 a0_24 a0_20 a0_21 a0_22 = some r) ∧ Aside0 (kq ≤ k1) ∧ Aside0 (wc.heap[gb203]? = some (.cells #[.int .i64 a0_0, (.slice A0_1 l0_1.length c0_1), .int .i64 a0_2, .int .i64 a0_3, .int .i64 a0_4, .int .i64 a0_5, .int .i64 a0_6, .int .i64 a0_7, .int .i64 a0_8, .int .i64 a0_9, .int .i64 a0_10, .int .i64 a0_11, .int .i64 a0_12, (.slice A0_13 l0_13.length c0_13), .int .u64 a0_14, .int .i64 a0_15, .int .i64 a0_16, .int .u64 a0_17, .int .i64 a0_18, .int .i64 a0_19, .int .u64 a0_20, .int .i64 a0_21, .int .i64 a0_22, (.slice A0_23 l0_23.length c0_23), .int .i64 a0_24] 29 (0, 0))) ∧ Aside0 (wc.heap[gb212]? = some (.cells #[.int .u64 a0_20, .int .i64 a0_21, .int .i64 a0_22] 26 (0, 0))) ∧ Aside0 (Below w.heap.size w wc))
       case first =>
        have H := HC81.out
        clear HC81
        by_cases c86 : a0_20 = 0
        ·as_aux_lemma =>
         rw [if_pos c86] at H
         have c86b0 : (a0_20 == 0) = true := beq_iff_eq.mpr c86
         have c86b1 : (a0_20 != 0) = false := bne_eq_false_iff_eq.mpr c86
         clear c86
         (first | rw [c86b0] | (simp only [i64_w, i32_w]; rw [c86b0]) | skip)
         have H' := Aside0.mk H
         clear H
         have hnb87 := NB212_203.out
         have hnc87 := NB203_212.out
         have hcz88_0 := cz3 BK212.out
         have hfz88_0 := blk_frozen BK212.out
         go_wp2
         repeat (go_quiet (fail); try go_wp2)
         go_meet
         case rel => exact ⟨_, (true), (by first | rfl | (simp; done) | (simp [*]; done)), H', ⟨by have := HK1.out; first | omega | exact Nat.le_refl _⟩, ⟨bkt BK203.out⟩, ⟨bkt BK212.out⟩, ⟨bel HB.out⟩⟩
        ·as_aux_lemma =>
         rw [if_neg c86] at H
         have c86b0 : (a0_20 == 0) = false := beq_eq_false_iff_ne.mpr c86
         have c86b1 : (a0_20 != 0) = true := bne_iff_ne.mpr c86
         (first | rw [c86b0] | (simp only [i64_w, i32_w]; rw [c86b0]) | skip)
         by_cases c89 : a0_0 < 64
         ·as_aux_lemma =>
          rw [if_pos c89] at H
          have c89b0 : decide (a0_0 < 64) = true := decide_eq_true c89
          clear c89
          obtain ⟨ji90, hji90⟩ : ∃ j_ : Int, (IntKind.u64.wrap (a0_0)) = j_ := ⟨_, rfl⟩
          replace H : (if 0 ≤ (ji90) then (r27_rules.j3 k1 2 ((shr .u64 a0_20 (ji90)) != 0) a0_0 l0_1 a0_2 a0_3 a0_4 a0_5 a0_6 a0_7 a0_8 a0_9 a0_10 a0_11 a0_12 l0_13 a0_14 a0_15 a0_16 a0_17 a0_18 a0_19 a0_20 a0_21 a0_22 l0_23 a0_24 a0_20 a0_21 a0_22) else (none)) = some r := by first | (rw [hji90] at H; exact H) | (simp only [hji90] at H ⊢; exact H)
          by_cases c91 : 0 ≤ (ji90)
          ·as_aux_lemma =>
           rw [if_pos c91] at H
           have c91b0 := eq_true c91
           have c91b1 : decide (0 ≤ (ji90)) = true := decide_eq_true c91
           clear c91
           obtain ⟨ji92, hji92⟩ : ∃ j_ : Int, (shr .u64 a0_20 (ji90)) = j_ := ⟨_, rfl⟩
           replace H : (r27_rules.j3 k1 2 ((ji92) != 0) a0_0 l0_1 a0_2 a0_3 a0_4 a0_5 a0_6 a0_7 a0_8 a0_9 a0_10 a0_11 a0_12 l0_13 a0_14 a0_15 a0_16 a0_17 a0_18 a0_19 a0_20 a0_21 a0_22 l0_23 a0_24 a0_20 a0_21 a0_22) = some r := by first | (rw [hji92] at H; exact H) | (simp only [hji92] at H ⊢; exact H)
           have hji92_ : (a0_20 / 2 ^ min (ji90).toNat 64) = ji92 := hji92
           have hji92z : (ji90) ≤ 64 → (a0_20 / 2 ^ (ji90).toNat) = ji92 := shr_small hji92
           have H' := Aside0.mk H
           clear H
           have hnb93 := NB212_203.out
           have hnc93 := NB203_212.out
           have hcz94_0 := cz3 BK212.out
           have hfz94_0 := blk_frozen BK212.out
           have hcz95_0 := cz25 BK203.out
           have hfz95_0 := blk_frozen BK203.out
           go_wp2
           repeat (go_quiet (fail); try go_wp2)
           go_meet
           case rel => exact ⟨_, (((ji92) != 0)), (by first | rfl | (simp; done) | (simp only [← hji92] <;> (first | rfl | simp)) | (simp [*]; done)), H', ⟨by have := HK1.out; first | omega | exact Nat.le_refl _⟩, ⟨bkt BK203.out⟩, ⟨bkt BK212.out⟩, ⟨bel HB.out⟩⟩
          ·rw [if_neg c91] at H
           exact absurd H (by simp)
         ·as_aux_lemma =>
          rw [if_neg c89] at H
          have c89b0 : decide (a0_0 < 64) = false := decide_eq_false c89
          clear c89
          have H' := Aside0.mk H
          clear H
          have hnb96 := NB212_203.out
          have hnc96 := NB203_212.out
          have hcz97_0 := cz3 BK212.out
          have hfz97_0 := blk_frozen BK212.out
          have hcz98_0 := cz25 BK203.out
          have hfz98_0 := blk_frozen BK203.out
          go_wp2
          repeat (go_quiet (fail); try go_wp2)
          go_meet
          case rel => exact ⟨_, (false), (by first | rfl | (simp; done) | (simp [*]; done)), H', ⟨by have := HK1.out; first | omega | exact Nat.le_refl _⟩, ⟨bkt BK203.out⟩, ⟨bkt BK212.out⟩, ⟨bel HB.out⟩⟩
       case rest =>
        clear HC81
        try clear p2
        try clear c4
        try clear c6
        try clear p6
        try clear c7
        try clear c8
        try clear c9
        try clear c42
        try clear c61
        try clear c63
        try clear p64
        try clear c65
        try clear c67
        try clear c68
        try clear c71
        try clear c74
        try clear c77
        try clear c80
        try clear c84
        try clear c86
        try clear c86b0
        try clear c86b1
        try clear c87
        try clear c89
        try clear c89b0
        try clear c91
        try clear c91b0
        try clear c91b1
        try clear c93
        try clear c96
        try clear hcz69_0
        try clear hcz70_0
        try clear hcz72_0
        try clear hcz73_0
        try clear hcz75_0
        try clear hcz76_0
        try clear hcz78_0
        try clear hcz79_0
        try clear hcz82_0
        try clear hcz85_0
        try clear hcz88_0
        try clear hcz94_0
        try clear hcz95_0
        try clear hcz97_0
        try clear hcz98_0
        try clear hfz69_0
        try clear hfz70_0
        try clear hfz72_0
        try clear hfz73_0
        try clear hfz75_0
        try clear hfz76_0
        try clear hfz78_0
        try clear hfz79_0
        try clear hfz82_0
        try clear hfz85_0
        try clear hfz88_0
        try clear hfz94_0
        try clear hfz95_0
        try clear hfz97_0
        try clear hfz98_0
        try clear hfz9_0
        try clear p2
        obtain ⟨kq, x14_80, rfl, HA, HJ80, BK203, BK212, HB⟩ := hcut
        cases kq with
        | zero => exact absurd HA.out (by simp [r27_rules.j3])
        | succ kj80 =>
         have H := HA.out
         clear HA
         simp only [r27_rules.j3] at H
         by_cases c99 : x14_80 = true
         ·as_aux_lemma =>
          subst c99
          have H1 : (some 3) = some r := by rw [if_pos rfl] at H; exact H
          clear H
          have H := H1
          clear H1
          obtain rfl := Option.some.inj H
          go_wp2
          repeat (go_quiet (fail); try go_wp2)
          go_ret
          exact bfin (bel HB.out)
         ·as_aux_lemma =>
          replace c99 := Bool.eq_false_iff.mpr c99
          subst c99
          have H1 : ((r27_in.f a0_21 0 (wrap64 (a0_0 - 1))).bind fun t213 => (if t213 = true then ((r02_Has.f a0_20 a0_21).bind fun t214 => (if t214 = true then ((r27_in.f a0_22 1 32).bind fun t215 => (if t215 = true then (r27_rules.l0 kj80 (wrap64 (2 + 1)) a0_0 l0_1 a0_2 a0_3 a0_4 a0_5 a0_6 a0_7 a0_8 a0_9 a0_10 a0_11 a0_12 l0_13 a0_14 a0_15 a0_16 a0_17 a0_18 a0_19 a0_20 a0_21 a0_22 l0_23 a0_24) else (some 2))) else (some 2))) else (some 2))) = some r := by rw [if_neg (show ¬ (false = true) by decide)] at H; exact H
          clear H
          have H := H1
          clear H1
          replace H := Option.bind_eq_some_iff.mp H
          obtain ⟨t213, A1000, H⟩ := H
          replace H : (if t213 = true then ((r02_Has.f a0_20 a0_21).bind fun t214 => (if t214 = true then ((r27_in.f a0_22 1 32).bind fun t215 => (if t215 = true then (r27_rules.l0 kj80 (wrap64 (2 + 1)) a0_0 l0_1 a0_2 a0_3 a0_4 a0_5 a0_6 a0_7 a0_8 a0_9 a0_10 a0_11 a0_12 l0_13 a0_14 a0_15 a0_16 a0_17 a0_18 a0_19 a0_20 a0_21 a0_22 l0_23 a0_24) else (some 2))) else (some 2))) else (some 2)) = some r := H
          have A100 := Aside0.mk A1000
          clear A1000
          by_cases c101 : t213 = true
          ·as_aux_lemma =>
           subst c101
           have H1 : ((r02_Has.f a0_20 a0_21).bind fun t214 => (if t214 = true then ((r27_in.f a0_22 1 32).bind fun t215 => (if t215 = true then (r27_rules.l0 kj80 (wrap64 (2 + 1)) a0_0 l0_1 a0_2 a0_3 a0_4 a0_5 a0_6 a0_7 a0_8 a0_9 a0_10 a0_11 a0_12 l0_13 a0_14 a0_15 a0_16 a0_17 a0_18 a0_19 a0_20 a0_21 a0_22 l0_23 a0_24) else (some 2))) else (some 2))) = some r := by rw [if_pos rfl] at H; exact H
           clear H
           have H := H1
           clear H1
           replace H := Option.bind_eq_some_iff.mp H
           obtain ⟨t214, A1020, H⟩ := H
           replace H : (if t214 = true then ((r27_in.f a0_22 1 32).bind fun t215 => (if t215 = true then (r27_rules.l0 kj80 (wrap64 (2 + 1)) a0_0 l0_1 a0_2 a0_3 a0_4 a0_5 a0_6 a0_7 a0_8 a0_9 a0_10 a0_11 a0_12 l0_13 a0_14 a0_15 a0_16 a0_17 a0_18 a0_19 a0_20 a0_21 a0_22 l0_23 a0_24) else (some 2))) else (some 2)) = some r := H
           have A102 := Aside0.mk A1020
           clear A1020
           by_cases c103 : t214 = true
           ·as_aux_lemma =>
            subst c103
            have H1 : ((r27_in.f a0_22 1 32).bind fun t215 => (if t215 = true then (r27_rules.l0 kj80 (wrap64 (2 + 1)) a0_0 l0_1 a0_2 a0_3 a0_4 a0_5 a0_6 a0_7 a0_8 a0_9 a0_10 a0_11 a0_12 l0_13 a0_14 a0_15 a0_16 a0_17 a0_18 a0_19 a0_20 a0_21 a0_22 l0_23 a0_24) else (some 2))) = some r := by rw [if_pos rfl] at H; exact H
            clear H
            have H := H1
            clear H1
            replace H := Option.bind_eq_some_iff.mp H
            obtain ⟨t215, A1040, H⟩ := H
            replace H : (if t215 = true then (r27_rules.l0 kj80 (wrap64 (2 + 1)) a0_0 l0_1 a0_2 a0_3 a0_4 a0_5 a0_6 a0_7 a0_8 a0_9 a0_10 a0_11 a0_12 l0_13 a0_14 a0_15 a0_16 a0_17 a0_18 a0_19 a0_20 a0_21 a0_22 l0_23 a0_24) else (some 2)) = some r := H
            have A104 := Aside0.mk A1040
            clear A1040
            by_cases c105 : t215 = true
            ·as_aux_lemma =>
             subst c105
             have H1 : (r27_rules.l0 kj80 (wrap64 (2 + 1)) a0_0 l0_1 a0_2 a0_3 a0_4 a0_5 a0_6 a0_7 a0_8 a0_9 a0_10 a0_11 a0_12 l0_13 a0_14 a0_15 a0_16 a0_17 a0_18 a0_19 a0_20 a0_21 a0_22 l0_23 a0_24) = some r := by rw [if_pos rfl] at H; exact H
             clear H
             have H := H1
             clear H1
             have H' := Aside0.mk H
             clear H
             have hnb106 := NB212_203.out
             have hnc106 := NB203_212.out
             have hcz107_0 := cz3 BK212.out
             have hfz107_0 := blk_frozen BK212.out
             have hcz108_0 := cz25 BK203.out
             have hfz108_0 := blk_frozen BK203.out
             go_wp2_with (first | (go_at_call 34; (with_reducible refine (r27_in.calls a0_21 0 (wrap64 (a0_0 - 1)) true _ A100.out).mono ?_); rintro e w' ⟨rfl, ⟨nd, rfl⟩⟩; (try clear A100); (try first | exact ⟨rfl, _, World.drewN_drewN _ _ _⟩ | exact ⟨rfl, _, Eq.trans (World.drewN_drewN _ _ _) (congrArg (World.drewN _) (Nat.add_assoc _ _ _))⟩)) | (go_at_call 46; (with_reducible refine (r02_Has.calls a0_20 a0_21 true _ A102.out).mono ?_); rintro e w' ⟨rfl, ⟨nd, rfl⟩⟩; (try clear A102); (try first | exact ⟨rfl, _, World.drewN_drewN _ _ _⟩ | exact ⟨rfl, _, Eq.trans (World.drewN_drewN _ _ _) (congrArg (World.drewN _) (Nat.add_assoc _ _ _))⟩)) | (go_at_call 34; (with_reducible refine (r27_in.calls a0_22 1 32 true _ A104.out).mono ?_); rintro e w' ⟨rfl, ⟨nd, rfl⟩⟩; (try clear A104); (try first | exact ⟨rfl, _, World.drewN_drewN _ _ _⟩ | exact ⟨rfl, _, Eq.trans (World.drewN_drewN _ _ _) (congrArg (World.drewN _) (Nat.add_assoc _ _ _))⟩)))
             repeat (go_quiet (first | (go_at_call 34; (with_reducible refine (r27_in.calls a0_21 0 (wrap64 (a0_0 - 1)) true _ A100.out).mono ?_); rintro e w' ⟨rfl, ⟨nd, rfl⟩⟩; (try clear A100); (try first | exact ⟨rfl, _, World.drewN_drewN _ _ _⟩ | exact ⟨rfl, _, Eq.trans (World.drewN_drewN _ _ _) (congrArg (World.drewN _) (Nat.add_assoc _ _ _))⟩)) | (go_at_call 46; (with_reducible refine (r02_Has.calls a0_20 a0_21 true _ A102.out).mono ?_); rintro e w' ⟨rfl, ⟨nd, rfl⟩⟩; (try clear A102); (try first | exact ⟨rfl, _, World.drewN_drewN _ _ _⟩ | exact ⟨rfl, _, Eq.trans (World.drewN_drewN _ _ _) (congrArg (World.drewN _) (Nat.add_assoc _ _ _))⟩)) | (go_at_call 34; (with_reducible refine (r27_in.calls a0_22 1 32 true _ A104.out).mono ?_); rintro e w' ⟨rfl, ⟨nd, rfl⟩⟩; (try clear A104); (try first | exact ⟨rfl, _, World.drewN_drewN _ _ _⟩ | exact ⟨rfl, _, Eq.trans (World.drewN_drewN _ _ _) (congrArg (World.drewN _) (Nat.add_assoc _ _ _))⟩))); try go_wp2_with (first | (go_at_call 34; (with_reducible refine (r27_in.calls a0_21 0 (wrap64 (a0_0 - 1)) true _ A100.out).mono ?_); rintro e w' ⟨rfl, ⟨nd, rfl⟩⟩; (try clear A100); (try first | exact ⟨rfl, _, World.drewN_drewN _ _ _⟩ | exact ⟨rfl, _, Eq.trans (World.drewN_drewN _ _ _) (congrArg (World.drewN _) (Nat.add_assoc _ _ _))⟩)) | (go_at_call 46; (with_reducible refine (r02_Has.calls a0_20 a0_21 true _ A102.out).mono ?_); rintro e w' ⟨rfl, ⟨nd, rfl⟩⟩; (try clear A102); (try first | exact ⟨rfl, _, World.drewN_drewN _ _ _⟩ | exact ⟨rfl, _, Eq.trans (World.drewN_drewN _ _ _) (congrArg (World.drewN _) (Nat.add_assoc _ _ _))⟩)) | (go_at_call 34; (with_reducible refine (r27_in.calls a0_22 1 32 true _ A104.out).mono ?_); rintro e w' ⟨rfl, ⟨nd, rfl⟩⟩; (try clear A104); (try first | exact ⟨rfl, _, World.drewN_drewN _ _ _⟩ | exact ⟨rfl, _, Eq.trans (World.drewN_drewN _ _ _) (congrArg (World.drewN _) (Nat.add_assoc _ _ _))⟩))))
             go_roundg kj80
             case measure => have := HK1.out; have := HJ80.out; omega
             case rel => exact ⟨(wrap64 (2 + 1)), (by first | rfl | (simp; done) | (simp [wrap64]; done)), H', ⟨by have := HK1.out; have := HJ80.out; omega⟩, ⟨bkt BK203.out⟩, ⟨bel HB.out⟩⟩
            ·as_aux_lemma =>
             replace c105 := Bool.eq_false_iff.mpr c105
             subst c105
             have H1 : (some 2) = some r := by rw [if_neg (show ¬ (false = true) by decide)] at H; exact H
             clear H
             have H := H1
             clear H1
             obtain rfl := Option.some.inj H
             have hnb109 := NB212_203.out
             have hnc109 := NB203_212.out
             have hcz110_0 := cz3 BK212.out
             have hfz110_0 := blk_frozen BK212.out
             have hcz111_0 := cz25 BK203.out
             have hfz111_0 := blk_frozen BK203.out
             go_wp2_with (first | (go_at_call 34; (with_reducible refine (r27_in.calls a0_21 0 (wrap64 (a0_0 - 1)) true _ A100.out).mono ?_); rintro e w' ⟨rfl, ⟨nd, rfl⟩⟩; (try clear A100); (try first | exact ⟨rfl, _, World.drewN_drewN _ _ _⟩ | exact ⟨rfl, _, Eq.trans (World.drewN_drewN _ _ _) (congrArg (World.drewN _) (Nat.add_assoc _ _ _))⟩)) | (go_at_call 46; (with_reducible refine (r02_Has.calls a0_20 a0_21 true _ A102.out).mono ?_); rintro e w' ⟨rfl, ⟨nd, rfl⟩⟩; (try clear A102); (try first | exact ⟨rfl, _, World.drewN_drewN _ _ _⟩ | exact ⟨rfl, _, Eq.trans (World.drewN_drewN _ _ _) (congrArg (World.drewN _) (Nat.add_assoc _ _ _))⟩)) | (go_at_call 34; (with_reducible refine (r27_in.calls a0_22 1 32 false _ A104.out).mono ?_); rintro e w' ⟨rfl, ⟨nd, rfl⟩⟩; (try clear A104); (try first | exact ⟨rfl, _, World.drewN_drewN _ _ _⟩ | exact ⟨rfl, _, Eq.trans (World.drewN_drewN _ _ _) (congrArg (World.drewN _) (Nat.add_assoc _ _ _))⟩)))
             repeat (go_quiet (first | (go_at_call 34; (with_reducible refine (r27_in.calls a0_21 0 (wrap64 (a0_0 - 1)) true _ A100.out).mono ?_); rintro e w' ⟨rfl, ⟨nd, rfl⟩⟩; (try clear A100); (try first | exact ⟨rfl, _, World.drewN_drewN _ _ _⟩ | exact ⟨rfl, _, Eq.trans (World.drewN_drewN _ _ _) (congrArg (World.drewN _) (Nat.add_assoc _ _ _))⟩)) | (go_at_call 46; (with_reducible refine (r02_Has.calls a0_20 a0_21 true _ A102.out).mono ?_); rintro e w' ⟨rfl, ⟨nd, rfl⟩⟩; (try clear A102); (try first | exact ⟨rfl, _, World.drewN_drewN _ _ _⟩ | exact ⟨rfl, _, Eq.trans (World.drewN_drewN _ _ _) (congrArg (World.drewN _) (Nat.add_assoc _ _ _))⟩)) | (go_at_call 34; (with_reducible refine (r27_in.calls a0_22 1 32 false _ A104.out).mono ?_); rintro e w' ⟨rfl, ⟨nd, rfl⟩⟩; (try clear A104); (try first | exact ⟨rfl, _, World.drewN_drewN _ _ _⟩ | exact ⟨rfl, _, Eq.trans (World.drewN_drewN _ _ _) (congrArg (World.drewN _) (Nat.add_assoc _ _ _))⟩))); try go_wp2_with (first | (go_at_call 34; (with_reducible refine (r27_in.calls a0_21 0 (wrap64 (a0_0 - 1)) true _ A100.out).mono ?_); rintro e w' ⟨rfl, ⟨nd, rfl⟩⟩; (try clear A100); (try first | exact ⟨rfl, _, World.drewN_drewN _ _ _⟩ | exact ⟨rfl, _, Eq.trans (World.drewN_drewN _ _ _) (congrArg (World.drewN _) (Nat.add_assoc _ _ _))⟩)) | (go_at_call 46; (with_reducible refine (r02_Has.calls a0_20 a0_21 true _ A102.out).mono ?_); rintro e w' ⟨rfl, ⟨nd, rfl⟩⟩; (try clear A102); (try first | exact ⟨rfl, _, World.drewN_drewN _ _ _⟩ | exact ⟨rfl, _, Eq.trans (World.drewN_drewN _ _ _) (congrArg (World.drewN _) (Nat.add_assoc _ _ _))⟩)) | (go_at_call 34; (with_reducible refine (r27_in.calls a0_22 1 32 false _ A104.out).mono ?_); rintro e w' ⟨rfl, ⟨nd, rfl⟩⟩; (try clear A104); (try first | exact ⟨rfl, _, World.drewN_drewN _ _ _⟩ | exact ⟨rfl, _, Eq.trans (World.drewN_drewN _ _ _) (congrArg (World.drewN _) (Nat.add_assoc _ _ _))⟩))))
             go_ret
             exact bfin (bel HB.out)
           ·as_aux_lemma =>
            replace c103 := Bool.eq_false_iff.mpr c103
            subst c103
            have H1 : (some 2) = some r := by rw [if_neg (show ¬ (false = true) by decide)] at H; exact H
            clear H
            have H := H1
            clear H1
            obtain rfl := Option.some.inj H
            have hnb112 := NB212_203.out
            have hnc112 := NB203_212.out
            have hcz113_0 := cz3 BK212.out
            have hfz113_0 := blk_frozen BK212.out
            have hcz114_0 := cz25 BK203.out
            have hfz114_0 := blk_frozen BK203.out
            go_wp2_with (first | (go_at_call 34; (with_reducible refine (r27_in.calls a0_21 0 (wrap64 (a0_0 - 1)) true _ A100.out).mono ?_); rintro e w' ⟨rfl, ⟨nd, rfl⟩⟩; (try clear A100); (try first | exact ⟨rfl, _, World.drewN_drewN _ _ _⟩ | exact ⟨rfl, _, Eq.trans (World.drewN_drewN _ _ _) (congrArg (World.drewN _) (Nat.add_assoc _ _ _))⟩)) | (go_at_call 46; (with_reducible refine (r02_Has.calls a0_20 a0_21 false _ A102.out).mono ?_); rintro e w' ⟨rfl, ⟨nd, rfl⟩⟩; (try clear A102); (try first | exact ⟨rfl, _, World.drewN_drewN _ _ _⟩ | exact ⟨rfl, _, Eq.trans (World.drewN_drewN _ _ _) (congrArg (World.drewN _) (Nat.add_assoc _ _ _))⟩)))
            repeat (go_quiet (first | (go_at_call 34; (with_reducible refine (r27_in.calls a0_21 0 (wrap64 (a0_0 - 1)) true _ A100.out).mono ?_); rintro e w' ⟨rfl, ⟨nd, rfl⟩⟩; (try clear A100); (try first | exact ⟨rfl, _, World.drewN_drewN _ _ _⟩ | exact ⟨rfl, _, Eq.trans (World.drewN_drewN _ _ _) (congrArg (World.drewN _) (Nat.add_assoc _ _ _))⟩)) | (go_at_call 46; (with_reducible refine (r02_Has.calls a0_20 a0_21 false _ A102.out).mono ?_); rintro e w' ⟨rfl, ⟨nd, rfl⟩⟩; (try clear A102); (try first | exact ⟨rfl, _, World.drewN_drewN _ _ _⟩ | exact ⟨rfl, _, Eq.trans (World.drewN_drewN _ _ _) (congrArg (World.drewN _) (Nat.add_assoc _ _ _))⟩))); try go_wp2_with (first | (go_at_call 34; (with_reducible refine (r27_in.calls a0_21 0 (wrap64 (a0_0 - 1)) true _ A100.out).mono ?_); rintro e w' ⟨rfl, ⟨nd, rfl⟩⟩; (try clear A100); (try first | exact ⟨rfl, _, World.drewN_drewN _ _ _⟩ | exact ⟨rfl, _, Eq.trans (World.drewN_drewN _ _ _) (congrArg (World.drewN _) (Nat.add_assoc _ _ _))⟩)) | (go_at_call 46; (with_reducible refine (r02_Has.calls a0_20 a0_21 false _ A102.out).mono ?_); rintro e w' ⟨rfl, ⟨nd, rfl⟩⟩; (try clear A102); (try first | exact ⟨rfl, _, World.drewN_drewN _ _ _⟩ | exact ⟨rfl, _, Eq.trans (World.drewN_drewN _ _ _) (congrArg (World.drewN _) (Nat.add_assoc _ _ _))⟩))))
            go_ret
            exact bfin (bel HB.out)
          ·as_aux_lemma =>
           replace c101 := Bool.eq_false_iff.mpr c101
           subst c101
           have H1 : (some 2) = some r := by rw [if_neg (show ¬ (false = true) by decide)] at H; exact H
           clear H
           have H := H1
           clear H1
           obtain rfl := Option.some.inj H
           have hnb115 := NB212_203.out
           have hnc115 := NB203_212.out
           have hcz116_0 := cz3 BK212.out
           have hfz116_0 := blk_frozen BK212.out
           have hcz117_0 := cz25 BK203.out
           have hfz117_0 := blk_frozen BK203.out
           go_wp2_with (first | (go_at_call 34; (with_reducible refine (r27_in.calls a0_21 0 (wrap64 (a0_0 - 1)) false _ A100.out).mono ?_); rintro e w' ⟨rfl, ⟨nd, rfl⟩⟩; (try clear A100); (try first | exact ⟨rfl, _, World.drewN_drewN _ _ _⟩ | exact ⟨rfl, _, Eq.trans (World.drewN_drewN _ _ _) (congrArg (World.drewN _) (Nat.add_assoc _ _ _))⟩)))
           repeat (go_quiet (first | (go_at_call 34; (with_reducible refine (r27_in.calls a0_21 0 (wrap64 (a0_0 - 1)) false _ A100.out).mono ?_); rintro e w' ⟨rfl, ⟨nd, rfl⟩⟩; (try clear A100); (try first | exact ⟨rfl, _, World.drewN_drewN _ _ _⟩ | exact ⟨rfl, _, Eq.trans (World.drewN_drewN _ _ _) (congrArg (World.drewN _) (Nat.add_assoc _ _ _))⟩))); try go_wp2_with (first | (go_at_call 34; (with_reducible refine (r27_in.calls a0_21 0 (wrap64 (a0_0 - 1)) false _ A100.out).mono ?_); rintro e w' ⟨rfl, ⟨nd, rfl⟩⟩; (try clear A100); (try first | exact ⟨rfl, _, World.drewN_drewN _ _ _⟩ | exact ⟨rfl, _, Eq.trans (World.drewN_drewN _ _ _) (congrArg (World.drewN _) (Nat.add_assoc _ _ _))⟩))))
           go_ret
           exact bfin (bel HB.out)
      ·have H1 : (none) = some r := by rw [if_neg c80] at H; exact H
       clear H
       have H := H1
       clear H1
       exact absurd H (by simp)
   ·as_aux_lemma =>
    rw [if_neg c3] at H
    have c3b0 : decide (x3_1 < 3) = false := decide_eq_false c3
    clear c3
    by_cases c118 : (l0_23.length : Int) > 8
    ·as_aux_lemma =>
     rw [if_pos c118] at H
     have c118b0 : decide (8 < (l0_23.length : Int)) = true := decide_eq_true c118
     have c118b1 : decide (8 < l0_23.length) = true := decide_eq_true (by omega)
     clear c118
     obtain rfl := Option.some.inj H
     have hcz119_0 := cz25 BK203.out
     have hfz119_0 := blk_frozen BK203.out
     go_wp2
     repeat (go_quiet (fail); try go_wp2)
     go_ret
     exact bfin (bel HB.out)
    ·as_aux_lemma =>
     rw [if_neg c118] at H
     have c118b0 : decide (8 < (l0_23.length : Int)) = false := decide_eq_false c118
     have c118b1 : decide (8 < l0_23.length) = false := decide_eq_false (by omega)
     clear c118
     have H' := Aside0.mk H
     clear H
     have hcz120_0 := cz25 BK203.out
     have hfz120_0 := blk_frozen BK203.out
     go_wp2
     repeat (go_quiet (fail); try go_wp2)
     go_loopg [5] k1 (fun kq v5 w' => ∃ (x5_2 : Int), v5 = .int .i64 x5_2 ∧ Aside0 (r27_rules.l1 kq x5_2 a0_0 l0_1 a0_2 a0_3 a0_4 a0_5 a0_6 a0_7 a0_8 a0_9 a0_10 a0_11 a0_12 l0_13 a0_14 a0_15 a0_16 a0_17 a0_18 a0_19 a0_20 a0_21 a0_22 l0_23 a0_24 = some r) ∧ Aside0 (kq ≤ k1) ∧ Aside0 (w'.heap[gb203]? = some (.cells #[.int .i64 a0_0, (.slice A0_1 l0_1.length c0_1), .int .i64 a0_2, .int .i64 a0_3, .int .i64 a0_4, .int .i64 a0_5, .int .i64 a0_6, .int .i64 a0_7, .int .i64 a0_8, .int .i64 a0_9, .int .i64 a0_10, .int .i64 a0_11, .int .i64 a0_12, (.slice A0_13 l0_13.length c0_13), .int .u64 a0_14, .int .i64 a0_15, .int .i64 a0_16, .int .u64 a0_17, .int .i64 a0_18, .int .i64 a0_19, .int .u64 a0_20, .int .i64 a0_21, .int .i64 a0_22, (.slice A0_23 l0_23.length c0_23), .int .i64 a0_24] 29 (0, 0))) ∧ Aside0 (Below w.heap.size w w'))
     case atStart => exact ⟨(0), (by first | rfl | (simp; done) | (simp [*]; done)), H', ⟨Nat.le_refl _⟩, ⟨bkt BK203.out⟩, ⟨bel HB.out⟩⟩
     case round =>
      clear H'
      try clear c1
      try clear p2
      try clear c3
      try clear c3b0
      try clear p6
      try clear c8
      try clear c9
      try clear c10
      try clear c11
      try clear p64
      try clear c80
      try clear c99
      try clear c101
      try clear c103
      try clear c105
      try clear c106
      try clear c109
      try clear c112
      try clear c115
      try clear c118
      try clear c118b0
      try clear c118b1
      try clear hcz107_0
      try clear hcz108_0
      try clear hcz110_0
      try clear hcz111_0
      try clear hcz113_0
      try clear hcz114_0
      try clear hcz116_0
      try clear hcz117_0
      try clear hcz119_0
      try clear hcz120_0
      try clear hfz107_0
      try clear hfz108_0
      try clear hfz110_0
      try clear hfz111_0
      try clear hfz113_0
      try clear hfz114_0
      try clear hfz116_0
      try clear hfz117_0
      try clear hfz119_0
      try clear hfz120_0
      try clear hfz78_0
      try clear hfz79_0
      try clear hfz82_0
      try clear hfz85_0
      try clear hfz88_0
      try clear hfz94_0
      try clear hfz95_0
      try clear hfz97_0
      try clear hfz98_0
      try clear hfz9_0
      try clear p2
      obtain ⟨x5_2, rfl, HA, HK2, BK203, HB⟩ := hrel
      cases gk with
      | zero => exact absurd HA.out (by simp [r27_rules.l1])
      | succ k2 =>
       have H := HA.out
       clear HA
       simp only [r27_rules.l1] at H
       by_cases c121 : x5_2 < (l0_23.length : Int)
       ·as_aux_lemma =>
        rw [if_pos c121] at H
        have c121b0 : decide (x5_2 < (l0_23.length : Int)) = true := decide_eq_true c121
        clear c121
        by_cases c122 : 0 ≤ x5_2
        ·as_aux_lemma =>
         rw [if_pos c122] at H
         have c122b0 : decide (0 ≤ x5_2) = true := decide_eq_true c122
         clear c122
         replace H := Option.bind_eq_some_iff.mp H
         obtain ⟨t217, A1230, H⟩ := H
         replace H : (if t217 = true then (if x5_2 > 0 then (if 0 ≤ (wrap64 (x5_2 - 1)) then (if (wrap64 (x5_2 - 1)) < (l0_23.length : Int) then (if (rd l0_23 x5_2) ≤ (rd l0_23 (wrap64 (x5_2 - 1))) then (some 8) else (r27_rules.l1 k2 (wrap64 (x5_2 + 1)) a0_0 l0_1 a0_2 a0_3 a0_4 a0_5 a0_6 a0_7 a0_8 a0_9 a0_10 a0_11 a0_12 l0_13 a0_14 a0_15 a0_16 a0_17 a0_18 a0_19 a0_20 a0_21 a0_22 l0_23 a0_24)) else (none)) else (none)) else (r27_rules.l1 k2 (wrap64 (x5_2 + 1)) a0_0 l0_1 a0_2 a0_3 a0_4 a0_5 a0_6 a0_7 a0_8 a0_9 a0_10 a0_11 a0_12 l0_13 a0_14 a0_15 a0_16 a0_17 a0_18 a0_19 a0_20 a0_21 a0_22 l0_23 a0_24)) else (some 2)) = some r := H
         have A123 := Aside0.mk A1230
         clear A1230
         by_cases c124 : t217 = true
         ·as_aux_lemma =>
          subst c124
          have H1 : (if x5_2 > 0 then (if 0 ≤ (wrap64 (x5_2 - 1)) then (if (wrap64 (x5_2 - 1)) < (l0_23.length : Int) then (if (rd l0_23 x5_2) ≤ (rd l0_23 (wrap64 (x5_2 - 1))) then (some 8) else (r27_rules.l1 k2 (wrap64 (x5_2 + 1)) a0_0 l0_1 a0_2 a0_3 a0_4 a0_5 a0_6 a0_7 a0_8 a0_9 a0_10 a0_11 a0_12 l0_13 a0_14 a0_15 a0_16 a0_17 a0_18 a0_19 a0_20 a0_21 a0_22 l0_23 a0_24)) else (none)) else (none)) else (r27_rules.l1 k2 (wrap64 (x5_2 + 1)) a0_0 l0_1 a0_2 a0_3 a0_4 a0_5 a0_6 a0_7 a0_8 a0_9 a0_10 a0_11 a0_12 l0_13 a0_14 a0_15 a0_16 a0_17 a0_18 a0_19 a0_20 a0_21 a0_22 l0_23 a0_24)) = some r := by rw [if_pos rfl] at H; exact H
          clear H
          have H := H1
          clear H1
          by_cases c125 : x5_2 > 0
          ·as_aux_lemma =>
           rw [if_pos c125] at H
           have c125b0 : decide (0 < x5_2) = true := decide_eq_true c125
           clear c125
           obtain ⟨ji126, hji126⟩ : ∃ j_ : Int, (wrap64 (x5_2 - 1)) = j_ := ⟨_, rfl⟩
           replace H : (if 0 ≤ (ji126) then (if (ji126) < (l0_23.length : Int) then (if (rd l0_23 x5_2) ≤ (rd l0_23 (ji126)) then (some 8) else (r27_rules.l1 k2 (wrap64 (x5_2 + 1)) a0_0 l0_1 a0_2 a0_3 a0_4 a0_5 a0_6 a0_7 a0_8 a0_9 a0_10 a0_11 a0_12 l0_13 a0_14 a0_15 a0_16 a0_17 a0_18 a0_19 a0_20 a0_21 a0_22 l0_23 a0_24)) else (none)) else (none)) = some r := by first | (rw [hji126] at H; exact H) | (simp only [hji126] at H ⊢; exact H)
           (try rw [hji126] at A123)
           have hji126w : (IntKind.i64.wrap (x5_2 - 1)) = ji126 := (i64_w _).trans hji126
           by_cases c127 : 0 ≤ (ji126)
           ·as_aux_lemma =>
            rw [if_pos c127] at H
            have c127b0 : decide (0 ≤ (ji126)) = true := decide_eq_true c127
            clear c127
            by_cases c128 : (ji126) < (l0_23.length : Int)
            ·as_aux_lemma =>
             rw [if_pos c128] at H
             have c128b0 : decide ((ji126) < (l0_23.length : Int)) = true := decide_eq_true c128
             clear c128
             by_cases c129 : (rd l0_23 x5_2) ≤ (rd l0_23 (ji126))
             ·as_aux_lemma =>
              rw [if_pos c129] at H
              have c129b0 : decide ((rd l0_23 x5_2) ≤ (rd l0_23 (ji126))) = true := decide_eq_true c129
              clear c129
              obtain rfl := Option.some.inj H
              have hcz130_0 := cz25 BK203.out
              have hfz130_0 := blk_frozen BK203.out
              have p216 : 0 ≤ (x5_2 : Int) := of_decide_eq_true (by first | (with_reducible assumption) | assumption)
              have q216 : x5_2 < (l0_23.length : Int) := of_decide_eq_true (by first | (with_reducible assumption) | assumption)
              obtain ⟨ad216, e216, hx216_0⟩ := Kd.at_int HR0_23.out x5_2 p216 q216
              cases e216
              replace hx216_0 := (HB.out.cell (World.block_lt_of_cell? w _ hx216_0)).trans hx216_0
              replace p216 := eq_true p216
              replace q216 := eq_true q216
              go_wp2_with (first | (go_at_call 34; (with_reducible refine (r27_in.calls (rd l0_23 x5_2) 1 99 true _ A123.out).mono ?_); rintro e w' ⟨rfl, ⟨nd, rfl⟩⟩; (try clear A123); (try first | exact ⟨rfl, _, World.drewN_drewN _ _ _⟩ | exact ⟨rfl, _, Eq.trans (World.drewN_drewN _ _ _) (congrArg (World.drewN _) (Nat.add_assoc _ _ _))⟩); have p218 : 0 ≤ (x5_2 : Int) := of_decide_eq_true (by first | (with_reducible assumption) | assumption); have q218 : x5_2 < (l0_23.length : Int) := of_decide_eq_true (by first | (with_reducible assumption) | assumption); obtain ⟨ad218, e218, hx218_0⟩ := Kd.at_int HR0_23.out x5_2 p218 q218; obtain rfl : ad216 = ad218 := (by injection e218); replace hx218_0 := (HB.out.cell (World.block_lt_of_cell? w _ hx218_0)).trans hx218_0; replace p218 := eq_true p218; replace q218 := eq_true q218; have p219 : 0 ≤ ((ji126) : Int) := of_decide_eq_true (by first | (with_reducible assumption) | assumption); have q219 : (ji126) < (l0_23.length : Int) := of_decide_eq_true (by first | (with_reducible assumption) | assumption); obtain ⟨ad219, e219, hx219_0⟩ := Kd.at_int HR0_23.out (ji126) p219 q219; obtain rfl : ad216 = ad219 := (by injection e219); replace hx219_0 := (HB.out.cell (World.block_lt_of_cell? w _ hx219_0)).trans hx219_0; replace p219 := eq_true p219; replace q219 := eq_true q219))
              repeat (go_quiet (first | (go_at_call 34; (with_reducible refine (r27_in.calls (rd l0_23 x5_2) 1 99 true _ A123.out).mono ?_); rintro e w' ⟨rfl, ⟨nd, rfl⟩⟩; (try clear A123); (try first | exact ⟨rfl, _, World.drewN_drewN _ _ _⟩ | exact ⟨rfl, _, Eq.trans (World.drewN_drewN _ _ _) (congrArg (World.drewN _) (Nat.add_assoc _ _ _))⟩); have p218 : 0 ≤ (x5_2 : Int) := of_decide_eq_true (by first | (with_reducible assumption) | assumption); have q218 : x5_2 < (l0_23.length : Int) := of_decide_eq_true (by first | (with_reducible assumption) | assumption); obtain ⟨ad218, e218, hx218_0⟩ := Kd.at_int HR0_23.out x5_2 p218 q218; obtain rfl : ad216 = ad218 := (by injection e218); replace hx218_0 := (HB.out.cell (World.block_lt_of_cell? w _ hx218_0)).trans hx218_0; replace p218 := eq_true p218; replace q218 := eq_true q218; have p219 : 0 ≤ ((ji126) : Int) := of_decide_eq_true (by first | (with_reducible assumption) | assumption); have q219 : (ji126) < (l0_23.length : Int) := of_decide_eq_true (by first | (with_reducible assumption) | assumption); obtain ⟨ad219, e219, hx219_0⟩ := Kd.at_int HR0_23.out (ji126) p219 q219; obtain rfl : ad216 = ad219 := (by injection e219); replace hx219_0 := (HB.out.cell (World.block_lt_of_cell? w _ hx219_0)).trans hx219_0; replace p219 := eq_true p219; replace q219 := eq_true q219)); try go_wp2_with (first | (go_at_call 34; (with_reducible refine (r27_in.calls (rd l0_23 x5_2) 1 99 true _ A123.out).mono ?_); rintro e w' ⟨rfl, ⟨nd, rfl⟩⟩; (try clear A123); (try first | exact ⟨rfl, _, World.drewN_drewN _ _ _⟩ | exact ⟨rfl, _, Eq.trans (World.drewN_drewN _ _ _) (congrArg (World.drewN _) (Nat.add_assoc _ _ _))⟩); have p218 : 0 ≤ (x5_2 : Int) := of_decide_eq_true (by first | (with_reducible assumption) | assumption); have q218 : x5_2 < (l0_23.length : Int) := of_decide_eq_true (by first | (with_reducible assumption) | assumption); obtain ⟨ad218, e218, hx218_0⟩ := Kd.at_int HR0_23.out x5_2 p218 q218; obtain rfl : ad216 = ad218 := (by injection e218); replace hx218_0 := (HB.out.cell (World.block_lt_of_cell? w _ hx218_0)).trans hx218_0; replace p218 := eq_true p218; replace q218 := eq_true q218; have p219 : 0 ≤ ((ji126) : Int) := of_decide_eq_true (by first | (with_reducible assumption) | assumption); have q219 : (ji126) < (l0_23.length : Int) := of_decide_eq_true (by first | (with_reducible assumption) | assumption); obtain ⟨ad219, e219, hx219_0⟩ := Kd.at_int HR0_23.out (ji126) p219 q219; obtain rfl : ad216 = ad219 := (by injection e219); replace hx219_0 := (HB.out.cell (World.block_lt_of_cell? w _ hx219_0)).trans hx219_0; replace p219 := eq_true p219; replace q219 := eq_true q219)))
              go_ret
              exact ⟨by first | rfl | (simp [errW_none, errW_some] <;> rfl) | (simp only [← hji126]; first | rfl | (simp [errW_none, errW_some] <;> rfl)) | (simp [*, errW_none, errW_some] <;> rfl), bel HB.out⟩
             ·as_aux_lemma =>
              rw [if_neg c129] at H
              have c129b0 : decide ((rd l0_23 x5_2) ≤ (rd l0_23 (ji126))) = false := decide_eq_false c129
              clear c129
              have H' := Aside0.mk H
              clear H
              have hcz131_0 := cz25 BK203.out
              have hfz131_0 := blk_frozen BK203.out
              have p216 : 0 ≤ (x5_2 : Int) := of_decide_eq_true (by first | (with_reducible assumption) | assumption)
              have q216 : x5_2 < (l0_23.length : Int) := of_decide_eq_true (by first | (with_reducible assumption) | assumption)
              obtain ⟨ad216, e216, hx216_0⟩ := Kd.at_int HR0_23.out x5_2 p216 q216
              cases e216
              replace hx216_0 := (HB.out.cell (World.block_lt_of_cell? w _ hx216_0)).trans hx216_0
              replace p216 := eq_true p216
              replace q216 := eq_true q216
              go_wp2_with (first | (go_at_call 34; (with_reducible refine (r27_in.calls (rd l0_23 x5_2) 1 99 true _ A123.out).mono ?_); rintro e w' ⟨rfl, ⟨nd, rfl⟩⟩; (try clear A123); (try first | exact ⟨rfl, _, World.drewN_drewN _ _ _⟩ | exact ⟨rfl, _, Eq.trans (World.drewN_drewN _ _ _) (congrArg (World.drewN _) (Nat.add_assoc _ _ _))⟩); have p218 : 0 ≤ (x5_2 : Int) := of_decide_eq_true (by first | (with_reducible assumption) | assumption); have q218 : x5_2 < (l0_23.length : Int) := of_decide_eq_true (by first | (with_reducible assumption) | assumption); obtain ⟨ad218, e218, hx218_0⟩ := Kd.at_int HR0_23.out x5_2 p218 q218; obtain rfl : ad216 = ad218 := (by injection e218); replace hx218_0 := (HB.out.cell (World.block_lt_of_cell? w _ hx218_0)).trans hx218_0; replace p218 := eq_true p218; replace q218 := eq_true q218; have p219 : 0 ≤ ((ji126) : Int) := of_decide_eq_true (by first | (with_reducible assumption) | assumption); have q219 : (ji126) < (l0_23.length : Int) := of_decide_eq_true (by first | (with_reducible assumption) | assumption); obtain ⟨ad219, e219, hx219_0⟩ := Kd.at_int HR0_23.out (ji126) p219 q219; obtain rfl : ad216 = ad219 := (by injection e219); replace hx219_0 := (HB.out.cell (World.block_lt_of_cell? w _ hx219_0)).trans hx219_0; replace p219 := eq_true p219; replace q219 := eq_true q219))
              repeat (go_quiet (first | (go_at_call 34; (with_reducible refine (r27_in.calls (rd l0_23 x5_2) 1 99 true _ A123.out).mono ?_); rintro e w' ⟨rfl, ⟨nd, rfl⟩⟩; (try clear A123); (try first | exact ⟨rfl, _, World.drewN_drewN _ _ _⟩ | exact ⟨rfl, _, Eq.trans (World.drewN_drewN _ _ _) (congrArg (World.drewN _) (Nat.add_assoc _ _ _))⟩); have p218 : 0 ≤ (x5_2 : Int) := of_decide_eq_true (by first | (with_reducible assumption) | assumption); have q218 : x5_2 < (l0_23.length : Int) := of_decide_eq_true (by first | (with_reducible assumption) | assumption); obtain ⟨ad218, e218, hx218_0⟩ := Kd.at_int HR0_23.out x5_2 p218 q218; obtain rfl : ad216 = ad218 := (by injection e218); replace hx218_0 := (HB.out.cell (World.block_lt_of_cell? w _ hx218_0)).trans hx218_0; replace p218 := eq_true p218; replace q218 := eq_true q218; have p219 : 0 ≤ ((ji126) : Int) := of_decide_eq_true (by first | (with_reducible assumption) | assumption); have q219 : (ji126) < (l0_23.length : Int) := of_decide_eq_true (by first | (with_reducible assumption) | assumption); obtain ⟨ad219, e219, hx219_0⟩ := Kd.at_int HR0_23.out (ji126) p219 q219; obtain rfl : ad216 = ad219 := (by injection e219); replace hx219_0 := (HB.out.cell (World.block_lt_of_cell? w _ hx219_0)).trans hx219_0; replace p219 := eq_true p219; replace q219 := eq_true q219)); try go_wp2_with (first | (go_at_call 34; (with_reducible refine (r27_in.calls (rd l0_23 x5_2) 1 99 true _ A123.out).mono ?_); rintro e w' ⟨rfl, ⟨nd, rfl⟩⟩; (try clear A123); (try first | exact ⟨rfl, _, World.drewN_drewN _ _ _⟩ | exact ⟨rfl, _, Eq.trans (World.drewN_drewN _ _ _) (congrArg (World.drewN _) (Nat.add_assoc _ _ _))⟩); have p218 : 0 ≤ (x5_2 : Int) := of_decide_eq_true (by first | (with_reducible assumption) | assumption); have q218 : x5_2 < (l0_23.length : Int) := of_decide_eq_true (by first | (with_reducible assumption) | assumption); obtain ⟨ad218, e218, hx218_0⟩ := Kd.at_int HR0_23.out x5_2 p218 q218; obtain rfl : ad216 = ad218 := (by injection e218); replace hx218_0 := (HB.out.cell (World.block_lt_of_cell? w _ hx218_0)).trans hx218_0; replace p218 := eq_true p218; replace q218 := eq_true q218; have p219 : 0 ≤ ((ji126) : Int) := of_decide_eq_true (by first | (with_reducible assumption) | assumption); have q219 : (ji126) < (l0_23.length : Int) := of_decide_eq_true (by first | (with_reducible assumption) | assumption); obtain ⟨ad219, e219, hx219_0⟩ := Kd.at_int HR0_23.out (ji126) p219 q219; obtain rfl : ad216 = ad219 := (by injection e219); replace hx219_0 := (HB.out.cell (World.block_lt_of_cell? w _ hx219_0)).trans hx219_0; replace p219 := eq_true p219; replace q219 := eq_true q219)))
              go_roundg k2
              case measure => have := HK1.out; have := HK2.out; omega
              case rel => exact ⟨(wrap64 (x5_2 + 1)), (by first | rfl | (simp; done) | (simp [*]; done)), H', ⟨by have := HK1.out; have := HK2.out; omega⟩, ⟨bkt BK203.out⟩, ⟨bel HB.out⟩⟩
            ·rw [if_neg c128] at H
             exact absurd H (by simp)
           ·rw [if_neg c127] at H
            exact absurd H (by simp)
          ·as_aux_lemma =>
           rw [if_neg c125] at H
           have c125b0 : decide (0 < x5_2) = false := decide_eq_false c125
           clear c125
           have H' := Aside0.mk H
           clear H
           have hcz132_0 := cz25 BK203.out
           have hfz132_0 := blk_frozen BK203.out
           have p216 : 0 ≤ (x5_2 : Int) := of_decide_eq_true (by first | (with_reducible assumption) | assumption)
           have q216 : x5_2 < (l0_23.length : Int) := of_decide_eq_true (by first | (with_reducible assumption) | assumption)
           obtain ⟨ad216, e216, hx216_0⟩ := Kd.at_int HR0_23.out x5_2 p216 q216
           cases e216
           replace hx216_0 := (HB.out.cell (World.block_lt_of_cell? w _ hx216_0)).trans hx216_0
           replace p216 := eq_true p216
           replace q216 := eq_true q216
           go_wp2_with (first | (go_at_call 34; (with_reducible refine (r27_in.calls (rd l0_23 x5_2) 1 99 true _ A123.out).mono ?_); rintro e w' ⟨rfl, ⟨nd, rfl⟩⟩; (try clear A123); (try first | exact ⟨rfl, _, World.drewN_drewN _ _ _⟩ | exact ⟨rfl, _, Eq.trans (World.drewN_drewN _ _ _) (congrArg (World.drewN _) (Nat.add_assoc _ _ _))⟩)))
           repeat (go_quiet (first | (go_at_call 34; (with_reducible refine (r27_in.calls (rd l0_23 x5_2) 1 99 true _ A123.out).mono ?_); rintro e w' ⟨rfl, ⟨nd, rfl⟩⟩; (try clear A123); (try first | exact ⟨rfl, _, World.drewN_drewN _ _ _⟩ | exact ⟨rfl, _, Eq.trans (World.drewN_drewN _ _ _) (congrArg (World.drewN _) (Nat.add_assoc _ _ _))⟩))); try go_wp2_with (first | (go_at_call 34; (with_reducible refine (r27_in.calls (rd l0_23 x5_2) 1 99 true _ A123.out).mono ?_); rintro e w' ⟨rfl, ⟨nd, rfl⟩⟩; (try clear A123); (try first | exact ⟨rfl, _, World.drewN_drewN _ _ _⟩ | exact ⟨rfl, _, Eq.trans (World.drewN_drewN _ _ _) (congrArg (World.drewN _) (Nat.add_assoc _ _ _))⟩))))
           go_roundg k2
           case measure => have := HK1.out; have := HK2.out; omega
           case rel => exact ⟨(wrap64 (x5_2 + 1)), (by first | rfl | (simp; done) | (simp [*]; done)), H', ⟨by have := HK1.out; have := HK2.out; omega⟩, ⟨bkt BK203.out⟩, ⟨bel HB.out⟩⟩
         ·as_aux_lemma =>
          replace c124 := Bool.eq_false_iff.mpr c124
          subst c124
          have H1 : (some 2) = some r := by rw [if_neg (show ¬ (false = true) by decide)] at H; exact H
          clear H
          have H := H1
          clear H1
          obtain rfl := Option.some.inj H
          have hcz133_0 := cz25 BK203.out
          have hfz133_0 := blk_frozen BK203.out
          have p216 : 0 ≤ (x5_2 : Int) := of_decide_eq_true (by first | (with_reducible assumption) | assumption)
          have q216 : x5_2 < (l0_23.length : Int) := of_decide_eq_true (by first | (with_reducible assumption) | assumption)
          obtain ⟨ad216, e216, hx216_0⟩ := Kd.at_int HR0_23.out x5_2 p216 q216
          cases e216
          replace hx216_0 := (HB.out.cell (World.block_lt_of_cell? w _ hx216_0)).trans hx216_0
          replace p216 := eq_true p216
          replace q216 := eq_true q216
          go_wp2_with (first | (go_at_call 34; (with_reducible refine (r27_in.calls (rd l0_23 x5_2) 1 99 false _ A123.out).mono ?_); rintro e w' ⟨rfl, ⟨nd, rfl⟩⟩; (try clear A123); (try first | exact ⟨rfl, _, World.drewN_drewN _ _ _⟩ | exact ⟨rfl, _, Eq.trans (World.drewN_drewN _ _ _) (congrArg (World.drewN _) (Nat.add_assoc _ _ _))⟩)))
          repeat (go_quiet (first | (go_at_call 34; (with_reducible refine (r27_in.calls (rd l0_23 x5_2) 1 99 false _ A123.out).mono ?_); rintro e w' ⟨rfl, ⟨nd, rfl⟩⟩; (try clear A123); (try first | exact ⟨rfl, _, World.drewN_drewN _ _ _⟩ | exact ⟨rfl, _, Eq.trans (World.drewN_drewN _ _ _) (congrArg (World.drewN _) (Nat.add_assoc _ _ _))⟩))); try go_wp2_with (first | (go_at_call 34; (with_reducible refine (r27_in.calls (rd l0_23 x5_2) 1 99 false _ A123.out).mono ?_); rintro e w' ⟨rfl, ⟨nd, rfl⟩⟩; (try clear A123); (try first | exact ⟨rfl, _, World.drewN_drewN _ _ _⟩ | exact ⟨rfl, _, Eq.trans (World.drewN_drewN _ _ _) (congrArg (World.drewN _) (Nat.add_assoc _ _ _))⟩))))
          go_ret
          exact bfin (bel HB.out)
        ·rw [if_neg c122] at H
         exact absurd H (by simp)
       ·as_aux_lemma =>
        rw [if_neg c121] at H
        have c121b0 : decide (x5_2 < (l0_23.length : Int)) = false := decide_eq_false c121
        clear c121
        obtain rfl := Option.some.inj H
        have hcz134_0 := cz25 BK203.out
        have hfz134_0 := blk_frozen BK203.out
        go_wp2
        repeat (go_quiet (fail); try go_wp2)
        go_ret
        exact bfin (bel HB.out)

end Go.Proofs.Ytmdcjmackhjchaa.P
end
