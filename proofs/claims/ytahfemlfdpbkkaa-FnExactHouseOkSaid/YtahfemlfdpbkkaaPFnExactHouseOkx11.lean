-- Written by a program of this session (myprint.py, over the kit's print): contracts of FnExactHouseOk
import Derived.Test.YtahfemlfdpbkkaaPFnExactHouseOkx0
import Derived.Test.YtahfemlfdpbkkaaPFnExactHouseOkx7
import Derived.Test.YtahfemlfdpbkkaaPFnExactHouseOkx9
import Derived.Test.YtahfemlfdpbkkaaPFnExactHouseOkx10
namespace Go.Proofs.Ytahfemlfdpbkkaa.PFnExactHouseOk
open Go.RowKit Go.Proofs.YtahfemlfdpbkkaaW.PrintWords Go.Proofs.YtahfemlfdpbkkaaW.PrintLast Go.Proofs.YtahfemlfdpbkkaaW.PrintMore Go.Proofs.YtahfemlfdpbkkaaV
attribute [local go_sem] max2_int min2_int max_two min_two max_three min_three max_four min_four   -- for this text's walks alone
set_option linter.unusedVariables false
set_option linter.unusedSimpArgs false

/-! ### spec_l10Lists: function 128 -/
mutual
def spec_l10Lists.l0 : Nat → Int → Int → Int → Int → List (S125) → Bool → List (S45) → List (S46) → Int → Int → Int → Int → Int → Option (Bool)
 | 0, _, _, _, _, _, _, _, _, _, _, _, _, _ => none
 | k + 1, x3, x220000, x220001, x220002, x220003, x220004, x220005, x220006, x220007, x220008, x220009, x220010, x220011 => if x3 < (x220005.length : Int) then (if 0 ≤ x3 then ((spec_AskerOk.f k ((rd_T45 x220005 x3).f0) ((rd_T45 x220005 x3).f1) ((rd_T45 x220005 x3).f2) ((rd_T45 x220005 x3).f3) ((rd_T45 x220005 x3).f4) ((rd_T45 x220005 x3).f5) ((rd_T45 x220005 x3).f6) ((rd_T45 x220005 x3).f7)).bind fun t222 => (if t222 = true then (if x3 > 0 then (if 0 ≤ (wrap64 (x3 - 1)) then (if (wrap64 (x3 - 1)) < (x220005.length : Int) then (if ((rd_T45 x220005 (wrap64 (x3 - 1))).f0) ≥ ((rd_T45 x220005 x3).f0) then (spec_l10Lists.j1 k x3 true x220000 x220001 x220002 x220003 x220004 x220005 x220006 x220007 x220008 x220009 x220010 x220011 ((rd_T45 x220005 x3).f0) ((rd_T45 x220005 x3).f1) ((rd_T45 x220005 x3).f2) ((rd_T45 x220005 x3).f3) ((rd_T45 x220005 x3).f4) ((rd_T45 x220005 x3).f5) ((rd_T45 x220005 x3).f6) ((rd_T45 x220005 x3).f7)) else ((spec_LineAt.f k x220006 ((rd_T45 x220005 x3).f0)).bind fun t224 => (spec_l10Lists.j1 k x3 (decide (t224 ≥ 0)) x220000 x220001 x220002 x220003 x220004 x220005 x220006 x220007 x220008 x220009 x220010 x220011 ((rd_T45 x220005 x3).f0) ((rd_T45 x220005 x3).f1) ((rd_T45 x220005 x3).f2) ((rd_T45 x220005 x3).f3) ((rd_T45 x220005 x3).f4) ((rd_T45 x220005 x3).f5) ((rd_T45 x220005 x3).f6) ((rd_T45 x220005 x3).f7)))) else (none)) else (none)) else ((spec_LineAt.f k x220006 ((rd_T45 x220005 x3).f0)).bind fun t225 => (spec_l10Lists.j1 k x3 (decide (t225 ≥ 0)) x220000 x220001 x220002 x220003 x220004 x220005 x220006 x220007 x220008 x220009 x220010 x220011 ((rd_T45 x220005 x3).f0) ((rd_T45 x220005 x3).f1) ((rd_T45 x220005 x3).f2) ((rd_T45 x220005 x3).f3) ((rd_T45 x220005 x3).f4) ((rd_T45 x220005 x3).f5) ((rd_T45 x220005 x3).f6) ((rd_T45 x220005 x3).f7)))) else (spec_l10Lists.j1 k x3 true x220000 x220001 x220002 x220003 x220004 x220005 x220006 x220007 x220008 x220009 x220010 x220011 ((rd_T45 x220005 x3).f0) ((rd_T45 x220005 x3).f1) ((rd_T45 x220005 x3).f2) ((rd_T45 x220005 x3).f3) ((rd_T45 x220005 x3).f4) ((rd_T45 x220005 x3).f5) ((rd_T45 x220005 x3).f6) ((rd_T45 x220005 x3).f7)))) else (none)) else (spec_l10Lists.l2 k 0 x220000 x220001 x220002 x220003 x220004 x220005 x220006 x220007 x220008 x220009 x220010 x220011)
def spec_l10Lists.j1 : Nat → Int → Bool → Int → Int → Int → List (S125) → Bool → List (S45) → List (S46) → Int → Int → Int → Int → Int → Int → ByteArray → Int → Int → Int → ByteArray → Int → Int → Option (Bool)
 | 0, _, _, _, _, _, _, _, _, _, _, _, _, _, _, _, _, _, _, _, _, _, _ => none
 | k + 1, x3, x45, x220000, x220001, x220002, x220003, x220004, x220005, x220006, x220007, x220008, x220009, x220010, x220011, x222000, x222001, x222002, x222003, x222004, x222005, x222006, x222007 => if x45 = true then (some false) else (if x222002 = 2 then (if x222003 ≥ x220007 then (some false) else (spec_l10Lists.l1 k x3 0 x220000 x220001 x220002 x220003 x220004 x220005 x220006 x220007 x220008 x220009 x220010 x220011 x222000 x222001 x222002 x222003 x222004 x222005 x222006 x222007)) else (spec_l10Lists.l0 k (wrap64 (x3 + 1)) x220000 x220001 x220002 x220003 x220004 x220005 x220006 x220007 x220008 x220009 x220010 x220011))
def spec_l10Lists.l1 : Nat → Int → Int → Int → Int → Int → List (S125) → Bool → List (S45) → List (S46) → Int → Int → Int → Int → Int → Int → ByteArray → Int → Int → Int → ByteArray → Int → Int → Option (Bool)
 | 0, _, _, _, _, _, _, _, _, _, _, _, _, _, _, _, _, _, _, _, _, _, _ => none
 | k + 1, x3, x5, x220000, x220001, x220002, x220003, x220004, x220005, x220006, x220007, x220008, x220009, x220010, x220011, x222000, x222001, x222002, x222003, x222004, x222005, x222006, x222007 => if x5 < x3 then (if 0 ≤ x5 then (if x5 < (x220005.length : Int) then (if ((rd_T45 x220005 x5).f2) = 2 then (if ((rd_T45 x220005 x5).f3) = x222003 then (some false) else (spec_l10Lists.l1 k x3 (wrap64 (x5 + 1)) x220000 x220001 x220002 x220003 x220004 x220005 x220006 x220007 x220008 x220009 x220010 x220011 x222000 x222001 x222002 x222003 x222004 x222005 x222006 x222007)) else (spec_l10Lists.l1 k x3 (wrap64 (x5 + 1)) x220000 x220001 x220002 x220003 x220004 x220005 x220006 x220007 x220008 x220009 x220010 x220011 x222000 x222001 x222002 x222003 x222004 x222005 x222006 x222007)) else (none)) else (none)) else (spec_l10Lists.l0 k (wrap64 (x3 + 1)) x220000 x220001 x220002 x220003 x220004 x220005 x220006 x220007 x220008 x220009 x220010 x220011)
def spec_l10Lists.l2 : Nat → Int → Int → Int → Int → List (S125) → Bool → List (S45) → List (S46) → Int → Int → Int → Int → Int → Option (Bool)
 | 0, _, _, _, _, _, _, _, _, _, _, _, _, _ => none
 | k + 1, x6, x220000, x220001, x220002, x220003, x220004, x220005, x220006, x220007, x220008, x220009, x220010, x220011 => if x6 < (x220006.length : Int) then (if 0 ≤ x6 then ((spec_LineOk.f k ((rd_T46 x220006 x6).f0) ((rd_T46 x220006 x6).f1) ((rd_T46 x220006 x6).f2) ((rd_T46 x220006 x6).f3) ((rd_T46 x220006 x6).f4) ((rd_T46 x220006 x6).f5) ((rd_T46 x220006 x6).f6)).bind fun t229 => (if t229 = true then (if x6 > 0 then (if 0 ≤ (wrap64 (x6 - 1)) then (if (wrap64 (x6 - 1)) < (x220006.length : Int) then (if ((rd_T46 x220006 (wrap64 (x6 - 1))).f0) ≥ ((rd_T46 x220006 x6).f0) then (some false) else (spec_l10Lists.l2 k (wrap64 (x6 + 1)) x220000 x220001 x220002 x220003 x220004 x220005 x220006 x220007 x220008 x220009 x220010 x220011)) else (none)) else (none)) else (spec_l10Lists.l2 k (wrap64 (x6 + 1)) x220000 x220001 x220002 x220003 x220004 x220005 x220006 x220007 x220008 x220009 x220010 x220011)) else (some false))) else (none)) else (if (x220005.length : Int) ≤ 6 then (if (x220006.length : Int) ≤ 9 then ((spec_l1In.f x220007 0 65535).bind fun t232 => (some t232)) else (some false)) else (some false))
end
def spec_l10Lists.f (k : Nat) (a0_0 : Int) (a0_1 : Int) (a0_2 : Int) (l0_3 : List (S125)) (a0_4 : Bool) (l0_5 : List (S45)) (l0_6 : List (S46)) (a0_7 : Int) (a0_8 : Int) (a0_9 : Int) (a0_10 : Int) (a0_11 : Int) : Option (Bool) := spec_l10Lists.l0 k 0 a0_0 a0_1 a0_2 l0_3 a0_4 l0_5 l0_6 a0_7 a0_8 a0_9 a0_10 a0_11
theorem spec_l10Lists.mono_l : ∀ k, (∀ y0 y1 y2 y3 y4 y5 y6 y7 y8 y9 y10 y11 y12, LeO (spec_l10Lists.l0 k y0 y1 y2 y3 y4 y5 y6 y7 y8 y9 y10 y11 y12) (spec_l10Lists.l0 (k + 1) y0 y1 y2 y3 y4 y5 y6 y7 y8 y9 y10 y11 y12)) ∧ (∀ y0 y1 y2 y3 y4 y5 y6 y7 y8 y9 y10 y11 y12 y13 y14 y15 y16 y17 y18 y19 y20 y21, LeO (spec_l10Lists.j1 k y0 y1 y2 y3 y4 y5 y6 y7 y8 y9 y10 y11 y12 y13 y14 y15 y16 y17 y18 y19 y20 y21) (spec_l10Lists.j1 (k + 1) y0 y1 y2 y3 y4 y5 y6 y7 y8 y9 y10 y11 y12 y13 y14 y15 y16 y17 y18 y19 y20 y21)) ∧ (∀ y0 y1 y2 y3 y4 y5 y6 y7 y8 y9 y10 y11 y12 y13 y14 y15 y16 y17 y18 y19 y20 y21, LeO (spec_l10Lists.l1 k y0 y1 y2 y3 y4 y5 y6 y7 y8 y9 y10 y11 y12 y13 y14 y15 y16 y17 y18 y19 y20 y21) (spec_l10Lists.l1 (k + 1) y0 y1 y2 y3 y4 y5 y6 y7 y8 y9 y10 y11 y12 y13 y14 y15 y16 y17 y18 y19 y20 y21)) ∧ (∀ y0 y1 y2 y3 y4 y5 y6 y7 y8 y9 y10 y11 y12, LeO (spec_l10Lists.l2 k y0 y1 y2 y3 y4 y5 y6 y7 y8 y9 y10 y11 y12) (spec_l10Lists.l2 (k + 1) y0 y1 y2 y3 y4 y5 y6 y7 y8 y9 y10 y11 y12))
 | 0 => ⟨fun _ _ _ _ _ _ _ _ _ _ _ _ _ r h => by simp [spec_l10Lists.l0] at h, fun _ _ _ _ _ _ _ _ _ _ _ _ _ _ _ _ _ _ _ _ _ _ r h => by simp [spec_l10Lists.j1] at h, fun _ _ _ _ _ _ _ _ _ _ _ _ _ _ _ _ _ _ _ _ _ _ r h => by simp [spec_l10Lists.l1] at h, fun _ _ _ _ _ _ _ _ _ _ _ _ _ r h => by simp [spec_l10Lists.l2] at h⟩
 | k + 1 => by
  obtain ⟨ih0, ih1, ih2, ih3⟩ := spec_l10Lists.mono_l k
  refine ⟨?_, ?_, ?_, ?_⟩
  ·
   intro y0 y1 y2 y3 y4 y5 y6 y7 y8 y9 y10 y11 y12
   unfold spec_l10Lists.l0
   repeat' first
   | (with_reducible exact ih0 _ _ _ _ _ _ _ _ _ _ _ _ _)
   | (with_reducible exact ih1 _ _ _ _ _ _ _ _ _ _ _ _ _ _ _ _ _ _ _ _ _ _)
   | (with_reducible exact ih2 _ _ _ _ _ _ _ _ _ _ _ _ _ _ _ _ _ _ _ _ _ _)
   | (with_reducible exact ih3 _ _ _ _ _ _ _ _ _ _ _ _ _)
   | (with_reducible exact spec_AskerOk.mono _ _ _ _ _ _ _ _ _)
   | (with_reducible exact spec_LineAt.mono _ _ _)
   | (with_reducible exact spec_LineOk.mono _ _ _ _ _ _ _ _)
   | (with_reducible exact LeO.refl _)
   | (with_reducible exact LeO.none _)
   | (with_reducible refine LeO.ite ?_ ?_)
   | (with_reducible refine LeO.bind ?_ (fun _ => ?_))
   | exact ih0 _ _ _ _ _ _ _ _ _ _ _ _ _
   | exact ih1 _ _ _ _ _ _ _ _ _ _ _ _ _ _ _ _ _ _ _ _ _ _
   | exact ih2 _ _ _ _ _ _ _ _ _ _ _ _ _ _ _ _ _ _ _ _ _ _
   | exact ih3 _ _ _ _ _ _ _ _ _ _ _ _ _
   | exact spec_AskerOk.mono _ _ _ _ _ _ _ _ _
   | exact spec_LineAt.mono _ _ _
   | exact spec_LineOk.mono _ _ _ _ _ _ _ _
   | exact LeO.none _
   | refine LeO.ite ?_ ?_
   | refine LeO.bind ?_ (fun _ => ?_)
  ·
   intro y0 y1 y2 y3 y4 y5 y6 y7 y8 y9 y10 y11 y12 y13 y14 y15 y16 y17 y18 y19 y20 y21
   unfold spec_l10Lists.j1
   repeat' first
   | (with_reducible exact ih0 _ _ _ _ _ _ _ _ _ _ _ _ _)
   | (with_reducible exact ih1 _ _ _ _ _ _ _ _ _ _ _ _ _ _ _ _ _ _ _ _ _ _)
   | (with_reducible exact ih2 _ _ _ _ _ _ _ _ _ _ _ _ _ _ _ _ _ _ _ _ _ _)
   | (with_reducible exact ih3 _ _ _ _ _ _ _ _ _ _ _ _ _)
   | (with_reducible exact spec_AskerOk.mono _ _ _ _ _ _ _ _ _)
   | (with_reducible exact spec_LineAt.mono _ _ _)
   | (with_reducible exact spec_LineOk.mono _ _ _ _ _ _ _ _)
   | (with_reducible exact LeO.refl _)
   | (with_reducible exact LeO.none _)
   | (with_reducible refine LeO.ite ?_ ?_)
   | (with_reducible refine LeO.bind ?_ (fun _ => ?_))
   | exact ih0 _ _ _ _ _ _ _ _ _ _ _ _ _
   | exact ih1 _ _ _ _ _ _ _ _ _ _ _ _ _ _ _ _ _ _ _ _ _ _
   | exact ih2 _ _ _ _ _ _ _ _ _ _ _ _ _ _ _ _ _ _ _ _ _ _
   | exact ih3 _ _ _ _ _ _ _ _ _ _ _ _ _
   | exact spec_AskerOk.mono _ _ _ _ _ _ _ _ _
   | exact spec_LineAt.mono _ _ _
   | exact spec_LineOk.mono _ _ _ _ _ _ _ _
   | exact LeO.none _
   | refine LeO.ite ?_ ?_
   | refine LeO.bind ?_ (fun _ => ?_)
  ·
   intro y0 y1 y2 y3 y4 y5 y6 y7 y8 y9 y10 y11 y12 y13 y14 y15 y16 y17 y18 y19 y20 y21
   unfold spec_l10Lists.l1
   repeat' first
   | (with_reducible exact ih0 _ _ _ _ _ _ _ _ _ _ _ _ _)
   | (with_reducible exact ih1 _ _ _ _ _ _ _ _ _ _ _ _ _ _ _ _ _ _ _ _ _ _)
   | (with_reducible exact ih2 _ _ _ _ _ _ _ _ _ _ _ _ _ _ _ _ _ _ _ _ _ _)
   | (with_reducible exact ih3 _ _ _ _ _ _ _ _ _ _ _ _ _)
   | (with_reducible exact spec_AskerOk.mono _ _ _ _ _ _ _ _ _)
   | (with_reducible exact spec_LineAt.mono _ _ _)
   | (with_reducible exact spec_LineOk.mono _ _ _ _ _ _ _ _)
   | (with_reducible exact LeO.refl _)
   | (with_reducible exact LeO.none _)
   | (with_reducible refine LeO.ite ?_ ?_)
   | (with_reducible refine LeO.bind ?_ (fun _ => ?_))
   | exact ih0 _ _ _ _ _ _ _ _ _ _ _ _ _
   | exact ih1 _ _ _ _ _ _ _ _ _ _ _ _ _ _ _ _ _ _ _ _ _ _
   | exact ih2 _ _ _ _ _ _ _ _ _ _ _ _ _ _ _ _ _ _ _ _ _ _
   | exact ih3 _ _ _ _ _ _ _ _ _ _ _ _ _
   | exact spec_AskerOk.mono _ _ _ _ _ _ _ _ _
   | exact spec_LineAt.mono _ _ _
   | exact spec_LineOk.mono _ _ _ _ _ _ _ _
   | exact LeO.none _
   | refine LeO.ite ?_ ?_
   | refine LeO.bind ?_ (fun _ => ?_)
  ·
   intro y0 y1 y2 y3 y4 y5 y6 y7 y8 y9 y10 y11 y12
   unfold spec_l10Lists.l2
   repeat' first
   | (with_reducible exact ih0 _ _ _ _ _ _ _ _ _ _ _ _ _)
   | (with_reducible exact ih1 _ _ _ _ _ _ _ _ _ _ _ _ _ _ _ _ _ _ _ _ _ _)
   | (with_reducible exact ih2 _ _ _ _ _ _ _ _ _ _ _ _ _ _ _ _ _ _ _ _ _ _)
   | (with_reducible exact ih3 _ _ _ _ _ _ _ _ _ _ _ _ _)
   | (with_reducible exact spec_AskerOk.mono _ _ _ _ _ _ _ _ _)
   | (with_reducible exact spec_LineAt.mono _ _ _)
   | (with_reducible exact spec_LineOk.mono _ _ _ _ _ _ _ _)
   | (with_reducible exact LeO.refl _)
   | (with_reducible exact LeO.none _)
   | (with_reducible refine LeO.ite ?_ ?_)
   | (with_reducible refine LeO.bind ?_ (fun _ => ?_))
   | exact ih0 _ _ _ _ _ _ _ _ _ _ _ _ _
   | exact ih1 _ _ _ _ _ _ _ _ _ _ _ _ _ _ _ _ _ _ _ _ _ _
   | exact ih2 _ _ _ _ _ _ _ _ _ _ _ _ _ _ _ _ _ _ _ _ _ _
   | exact ih3 _ _ _ _ _ _ _ _ _ _ _ _ _
   | exact spec_AskerOk.mono _ _ _ _ _ _ _ _ _
   | exact spec_LineAt.mono _ _ _
   | exact spec_LineOk.mono _ _ _ _ _ _ _ _
   | exact LeO.none _
   | refine LeO.ite ?_ ?_
   | refine LeO.bind ?_ (fun _ => ?_)
theorem spec_l10Lists.mono : ∀ a0 a1 a2 a3 a4 a5 a6 a7 a8 a9 a10 a11 k, LeO (spec_l10Lists.f k a0 a1 a2 a3 a4 a5 a6 a7 a8 a9 a10 a11) (spec_l10Lists.f (k + 1) a0 a1 a2 a3 a4 a5 a6 a7 a8 a9 a10 a11) := by
 intro a0 a1 a2 a3 a4 a5 a6 a7 a8 a9 a10 a11 k
 obtain ⟨ih0, ih1, ih2, ih3⟩ := spec_l10Lists.mono_l k
 unfold spec_l10Lists.f
 repeat' first
   | (with_reducible exact ih0 _ _ _ _ _ _ _ _ _ _ _ _ _)
   | (with_reducible exact ih1 _ _ _ _ _ _ _ _ _ _ _ _ _ _ _ _ _ _ _ _ _ _)
   | (with_reducible exact ih2 _ _ _ _ _ _ _ _ _ _ _ _ _ _ _ _ _ _ _ _ _ _)
   | (with_reducible exact ih3 _ _ _ _ _ _ _ _ _ _ _ _ _)
   | (with_reducible exact spec_AskerOk.mono _ _ _ _ _ _ _ _ _)
   | (with_reducible exact spec_LineAt.mono _ _ _)
   | (with_reducible exact spec_LineOk.mono _ _ _ _ _ _ _ _)
   | (with_reducible exact LeO.refl _)
   | (with_reducible exact LeO.none _)
   | (with_reducible refine LeO.ite ?_ ?_)
   | (with_reducible refine LeO.bind ?_ (fun _ => ?_))
   | exact ih0 _ _ _ _ _ _ _ _ _ _ _ _ _
   | exact ih1 _ _ _ _ _ _ _ _ _ _ _ _ _ _ _ _ _ _ _ _ _ _
   | exact ih2 _ _ _ _ _ _ _ _ _ _ _ _ _ _ _ _ _ _ _ _ _ _
   | exact ih3 _ _ _ _ _ _ _ _ _ _ _ _ _
   | exact spec_AskerOk.mono _ _ _ _ _ _ _ _ _
   | exact spec_LineAt.mono _ _ _
   | exact spec_LineOk.mono _ _ _ _ _ _ _ _
   | exact LeO.none _
   | refine LeO.ite ?_ ?_
   | refine LeO.bind ?_ (fun _ => ?_)
def spec_l10Lists.T5 : Bool × List (List Nat × List Nat) := (true, [([], []), ([0], [0]), ([1], [1]), ([2, 1], [2]), ([3], [3]), ([4, 3], [3, 4]), ([5, 3, 3], [3, 5]), ([6], [6]), ([7, 6], [6, 7]), ([6], [6]), ([9, 6], [6, 9]), ([8, 10, 6], [6, 8, 10]), ([11, 6], [6, 11]), ([12, 6], [6, 12]), ([6], [6]), ([14, 6], [6, 14]), ([13, 15, 6], [6, 13, 15]), ([6, 16, 3], [3, 6, 16]), ([3, 17], [3, 17]), ([18, 6], [18]), ([19], [19]), ([20, 19], [19, 20]), ([19], [19]), ([22, 19], [19, 22]), ([21, 23, 19, 19], [19, 21, 23]), ([24, 19], [19, 24]), ([19, 25], [19, 25])])
def spec_l10Lists.B5 : List Nat := [0, 1, 3, 7, 15, 31, 63, 127, 255, 127, 639, 2047, 4095, 8191, 127, 16511, 65535, 131071, 262143, 524287, 1048575, 2097151, 1048575, 5242879, 16777215, 33554431, 67108863]
theorem spec_l10Lists.tab5 : rtab .any (opsOf Try.f128 5) = spec_l10Lists.T5 := by kernel_rfl
theorem spec_l10Lists.bits5 : waitsOk spec_l10Lists.T5.2 spec_l10Lists.B5 = true := by kernel_rfl
def spec_l10Lists.T13 : Bool × List (List Nat × List Nat) := (true, [([], []), ([0], [0]), ([], []), ([1, 2], [1, 2]), ([3], [3]), ([4], [4]), ([5], [5]), ([6], [6]), ([7], [7]), ([8, 7], [7, 8]), ([7], [7]), ([9, 10, 7], [7, 9, 10]), ([11, 7], [7, 11]), ([12, 7], [7, 12]), ([7], [7]), ([14, 7], [7, 14]), ([13, 15, 7], [7, 13, 15]), ([7, 16], [7, 16])])
def spec_l10Lists.B13 : List Nat := [0, 1, 0, 7, 15, 31, 63, 127, 255, 511, 255, 2047, 4095, 8191, 255, 16639, 65535, 131071]
theorem spec_l10Lists.tab13 : rtab .any (opsOf Try.f128 13) = spec_l10Lists.T13 := by kernel_rfl
theorem spec_l10Lists.bits13 : waitsOk spec_l10Lists.T13.2 spec_l10Lists.B13 = true := by kernel_rfl
def spec_l10Lists.T18 : Bool × List (List Nat × List Nat) := (true, [([], []), ([0], [0]), ([], []), ([1, 2], [1, 2]), ([3], [3]), ([4], [4]), ([5], [5]), ([6, 5], [6]), ([7], [7]), ([8, 7], [7, 8]), ([9, 7, 7], [7, 9]), ([10], [10]), ([11, 10], [10, 11]), ([10], [10]), ([13, 10], [10, 13]), ([12, 14, 10], [10, 12, 14]), ([15, 10], [10, 15]), ([16, 10], [10, 16]), ([10], [10]), ([18, 10], [10, 18]), ([10], [10]), ([19, 20, 10], [10, 19, 20]), ([21, 10], [10, 21]), ([22, 10], [10, 22]), ([17, 23, 10], [10, 17, 23]), ([10, 24, 7], [7, 10, 24]), ([7, 25], [7, 25])])
def spec_l10Lists.B18 : List Nat := [0, 1, 0, 7, 15, 31, 63, 127, 255, 511, 1023, 2047, 4095, 2047, 10239, 32767, 65535, 131071, 2047, 264191, 2047, 1837055, 3934207, 8128511, 16777215, 33554431, 67108863]
theorem spec_l10Lists.tab18 : rtab .any (opsOf Try.f128 18) = spec_l10Lists.T18 := by kernel_rfl
theorem spec_l10Lists.bits18 : waitsOk spec_l10Lists.T18.2 spec_l10Lists.B18 = true := by kernel_rfl
set_option maxHeartbeats 8000000 in
set_option maxRecDepth 100000 in
theorem spec_l10Lists.calls (k : Nat) (a0_0 : Int) (a0_1 : Int) (a0_2 : Int) (A0_3 : Option Addr) (c0_3 : Nat) (l0_3 : List (S125)) (a0_4 : Bool) (A0_5 : Option Addr) (c0_5 : Nat) (l0_5 : List (S45)) (A0_6 : Option Addr) (c0_6 : Nat) (l0_6 : List (S46)) (a0_7 : Int) (a0_8 : Int) (a0_9 : Int) (a0_10 : Int) (a0_11 : Int) (r : Bool) (w : World) (hr0_3 : Kd.C k125 w A0_3 l0_3.length l0_3) (hc0_3 : l0_3.length ≤ c0_3) (hr0_5 : Kd.C k45 w A0_5 l0_5.length l0_5) (hc0_5 : l0_5.length ≤ c0_5) (hr0_6 : Kd.C k46 w A0_6 l0_6.length l0_6) (hc0_6 : l0_6.length ≤ c0_6) (h : spec_l10Lists.f k a0_0 a0_1 a0_2 l0_3 a0_4 l0_5 l0_6 a0_7 a0_8 a0_9 a0_10 a0_11 = some r) :
  Calls Try.prog 128 #[.agg #[.int .i64 a0_0, .int .i64 a0_1, .int .i64 a0_2, .slice A0_3 l0_3.length c0_3, .bool a0_4, .slice A0_5 l0_5.length c0_5, .slice A0_6 l0_6.length c0_6, .int .i64 a0_7, .int .i64 a0_8, .int .i64 a0_9, .int .i64 a0_10, .int .i64 a0_11]] w fun e w' => e = .returned (.bool r) ∧ Below w.heap.size w w' := by
 have hu67 := Try.underlying67
 have hu45 := Try.underlying45
 have hu46 := Try.underlying46
 have HR0_3 := Aside0.mk hr0_3
 have HC0_3 := Aside0.mk hc0_3
 clear hr0_3 hc0_3
 have HR0_5 := Aside0.mk hr0_5
 have HC0_5 := Aside0.mk hc0_5
 clear hr0_5 hc0_5
 have HR0_6 := Aside0.mk hr0_6
 have HC0_6 := Aside0.mk hc0_6
 clear hr0_6 hc0_6
 have HB := Aside0.mk (Below.refl w.heap.size w)
 have H : (spec_l10Lists.l0 k 0 a0_0 a0_1 a0_2 l0_3 a0_4 l0_5 l0_6 a0_7 a0_8 a0_9 a0_10 a0_11) = some r := h
 clear h
 have H' := Aside0.mk H
 clear H
 go_enter Try.func128, Try.ntmps128
 go_wp2_with (first | ((with_reducible refine gate_dst (N := 1) rfl ?_); (try (refine gate_guard (by rfl) ?_; dsimp only)); refine box_event ?hg (N := 1) ?hd (cs := #[.int .i64 a0_0, .int .i64 a0_1, .int .i64 a0_2, .slice A0_3 l0_3.length c0_3, .bool a0_4, .slice A0_5 l0_5.length c0_5, .slice A0_6 l0_6.length c0_6, .int .i64 a0_7, .int .i64 a0_8, .int .i64 a0_9, .int .i64 a0_10, .int .i64 a0_11]) (t := 67) ?hr ?_; (case hd => rfl); (case hg => rfl); (case hr => first | (go_simp; done) | (go_simp; rfl)); intro gb219 hg w2 hbox hb; have BK219 := am_ (hbox); have GW219 := am_ ((gG_ hg (qB HB))); have IGW219 := gI_ GW219; have GE219 := am_ ((gG_ hg (qB HB))); have IGE219 := gI_ GE219; replace HB := am_ (below_step (qB HB) hb); clear hb hbox hg))
 go_loopg [3] k (fun kq v3 w' => ∃ (x3_1 : Int), v3 = .int .i64 x3_1 ∧ Aside0 (spec_l10Lists.l0 kq x3_1 a0_0 a0_1 a0_2 l0_3 a0_4 l0_5 l0_6 a0_7 a0_8 a0_9 a0_10 a0_11 = some r) ∧ Aside0 (kq ≤ k) ∧ Aside0 (w'.heap[gb219]? = some (.cells #[.int .i64 a0_0, .int .i64 a0_1, .int .i64 a0_2, (.slice A0_3 l0_3.length c0_3), .bool a0_4, (.slice A0_5 l0_5.length c0_5), (.slice A0_6 l0_6.length c0_6), .int .i64 a0_7, .int .i64 a0_8, .int .i64 a0_9, .int .i64 a0_10, .int .i64 a0_11] 67 (0, 0))) ∧ Aside0 (Below w.heap.size w w'))
 case atStart => exact ⟨(0), eqq_, H', ⟨Nat.le_refl _⟩, ⟨qK BK219⟩, ⟨qB HB⟩⟩
 case round =>
  clear H'
  try clear c1
  try clear p2
  obtain ⟨x3_1, rfl, HA, HK1, BK219, HB⟩ := hrel
  cases gk with
  | zero => exact absurd HA.out (by simp [spec_l10Lists.l0])
  | succ k1 =>
   have H := HA.out
   clear HA
   simp only [spec_l10Lists.l0] at H
   by_cases c3 : x3_1 < (l0_5.length : Int)
   ·
    rw [if_pos c3] at H
    have c3b0 : decide (x3_1 < (l0_5.length : Int)) = true := decide_eq_true c3
    clear c3
    by_cases c4 : 0 ≤ x3_1
    ·
     rw [if_pos c4] at H
     have c4b0 : decide (0 ≤ x3_1) = true := decide_eq_true c4
     clear c4
     have HC5 := Aside0.mk H
     clear H
     obtain ⟨z6_0, z6_1, z6_2, z6_3, z6_4, z6_5, z6_6, z6_7, z6_8, z6_9, z6_10, z6_11⟩ := cz12 BK219.out
     obtain ⟨f6_0, f6_1, f6_2, f6_3, f6_4, f6_5, f6_6, f6_7, f6_8, f6_9, f6_10, f6_11⟩ := fz12 BK219.out
     have p220 : 0 ≤ (x3_1 : Int) := od_
     have q220 : x3_1 < (l0_5.length : Int) := od_
     obtain ⟨ad220, e220, hx220_0, hx220_1, hx220_2, hx220_3, hx220_4, hx220_5, hx220_6, hx220_7⟩ := at_T45 HR0_5.out x3_1 p220 q220
     cases e220
     replace hx220_0 := lb_ HB hx220_0
     replace hx220_1 := lb_ HB hx220_1
     replace hx220_2 := lb_ HB hx220_2
     replace hx220_3 := lb_ HB hx220_3
     replace hx220_4 := lb_ HB hx220_4
     replace hx220_5 := lb_ HB hx220_5
     replace hx220_6 := lb_ HB hx220_6
     replace hx220_7 := lb_ HB hx220_7
     replace p220 := eq_true p220
     replace q220 := eq_true q220
     go_upto_region 5 with (first | ((with_reducible refine gate_dst (N := 4) rfl ?_); (try (refine gate_guard (by rfl) ?_; dsimp only)); refine box_event ?hg (N := 4) ?hd (cs := #[.int .i64 0, .string (⟨#[]⟩ : ByteArray), .int .i64 0, .int .i64 0, .int .i64 0, .string (⟨#[]⟩ : ByteArray), .int .i64 0, .int .i64 0]) (t := 45) ?hr ?_; (case hd => rfl); (case hg => rfl); (case hr => first | (go_simp; done) | (go_simp; rfl)); intro gb221 hg w7 hbox hb; have BK221 := am_ (hbox); have GW221 := am_ ((gG_ hg (qB HB))); have IGW221 := gI_ GW221; have GE221 := am_ ((gG_ hg (qB HB))); have IGE221 := gI_ GE221; replace HB := am_ (below_step (qB HB) hb); have NB219_221 := am_ ((gN_ hg (qK BK219))); have NB221_219 := am_ ((gM_ hg (qK BK219))); replace BK219 := am_ (blk_below (qK BK219) hb); clear hb hbox hg; have hnb8 := NB221_219.out; have hnc8 := NB219_221.out; obtain ⟨z9_0, z9_1, z9_2, z9_3, z9_4, z9_5, z9_6, z9_7⟩ := cz8 BK221.out; obtain ⟨f9_0, f9_1, f9_2, f9_3, f9_4, f9_5, f9_6, f9_7⟩ := fz8 BK221.out))
     (try simp only [Act.put, List.setIfInBounds_toArray, List.set_cons_zero, List.set_cons_succ])
     go_cut [45] (fun v45 wc => ∃ (kq : Nat) (x45_4 : Bool), v45 = .bool x45_4 ∧ Aside0 (spec_l10Lists.j1 kq x3_1 x45_4 a0_0 a0_1 a0_2 l0_3 a0_4 l0_5 l0_6 a0_7 a0_8 a0_9 a0_10 a0_11 ((rd_T45 l0_5 x3_1).f0) ((rd_T45 l0_5 x3_1).f1) ((rd_T45 l0_5 x3_1).f2) ((rd_T45 l0_5 x3_1).f3) ((rd_T45 l0_5 x3_1).f4) ((rd_T45 l0_5 x3_1).f5) ((rd_T45 l0_5 x3_1).f6) ((rd_T45 l0_5 x3_1).f7) = some r) ∧ Aside0 (kq ≤ k1) ∧ Aside0 (wc.heap[gb219]? = some (.cells #[.int .i64 a0_0, .int .i64 a0_1, .int .i64 a0_2, (.slice A0_3 l0_3.length c0_3), .bool a0_4, (.slice (some ad220) l0_5.length c0_5), (.slice A0_6 l0_6.length c0_6), .int .i64 a0_7, .int .i64 a0_8, .int .i64 a0_9, .int .i64 a0_10, .int .i64 a0_11] 67 (0, 0))) ∧ Aside0 (wc.heap[gb221]? = some (.cells #[.int .i64 ((rd_T45 l0_5 x3_1).f0), .string ((rd_T45 l0_5 x3_1).f1), .int .i64 ((rd_T45 l0_5 x3_1).f2), .int .i64 ((rd_T45 l0_5 x3_1).f3), .int .i64 ((rd_T45 l0_5 x3_1).f4), .string ((rd_T45 l0_5 x3_1).f5), .int .i64 ((rd_T45 l0_5 x3_1).f6), .int .i64 ((rd_T45 l0_5 x3_1).f7)] 45 (0, 0))) ∧ Aside0 (Below w.heap.size w wc))
     case first =>
      have H := HC5.out
      clear HC5
      obtain ⟨t222, A10, H⟩ := bd_ H
      by_cases c11 : t222 = true
      ·
       subst c11
       rw [if_pos rfl] at H
       by_cases c12 : x3_1 > 0
       ·
        rw [if_pos c12] at H
        have c12b0 : decide (0 < x3_1) = true := decide_eq_true c12
        clear c12
        (first | rw [c12b0] | (simp only [i64_w, i32_w]; rw [c12b0]) | skip)
        obtain ⟨ji13, hji13⟩ : ∃ j_ : Int, (wrap64 (x3_1 - 1)) = j_ := ⟨_, rfl⟩
        replace H : (if 0 ≤ (ji13) then (if (ji13) < (l0_5.length : Int) then (if ((rd_T45 l0_5 (ji13)).f0) ≥ ((rd_T45 l0_5 x3_1).f0) then (spec_l10Lists.j1 k1 x3_1 true a0_0 a0_1 a0_2 l0_3 a0_4 l0_5 l0_6 a0_7 a0_8 a0_9 a0_10 a0_11 ((rd_T45 l0_5 x3_1).f0) ((rd_T45 l0_5 x3_1).f1) ((rd_T45 l0_5 x3_1).f2) ((rd_T45 l0_5 x3_1).f3) ((rd_T45 l0_5 x3_1).f4) ((rd_T45 l0_5 x3_1).f5) ((rd_T45 l0_5 x3_1).f6) ((rd_T45 l0_5 x3_1).f7)) else ((spec_LineAt.f k1 l0_6 ((rd_T45 l0_5 x3_1).f0)).bind fun t224 => (spec_l10Lists.j1 k1 x3_1 (decide (t224 ≥ 0)) a0_0 a0_1 a0_2 l0_3 a0_4 l0_5 l0_6 a0_7 a0_8 a0_9 a0_10 a0_11 ((rd_T45 l0_5 x3_1).f0) ((rd_T45 l0_5 x3_1).f1) ((rd_T45 l0_5 x3_1).f2) ((rd_T45 l0_5 x3_1).f3) ((rd_T45 l0_5 x3_1).f4) ((rd_T45 l0_5 x3_1).f5) ((rd_T45 l0_5 x3_1).f6) ((rd_T45 l0_5 x3_1).f7)))) else (none)) else (none)) = some r := by first | (rw [hji13] at H; exact H) | (simp only [hji13] at H ⊢; exact H)
        (try rw [hji13] at A10)
        have hji13w : (IntKind.i64.wrap (x3_1 - 1)) = ji13 := (i64_w _).trans hji13
        by_cases c14 : 0 ≤ (ji13)
        ·
         rw [if_pos c14] at H
         have c14b0 : decide (0 ≤ (ji13)) = true := decide_eq_true c14
         clear c14
         by_cases c15 : (ji13) < (l0_5.length : Int)
         ·
          rw [if_pos c15] at H
          have c15b0 : decide ((ji13) < (l0_5.length : Int)) = true := decide_eq_true c15
          clear c15
          by_cases c16 : ((rd_T45 l0_5 (ji13)).f0) ≥ ((rd_T45 l0_5 x3_1).f0)
          ·
           rw [if_pos c16] at H
           have c16b0 : decide (((rd_T45 l0_5 x3_1).f0) ≤ ((rd_T45 l0_5 (ji13)).f0)) = true := decide_eq_true c16
           clear c16
           have H' := Aside0.mk H
           clear H
           try go_wp2
           have n0_ : Aside0 (((((((((w7.setCell ⟨gb221, 0, none⟩ (.int .i64 ((rd_T45 l0_5 x3_1).f0))).setCell ⟨gb221, 1, none⟩ (.string ((rd_T45 l0_5 x3_1).f1))).setCell ⟨gb221, 2, none⟩ (.int .i64 ((rd_T45 l0_5 x3_1).f2))).setCell ⟨gb221, 3, none⟩ (.int .i64 ((rd_T45 l0_5 x3_1).f3))).setCell ⟨gb221, 4, none⟩ (.int .i64 ((rd_T45 l0_5 x3_1).f4))).setCell ⟨gb221, 5, none⟩ (.string ((rd_T45 l0_5 x3_1).f5))).setCell ⟨gb221, 6, none⟩ (.int .i64 ((rd_T45 l0_5 x3_1).f6))).setCell ⟨gb221, 7, none⟩ (.int .i64 ((rd_T45 l0_5 x3_1).f7))).heap[gb219]? = some (.cells #[.int .i64 a0_0, .int .i64 a0_1, .int .i64 a0_2, .slice A0_3 l0_3.length c0_3, .bool a0_4, .slice (some ad220) l0_5.length c0_5, .slice A0_6 l0_6.length c0_6, .int .i64 a0_7, .int .i64 a0_8, .int .i64 a0_9, .int .i64 a0_10, .int .i64 a0_11] 67 (0, 0))) := ⟨by (with_reducible repeat (first | refine blk_drewN ?_ _ | refine blk_drew ?_ | refine blk_alloc ?_ _)); refine Go.Proofs.YtahfemlfdpbkkaaV.blk_far8 ?_ NB219_221.out; (with_reducible repeat (first | refine blk_drewN ?_ _ | refine blk_drew ?_ | refine blk_alloc ?_ _)); exact BK219.out⟩
           have n1_ : Aside0 (((((((((w7.setCell ⟨gb221, 0, none⟩ (.int .i64 ((rd_T45 l0_5 x3_1).f0))).setCell ⟨gb221, 1, none⟩ (.string ((rd_T45 l0_5 x3_1).f1))).setCell ⟨gb221, 2, none⟩ (.int .i64 ((rd_T45 l0_5 x3_1).f2))).setCell ⟨gb221, 3, none⟩ (.int .i64 ((rd_T45 l0_5 x3_1).f3))).setCell ⟨gb221, 4, none⟩ (.int .i64 ((rd_T45 l0_5 x3_1).f4))).setCell ⟨gb221, 5, none⟩ (.string ((rd_T45 l0_5 x3_1).f5))).setCell ⟨gb221, 6, none⟩ (.int .i64 ((rd_T45 l0_5 x3_1).f6))).setCell ⟨gb221, 7, none⟩ (.int .i64 ((rd_T45 l0_5 x3_1).f7))).heap[gb221]? = some (.cells #[.int .i64 ((rd_T45 l0_5 x3_1).f0), .string ((rd_T45 l0_5 x3_1).f1), .int .i64 ((rd_T45 l0_5 x3_1).f2), .int .i64 ((rd_T45 l0_5 x3_1).f3), .int .i64 ((rd_T45 l0_5 x3_1).f4), .string ((rd_T45 l0_5 x3_1).f5), .int .i64 ((rd_T45 l0_5 x3_1).f6), .int .i64 ((rd_T45 l0_5 x3_1).f7)] 45 (0, 0))) := ⟨by (with_reducible repeat (first | refine blk_drewN ?_ _ | refine blk_drew ?_ | refine blk_alloc ?_ _)); refine Go.Proofs.YtahfemlfdpbkkaaV.blk_all8 (show _ = some (Go.Obj.cells #[.int .i64 0, .string (⟨#[]⟩ : ByteArray), .int .i64 0, .int .i64 0, .int .i64 0, .string (⟨#[]⟩ : ByteArray), .int .i64 0, .int .i64 0] _ (0, 0)) from ?_); (with_reducible repeat (first | refine blk_drewN ?_ _ | refine blk_drew ?_ | refine blk_alloc ?_ _)); exact BK221.out⟩
           have n2_ : Aside0 (Below w.heap.size w ((((((((w7.setCell ⟨gb221, 0, none⟩ (.int .i64 ((rd_T45 l0_5 x3_1).f0))).setCell ⟨gb221, 1, none⟩ (.string ((rd_T45 l0_5 x3_1).f1))).setCell ⟨gb221, 2, none⟩ (.int .i64 ((rd_T45 l0_5 x3_1).f2))).setCell ⟨gb221, 3, none⟩ (.int .i64 ((rd_T45 l0_5 x3_1).f3))).setCell ⟨gb221, 4, none⟩ (.int .i64 ((rd_T45 l0_5 x3_1).f4))).setCell ⟨gb221, 5, none⟩ (.string ((rd_T45 l0_5 x3_1).f5))).setCell ⟨gb221, 6, none⟩ (.int .i64 ((rd_T45 l0_5 x3_1).f6))).setCell ⟨gb221, 7, none⟩ (.int .i64 ((rd_T45 l0_5 x3_1).f7)))) := ⟨qB HB⟩
           (try clear BK219)
           (try clear BK221)
           (try clear HB)
           generalize ((((((((w7.setCell ⟨gb221, 0, none⟩ (.int .i64 ((rd_T45 l0_5 x3_1).f0))).setCell ⟨gb221, 1, none⟩ (.string ((rd_T45 l0_5 x3_1).f1))).setCell ⟨gb221, 2, none⟩ (.int .i64 ((rd_T45 l0_5 x3_1).f2))).setCell ⟨gb221, 3, none⟩ (.int .i64 ((rd_T45 l0_5 x3_1).f3))).setCell ⟨gb221, 4, none⟩ (.int .i64 ((rd_T45 l0_5 x3_1).f4))).setCell ⟨gb221, 5, none⟩ (.string ((rd_T45 l0_5 x3_1).f5))).setCell ⟨gb221, 6, none⟩ (.int .i64 ((rd_T45 l0_5 x3_1).f6))).setCell ⟨gb221, 7, none⟩ (.int .i64 ((rd_T45 l0_5 x3_1).f7))) = w17 at n0_ n1_ n2_ ⊢
           have BK219 := n0_
           have BK221 := n1_
           have HB := n2_
           clear n0_ n1_ n2_
           replace BK219 := am_ (blk_drew BK219.out)
           replace BK221 := am_ (blk_drew BK221.out)
           replace HB := am_ (below_drew1 HB.out)
           have p223 : 0 ≤ ((ji13) : Int) := od_
           have q223 : (ji13) < (l0_5.length : Int) := od_
           obtain ⟨ad223, e223, hx223_0, hx223_1, hx223_2, hx223_3, hx223_4, hx223_5, hx223_6, hx223_7⟩ := at_T45 HR0_5.out (ji13) p223 q223
           have hw223_7 := hx223_7
           have hw223_6 := hx223_6
           have hw223_5 := hx223_5
           have hw223_4 := hx223_4
           have hw223_3 := hx223_3
           have hw223_2 := hx223_2
           have hw223_1 := hx223_1
           have hw223_0 := hx223_0
           obtain rfl : ad220 = ad223 := (by injection e223)
           replace hx223_0 := lb_ HB hx223_0
           replace hx223_1 := lb_ HB hx223_1
           replace hx223_2 := lb_ HB hx223_2
           replace hx223_3 := lb_ HB hx223_3
           replace hx223_4 := lb_ HB hx223_4
           replace hx223_5 := lb_ HB hx223_5
           replace hx223_6 := lb_ HB hx223_6
           replace hx223_7 := lb_ HB hx223_7
           replace p223 := eq_true p223
           replace q223 := eq_true q223
           refine start_ (n := 27) (S := fun w' => w'.cell? ⟨gb221, 0, none⟩ = some (.int .i64 ((rd_T45 l0_5 x3_1).f0)) ∧ w'.cell? ⟨gb221, 1, none⟩ = some (.string ((rd_T45 l0_5 x3_1).f1)) ∧ w'.cell? ⟨gb221, 2, none⟩ = some (.int .i64 ((rd_T45 l0_5 x3_1).f2)) ∧ w'.cell? ⟨gb221, 3, none⟩ = some (.int .i64 ((rd_T45 l0_5 x3_1).f3)) ∧ w'.cell? ⟨gb221, 4, none⟩ = some (.int .i64 ((rd_T45 l0_5 x3_1).f4)) ∧ w'.cell? ⟨gb221, 5, none⟩ = some (.string ((rd_T45 l0_5 x3_1).f5)) ∧ w'.cell? ⟨gb221, 6, none⟩ = some (.int .i64 ((rd_T45 l0_5 x3_1).f6)) ∧ w'.cell? ⟨gb221, 7, none⟩ = some (.int .i64 ((rd_T45 l0_5 x3_1).f7)) ∧ w'.cell? ⟨gb219, 0, none⟩ = some (.int .i64 a0_0) ∧ w'.cell? ⟨gb219, 1, none⟩ = some (.int .i64 a0_1) ∧ w'.cell? ⟨gb219, 2, none⟩ = some (.int .i64 a0_2) ∧ w'.cell? ⟨gb219, 3, none⟩ = some (.slice A0_3 l0_3.length c0_3) ∧ w'.cell? ⟨gb219, 4, none⟩ = some (.bool a0_4) ∧ w'.cell? ⟨gb219, 5, none⟩ = some (.slice (some ad220) l0_5.length c0_5) ∧ w'.cell? ⟨gb219, 6, none⟩ = some (.slice A0_6 l0_6.length c0_6) ∧ w'.cell? ⟨gb219, 7, none⟩ = some (.int .i64 a0_7) ∧ w'.cell? ⟨gb219, 8, none⟩ = some (.int .i64 a0_8) ∧ w'.cell? ⟨gb219, 9, none⟩ = some (.int .i64 a0_9) ∧ w'.cell? ⟨gb219, 10, none⟩ = some (.int .i64 a0_10) ∧ w'.cell? ⟨gb219, 11, none⟩ = some (.int .i64 a0_11) ∧ w'.cell? (ad220.add (((ji13)).toNat * 8)) = some (.int .i64 ((rd_T45 l0_5 (ji13)).f0)) ∧ w'.cell? ⟨(ad220.add (((ji13)).toNat * 8)).block, (ad220.add (((ji13)).toNat * 8)).off + 1, none⟩ = some (.string ((rd_T45 l0_5 (ji13)).f1)) ∧ w'.cell? ⟨(ad220.add (((ji13)).toNat * 8)).block, (ad220.add (((ji13)).toNat * 8)).off + 2, none⟩ = some (.int .i64 ((rd_T45 l0_5 (ji13)).f2)) ∧ w'.cell? ⟨(ad220.add (((ji13)).toNat * 8)).block, (ad220.add (((ji13)).toNat * 8)).off + 3, none⟩ = some (.int .i64 ((rd_T45 l0_5 (ji13)).f3)) ∧ w'.cell? ⟨(ad220.add (((ji13)).toNat * 8)).block, (ad220.add (((ji13)).toNat * 8)).off + 4, none⟩ = some (.int .i64 ((rd_T45 l0_5 (ji13)).f4)) ∧ w'.cell? ⟨(ad220.add (((ji13)).toNat * 8)).block, (ad220.add (((ji13)).toNat * 8)).off + 5, none⟩ = some (.string ((rd_T45 l0_5 (ji13)).f5)) ∧ w'.cell? ⟨(ad220.add (((ji13)).toNat * 8)).block, (ad220.add (((ji13)).toNat * 8)).off + 6, none⟩ = some (.int .i64 ((rd_T45 l0_5 (ji13)).f6)) ∧ w'.cell? ⟨(ad220.add (((ji13)).toNat * 8)).block, (ad220.add (((ji13)).toNat * 8)).off + 7, none⟩ = some (.int .i64 ((rd_T45 l0_5 (ji13)).f7))) (ds := []) (rl [0,27]) (by kernel_rfl) rfl rfl (cw8 BK221.out (cw12 BK219.out ⟨(lb_ HB hw223_0 :), (lb_ HB hw223_1 :), (lb_ HB hw223_2 :), (lb_ HB hw223_3 :), (lb_ HB hw223_4 :), (lb_ HB hw223_5 :), (lb_ HB hw223_6 :), (lb_ HB hw223_7 :)⟩)) (fun hHeld => ?_); refine with_tabW spec_l10Lists.tab5 spec_l10Lists.bits5 (fun HT_ HW_ => ?_)
           generalize w17.drew = w18 at BK219 BK221 HB hx223_0 hx223_1 hx223_2 hx223_3 hx223_4 hx223_5 hx223_6 hx223_7 hHeld ⊢
           refine take_ (i := 0) (N := some 19) (v := ?_) (a' := ?_) (rl [1,26]) rfl rfl (take_ofW HT_.out HW_.out (by kernel_rfl)) (fun _ _ _ h => h) (Or.inl ⟨by rfl, ?_⟩) hHeld ?_ ?_
           rotate_left
           ·
            rintro w' ⟨s0, s1, s2, s3, s4, s5, s6, s7, s8, s9, s10, s11, s12, s13, s14, s15, s16, s17, s18, s19, s20, s21, s22, s23, s24, s25, s26, s27⟩
            go_simp
            with_reducible rfl
           rotate_left
           ·
            exact ap_
           refine one_ (i := 1) (N := some 20) (rl [2,25]) rfl rfl (one_of HT_.out (by kernel_rfl)) (by decide) (fun K hK => ?_)
           refine goes_ Try.func73 (by kernel_rfl) rfl #[.agg #[.int .i64 ((rd_T45 l0_5 x3_1).f0), .string ((rd_T45 l0_5 x3_1).f1), .int .i64 ((rd_T45 l0_5 x3_1).f2), .int .i64 ((rd_T45 l0_5 x3_1).f3), .int .i64 ((rd_T45 l0_5 x3_1).f4), .string ((rd_T45 l0_5 x3_1).f5), .int .i64 ((rd_T45 l0_5 x3_1).f6), .int .i64 ((rd_T45 l0_5 x3_1).f7)]] (by rfl) rfl rfl la_ ?_
           with_reducible refine (spec_AskerOk.calls k1 ((rd_T45 l0_5 x3_1).f0) ((rd_T45 l0_5 x3_1).f1) ((rd_T45 l0_5 x3_1).f2) ((rd_T45 l0_5 x3_1).f3) ((rd_T45 l0_5 x3_1).f4) ((rd_T45 l0_5 x3_1).f5) ((rd_T45 l0_5 x3_1).f6) ((rd_T45 l0_5 x3_1).f7) true _ A10.out).mono ?_
           rintro e w19 ⟨rfl, hb⟩
           refine ⟨_, rfl, ?_⟩
           replace BK219 := am_ (blk_below (qK BK219) hb)
           replace BK221 := am_ (blk_below (qK BK221) hb)
           replace HB := am_ (below_step (qB HB) hb)
           (try clear hb)
           refine hK.out _ _ (cw8 BK221.out (cw12 BK219.out ⟨(lb_ HB hw223_0 :), (lb_ HB hw223_1 :), (lb_ HB hw223_2 :), (lb_ HB hw223_3 :), (lb_ HB hw223_4 :), (lb_ HB hw223_5 :), (lb_ HB hw223_6 :), (lb_ HB hw223_7 :)⟩)) (fun hHeld => ?_)
           clear hK K
           refine norm_ (a' := ?_) ?_ ?_
           rotate_left
           ·
            show Act.put _ (some 20) _ = _
            exact ap_
           refine pz_ (i := 2) (N := some 21) HT_ (rl [3,24]) rfl rfl ?_
           refine pz_ (i := 3) (N := some 22) HT_ (rl [4,23]) rfl rfl ?_
           refine pz_ (i := 4) (N := some 23) HT_ (rl [5,22]) rfl rfl ?_
           refine pz_ (i := 5) (N := some 24) HT_ (rl [6,21]) rfl rfl ?_
           refine pz_ (i := 6) (N := some 25) HT_ (rl [7,20]) rfl rfl ?_
           refine pz_ (i := 7) (N := some 26) HT_ (rl [8,19]) rfl rfl ?_
           refine pz_ (i := 9) (N := some 28) HT_ (rl [8,1,1,17]) rfl rfl ?_
           refine pz_ (i := 10) (N := some 29) HT_ (rl [8,1,2,16]) rfl rfl ?_
           refine pz_ (i := 14) (N := some 33) HT_ (rl [8,1,2,3,1,12]) rfl rfl ?_
           refine take_ (i := 8) (N := some 27) (v := ?_) (a' := ?_) (rl [11,3,1,12]) rfl rfl (take_ofW HT_.out HW_.out (by kernel_rfl)) (fun _ _ _ h => h) (Or.inl ⟨by rfl, ?_⟩) hHeld ?_ ?_
           rotate_left
           ·
            rintro w' ⟨s0, s1, s2, s3, s4, s5, s6, s7, s8, s9, s10, s11, s12, s13, s14, s15, s16, s17, s18, s19, s20, s21, s22, s23, s24, s25, s26, s27⟩
            go_simp
            with_reducible rfl
           rotate_left
           ·
            exact ap_
           refine pz_ (i := 11) (N := some 30) HT_ (rl [12,2,1,12]) rfl rfl ?_
           refine pz_ (i := 12) (N := some 31) HT_ (rl [13,1,1,12]) rfl rfl ?_
           refine take_ (i := 13) (N := some 32) (v := ?_) (a' := ?_) (rl [15,12]) rfl rfl (take_ofW HT_.out HW_.out (by kernel_rfl)) (fun _ _ _ h => h) (Or.inl ⟨by rfl, ?_⟩) hHeld ?_ ?_
           rotate_left
           ·
            rintro w' ⟨s0, s1, s2, s3, s4, s5, s6, s7, s8, s9, s10, s11, s12, s13, s14, s15, s16, s17, s18, s19, s20, s21, s22, s23, s24, s25, s26, s27⟩
            go_simp
            with_reducible rfl
           rotate_left
           ·
            exact ap_
           refine take_ (i := 15) (N := some 34) (v := ?_) (a' := ?_) (rl [16,11]) rfl rfl (take_ofW HT_.out HW_.out (by kernel_rfl)) (fun _ _ _ h => h) (Or.inl ⟨by rfl, ?_⟩) hHeld ?_ ?_
           rotate_left
           ·
            rintro w' ⟨s0, s1, s2, s3, s4, s5, s6, s7, s8, s9, s10, s11, s12, s13, s14, s15, s16, s17, s18, s19, s20, s21, s22, s23, s24, s25, s26, s27⟩
            go_simp
            with_reducible rfl
           rotate_left
           ·
            exact ap_
           refine pz_ (i := 16) (N := some 35) HT_ (rl [17,10]) rfl rfl ?_
           refine pz_ (i := 17) (N := some 36) HT_ (rl [18,9]) rfl rfl ?_
           refine pz_ (i := 18) (N := some 37) HT_ (rl [19,8]) rfl rfl ?_
           refine pz_ (i := 19) (N := some 38) HT_ (rl [20,7]) rfl rfl ?_
           refine pu_ (i := 20) (N := some 39) HT_ (rl [21,6]) rfl rfl ?_
           refine pu_ (i := 21) (N := some 40) HT_ (rl [22,5]) rfl rfl ?_
           refine pu_ (i := 22) (N := some 41) HT_ (rl [23,4]) rfl rfl ?_
           refine pu_ (i := 23) (N := some 42) HT_ (rl [24,3]) rfl rfl ?_
           refine pu_ (i := 24) (N := some 43) HT_ (rl [25,2]) rfl rfl ?_
           refine pu_ (i := 25) (N := some 44) HT_ (rl [26,1]) rfl rfl ?_
           refine pz_ (i := 26) (N := some 45) HT_ (rl [27]) rfl rfl ?_
           refine done_ (done_of HT_.out (by kernel_rfl)) ?_
           try go_wp2
           go_meet
           case rel => exact ⟨_, (true), eqq_, H', ⟨by have := HK1.out; first | omega | exact Nat.le_refl _⟩, ⟨qK BK219⟩, ⟨qK BK221⟩, ⟨qB HB⟩⟩
          ·
           rw [if_neg c16] at H
           have c16b0 : decide (((rd_T45 l0_5 x3_1).f0) ≤ ((rd_T45 l0_5 (ji13)).f0)) = false := decide_eq_false c16
           clear c16
           obtain ⟨t224, A20, H⟩ := bd_ H
           have H' := Aside0.mk H
           clear H
           try go_wp2
           have n0_ : Aside0 (((((((((w7.setCell ⟨gb221, 0, none⟩ (.int .i64 ((rd_T45 l0_5 x3_1).f0))).setCell ⟨gb221, 1, none⟩ (.string ((rd_T45 l0_5 x3_1).f1))).setCell ⟨gb221, 2, none⟩ (.int .i64 ((rd_T45 l0_5 x3_1).f2))).setCell ⟨gb221, 3, none⟩ (.int .i64 ((rd_T45 l0_5 x3_1).f3))).setCell ⟨gb221, 4, none⟩ (.int .i64 ((rd_T45 l0_5 x3_1).f4))).setCell ⟨gb221, 5, none⟩ (.string ((rd_T45 l0_5 x3_1).f5))).setCell ⟨gb221, 6, none⟩ (.int .i64 ((rd_T45 l0_5 x3_1).f6))).setCell ⟨gb221, 7, none⟩ (.int .i64 ((rd_T45 l0_5 x3_1).f7))).heap[gb219]? = some (.cells #[.int .i64 a0_0, .int .i64 a0_1, .int .i64 a0_2, .slice A0_3 l0_3.length c0_3, .bool a0_4, .slice (some ad220) l0_5.length c0_5, .slice A0_6 l0_6.length c0_6, .int .i64 a0_7, .int .i64 a0_8, .int .i64 a0_9, .int .i64 a0_10, .int .i64 a0_11] 67 (0, 0))) := ⟨by (with_reducible repeat (first | refine blk_drewN ?_ _ | refine blk_drew ?_ | refine blk_alloc ?_ _)); refine Go.Proofs.YtahfemlfdpbkkaaV.blk_far8 ?_ NB219_221.out; (with_reducible repeat (first | refine blk_drewN ?_ _ | refine blk_drew ?_ | refine blk_alloc ?_ _)); exact BK219.out⟩
           have n1_ : Aside0 (((((((((w7.setCell ⟨gb221, 0, none⟩ (.int .i64 ((rd_T45 l0_5 x3_1).f0))).setCell ⟨gb221, 1, none⟩ (.string ((rd_T45 l0_5 x3_1).f1))).setCell ⟨gb221, 2, none⟩ (.int .i64 ((rd_T45 l0_5 x3_1).f2))).setCell ⟨gb221, 3, none⟩ (.int .i64 ((rd_T45 l0_5 x3_1).f3))).setCell ⟨gb221, 4, none⟩ (.int .i64 ((rd_T45 l0_5 x3_1).f4))).setCell ⟨gb221, 5, none⟩ (.string ((rd_T45 l0_5 x3_1).f5))).setCell ⟨gb221, 6, none⟩ (.int .i64 ((rd_T45 l0_5 x3_1).f6))).setCell ⟨gb221, 7, none⟩ (.int .i64 ((rd_T45 l0_5 x3_1).f7))).heap[gb221]? = some (.cells #[.int .i64 ((rd_T45 l0_5 x3_1).f0), .string ((rd_T45 l0_5 x3_1).f1), .int .i64 ((rd_T45 l0_5 x3_1).f2), .int .i64 ((rd_T45 l0_5 x3_1).f3), .int .i64 ((rd_T45 l0_5 x3_1).f4), .string ((rd_T45 l0_5 x3_1).f5), .int .i64 ((rd_T45 l0_5 x3_1).f6), .int .i64 ((rd_T45 l0_5 x3_1).f7)] 45 (0, 0))) := ⟨by (with_reducible repeat (first | refine blk_drewN ?_ _ | refine blk_drew ?_ | refine blk_alloc ?_ _)); refine Go.Proofs.YtahfemlfdpbkkaaV.blk_all8 (show _ = some (Go.Obj.cells #[.int .i64 0, .string (⟨#[]⟩ : ByteArray), .int .i64 0, .int .i64 0, .int .i64 0, .string (⟨#[]⟩ : ByteArray), .int .i64 0, .int .i64 0] _ (0, 0)) from ?_); (with_reducible repeat (first | refine blk_drewN ?_ _ | refine blk_drew ?_ | refine blk_alloc ?_ _)); exact BK221.out⟩
           have n2_ : Aside0 (Below w.heap.size w ((((((((w7.setCell ⟨gb221, 0, none⟩ (.int .i64 ((rd_T45 l0_5 x3_1).f0))).setCell ⟨gb221, 1, none⟩ (.string ((rd_T45 l0_5 x3_1).f1))).setCell ⟨gb221, 2, none⟩ (.int .i64 ((rd_T45 l0_5 x3_1).f2))).setCell ⟨gb221, 3, none⟩ (.int .i64 ((rd_T45 l0_5 x3_1).f3))).setCell ⟨gb221, 4, none⟩ (.int .i64 ((rd_T45 l0_5 x3_1).f4))).setCell ⟨gb221, 5, none⟩ (.string ((rd_T45 l0_5 x3_1).f5))).setCell ⟨gb221, 6, none⟩ (.int .i64 ((rd_T45 l0_5 x3_1).f6))).setCell ⟨gb221, 7, none⟩ (.int .i64 ((rd_T45 l0_5 x3_1).f7)))) := ⟨qB HB⟩
           generalize ((((((((w7.setCell ⟨gb221, 0, none⟩ (.int .i64 ((rd_T45 l0_5 x3_1).f0))).setCell ⟨gb221, 1, none⟩ (.string ((rd_T45 l0_5 x3_1).f1))).setCell ⟨gb221, 2, none⟩ (.int .i64 ((rd_T45 l0_5 x3_1).f2))).setCell ⟨gb221, 3, none⟩ (.int .i64 ((rd_T45 l0_5 x3_1).f3))).setCell ⟨gb221, 4, none⟩ (.int .i64 ((rd_T45 l0_5 x3_1).f4))).setCell ⟨gb221, 5, none⟩ (.string ((rd_T45 l0_5 x3_1).f5))).setCell ⟨gb221, 6, none⟩ (.int .i64 ((rd_T45 l0_5 x3_1).f6))).setCell ⟨gb221, 7, none⟩ (.int .i64 ((rd_T45 l0_5 x3_1).f7))) = w21 at n0_ n1_ n2_ ⊢
           have BK219 := n0_
           have BK221 := n1_
           have HB := n2_
           clear n0_ n1_ n2_
           replace BK219 := am_ (blk_drew BK219.out)
           replace BK221 := am_ (blk_drew BK221.out)
           replace HB := am_ (below_drew1 HB.out)
           have p223 : 0 ≤ ((ji13) : Int) := od_
           have q223 : (ji13) < (l0_5.length : Int) := od_
           obtain ⟨ad223, e223, hx223_0, hx223_1, hx223_2, hx223_3, hx223_4, hx223_5, hx223_6, hx223_7⟩ := at_T45 HR0_5.out (ji13) p223 q223
           have hw223_7 := hx223_7
           have hw223_6 := hx223_6
           have hw223_5 := hx223_5
           have hw223_4 := hx223_4
           have hw223_3 := hx223_3
           have hw223_2 := hx223_2
           have hw223_1 := hx223_1
           have hw223_0 := hx223_0
           obtain rfl : ad220 = ad223 := (by injection e223)
           replace hx223_0 := lb_ HB hx223_0
           replace hx223_1 := lb_ HB hx223_1
           replace hx223_2 := lb_ HB hx223_2
           replace hx223_3 := lb_ HB hx223_3
           replace hx223_4 := lb_ HB hx223_4
           replace hx223_5 := lb_ HB hx223_5
           replace hx223_6 := lb_ HB hx223_6
           replace hx223_7 := lb_ HB hx223_7
           replace p223 := eq_true p223
           replace q223 := eq_true q223
           refine start_ (n := 27) (S := fun w' => w'.cell? ⟨gb221, 0, none⟩ = some (.int .i64 ((rd_T45 l0_5 x3_1).f0)) ∧ w'.cell? ⟨gb221, 1, none⟩ = some (.string ((rd_T45 l0_5 x3_1).f1)) ∧ w'.cell? ⟨gb221, 2, none⟩ = some (.int .i64 ((rd_T45 l0_5 x3_1).f2)) ∧ w'.cell? ⟨gb221, 3, none⟩ = some (.int .i64 ((rd_T45 l0_5 x3_1).f3)) ∧ w'.cell? ⟨gb221, 4, none⟩ = some (.int .i64 ((rd_T45 l0_5 x3_1).f4)) ∧ w'.cell? ⟨gb221, 5, none⟩ = some (.string ((rd_T45 l0_5 x3_1).f5)) ∧ w'.cell? ⟨gb221, 6, none⟩ = some (.int .i64 ((rd_T45 l0_5 x3_1).f6)) ∧ w'.cell? ⟨gb221, 7, none⟩ = some (.int .i64 ((rd_T45 l0_5 x3_1).f7)) ∧ w'.cell? ⟨gb219, 0, none⟩ = some (.int .i64 a0_0) ∧ w'.cell? ⟨gb219, 1, none⟩ = some (.int .i64 a0_1) ∧ w'.cell? ⟨gb219, 2, none⟩ = some (.int .i64 a0_2) ∧ w'.cell? ⟨gb219, 3, none⟩ = some (.slice A0_3 l0_3.length c0_3) ∧ w'.cell? ⟨gb219, 4, none⟩ = some (.bool a0_4) ∧ w'.cell? ⟨gb219, 5, none⟩ = some (.slice (some ad220) l0_5.length c0_5) ∧ w'.cell? ⟨gb219, 6, none⟩ = some (.slice A0_6 l0_6.length c0_6) ∧ w'.cell? ⟨gb219, 7, none⟩ = some (.int .i64 a0_7) ∧ w'.cell? ⟨gb219, 8, none⟩ = some (.int .i64 a0_8) ∧ w'.cell? ⟨gb219, 9, none⟩ = some (.int .i64 a0_9) ∧ w'.cell? ⟨gb219, 10, none⟩ = some (.int .i64 a0_10) ∧ w'.cell? ⟨gb219, 11, none⟩ = some (.int .i64 a0_11) ∧ w'.cell? (ad220.add (((ji13)).toNat * 8)) = some (.int .i64 ((rd_T45 l0_5 (ji13)).f0)) ∧ w'.cell? ⟨(ad220.add (((ji13)).toNat * 8)).block, (ad220.add (((ji13)).toNat * 8)).off + 1, none⟩ = some (.string ((rd_T45 l0_5 (ji13)).f1)) ∧ w'.cell? ⟨(ad220.add (((ji13)).toNat * 8)).block, (ad220.add (((ji13)).toNat * 8)).off + 2, none⟩ = some (.int .i64 ((rd_T45 l0_5 (ji13)).f2)) ∧ w'.cell? ⟨(ad220.add (((ji13)).toNat * 8)).block, (ad220.add (((ji13)).toNat * 8)).off + 3, none⟩ = some (.int .i64 ((rd_T45 l0_5 (ji13)).f3)) ∧ w'.cell? ⟨(ad220.add (((ji13)).toNat * 8)).block, (ad220.add (((ji13)).toNat * 8)).off + 4, none⟩ = some (.int .i64 ((rd_T45 l0_5 (ji13)).f4)) ∧ w'.cell? ⟨(ad220.add (((ji13)).toNat * 8)).block, (ad220.add (((ji13)).toNat * 8)).off + 5, none⟩ = some (.string ((rd_T45 l0_5 (ji13)).f5)) ∧ w'.cell? ⟨(ad220.add (((ji13)).toNat * 8)).block, (ad220.add (((ji13)).toNat * 8)).off + 6, none⟩ = some (.int .i64 ((rd_T45 l0_5 (ji13)).f6)) ∧ w'.cell? ⟨(ad220.add (((ji13)).toNat * 8)).block, (ad220.add (((ji13)).toNat * 8)).off + 7, none⟩ = some (.int .i64 ((rd_T45 l0_5 (ji13)).f7))) (ds := []) (rl [0,27]) (by kernel_rfl) rfl rfl (cw8 BK221.out (cw12 BK219.out ⟨(lb_ HB hw223_0 :), (lb_ HB hw223_1 :), (lb_ HB hw223_2 :), (lb_ HB hw223_3 :), (lb_ HB hw223_4 :), (lb_ HB hw223_5 :), (lb_ HB hw223_6 :), (lb_ HB hw223_7 :)⟩)) (fun hHeld => ?_); refine with_tabW spec_l10Lists.tab5 spec_l10Lists.bits5 (fun HT_ HW_ => ?_)
           generalize w21.drew = w22 at BK219 BK221 HB hx223_0 hx223_1 hx223_2 hx223_3 hx223_4 hx223_5 hx223_6 hx223_7 hHeld ⊢
           refine take_ (i := 0) (N := some 19) (v := ?_) (a' := ?_) (rl [1,26]) rfl rfl (take_ofW HT_.out HW_.out (by kernel_rfl)) (fun _ _ _ h => h) (Or.inl ⟨by rfl, ?_⟩) hHeld ?_ ?_
           rotate_left
           ·
            rintro w' ⟨s0, s1, s2, s3, s4, s5, s6, s7, s8, s9, s10, s11, s12, s13, s14, s15, s16, s17, s18, s19, s20, s21, s22, s23, s24, s25, s26, s27⟩
            go_simp
            with_reducible rfl
           rotate_left
           ·
            exact ap_
           refine one_ (i := 1) (N := some 20) (rl [2,25]) rfl rfl (one_of HT_.out (by kernel_rfl)) (by decide) (fun K hK => ?_)
           refine goes_ Try.func73 (by kernel_rfl) rfl #[.agg #[.int .i64 ((rd_T45 l0_5 x3_1).f0), .string ((rd_T45 l0_5 x3_1).f1), .int .i64 ((rd_T45 l0_5 x3_1).f2), .int .i64 ((rd_T45 l0_5 x3_1).f3), .int .i64 ((rd_T45 l0_5 x3_1).f4), .string ((rd_T45 l0_5 x3_1).f5), .int .i64 ((rd_T45 l0_5 x3_1).f6), .int .i64 ((rd_T45 l0_5 x3_1).f7)]] (by rfl) rfl rfl la_ ?_
           with_reducible refine (spec_AskerOk.calls k1 ((rd_T45 l0_5 x3_1).f0) ((rd_T45 l0_5 x3_1).f1) ((rd_T45 l0_5 x3_1).f2) ((rd_T45 l0_5 x3_1).f3) ((rd_T45 l0_5 x3_1).f4) ((rd_T45 l0_5 x3_1).f5) ((rd_T45 l0_5 x3_1).f6) ((rd_T45 l0_5 x3_1).f7) true _ A10.out).mono ?_
           rintro e w23 ⟨rfl, hb⟩
           refine ⟨_, rfl, ?_⟩
           replace BK219 := am_ (blk_below (qK BK219) hb)
           replace BK221 := am_ (blk_below (qK BK221) hb)
           replace HB := am_ (below_step (qB HB) hb)
           (try clear hb)
           refine hK.out _ _ (cw8 BK221.out (cw12 BK219.out ⟨(lb_ HB hw223_0 :), (lb_ HB hw223_1 :), (lb_ HB hw223_2 :), (lb_ HB hw223_3 :), (lb_ HB hw223_4 :), (lb_ HB hw223_5 :), (lb_ HB hw223_6 :), (lb_ HB hw223_7 :)⟩)) (fun hHeld => ?_)
           clear hK K
           refine norm_ (a' := ?_) ?_ ?_
           rotate_left
           ·
            show Act.put _ (some 20) _ = _
            exact ap_
           refine pz_ (i := 2) (N := some 21) HT_ (rl [3,24]) rfl rfl ?_
           refine pz_ (i := 3) (N := some 22) HT_ (rl [4,23]) rfl rfl ?_
           refine pz_ (i := 4) (N := some 23) HT_ (rl [5,22]) rfl rfl ?_
           refine pz_ (i := 5) (N := some 24) HT_ (rl [6,21]) rfl rfl ?_
           refine pz_ (i := 6) (N := some 25) HT_ (rl [7,20]) rfl rfl ?_
           refine pz_ (i := 7) (N := some 26) HT_ (rl [8,19]) rfl rfl ?_
           refine pz_ (i := 9) (N := some 28) HT_ (rl [8,1,1,17]) rfl rfl ?_
           refine pz_ (i := 10) (N := some 29) HT_ (rl [8,1,2,16]) rfl rfl ?_
           refine pz_ (i := 14) (N := some 33) HT_ (rl [8,1,2,3,1,12]) rfl rfl ?_
           refine take_ (i := 8) (N := some 27) (v := ?_) (a' := ?_) (rl [11,3,1,12]) rfl rfl (take_ofW HT_.out HW_.out (by kernel_rfl)) (fun _ _ _ h => h) (Or.inl ⟨by rfl, ?_⟩) hHeld ?_ ?_
           rotate_left
           ·
            rintro w' ⟨s0, s1, s2, s3, s4, s5, s6, s7, s8, s9, s10, s11, s12, s13, s14, s15, s16, s17, s18, s19, s20, s21, s22, s23, s24, s25, s26, s27⟩
            go_simp
            with_reducible rfl
           rotate_left
           ·
            exact ap_
           refine pz_ (i := 11) (N := some 30) HT_ (rl [12,2,1,12]) rfl rfl ?_
           refine pz_ (i := 12) (N := some 31) HT_ (rl [13,1,1,12]) rfl rfl ?_
           refine take_ (i := 13) (N := some 32) (v := ?_) (a' := ?_) (rl [15,12]) rfl rfl (take_ofW HT_.out HW_.out (by kernel_rfl)) (fun _ _ _ h => h) (Or.inl ⟨by rfl, ?_⟩) hHeld ?_ ?_
           rotate_left
           ·
            rintro w' ⟨s0, s1, s2, s3, s4, s5, s6, s7, s8, s9, s10, s11, s12, s13, s14, s15, s16, s17, s18, s19, s20, s21, s22, s23, s24, s25, s26, s27⟩
            go_simp
            with_reducible rfl
           rotate_left
           ·
            exact ap_
           refine take_ (i := 15) (N := some 34) (v := ?_) (a' := ?_) (rl [16,11]) rfl rfl (take_ofW HT_.out HW_.out (by kernel_rfl)) (fun _ _ _ h => h) (Or.inl ⟨by rfl, ?_⟩) hHeld ?_ ?_
           rotate_left
           ·
            rintro w' ⟨s0, s1, s2, s3, s4, s5, s6, s7, s8, s9, s10, s11, s12, s13, s14, s15, s16, s17, s18, s19, s20, s21, s22, s23, s24, s25, s26, s27⟩
            go_simp
            with_reducible rfl
           rotate_left
           ·
            exact ap_
           refine pz_ (i := 16) (N := some 35) HT_ (rl [17,10]) rfl rfl ?_
           refine pz_ (i := 17) (N := some 36) HT_ (rl [18,9]) rfl rfl ?_
           refine pz_ (i := 18) (N := some 37) HT_ (rl [19,8]) rfl rfl ?_
           refine pz_ (i := 19) (N := some 38) HT_ (rl [20,7]) rfl rfl ?_
           refine pz_ (i := 20) (N := some 39) HT_ (rl [21,6]) rfl rfl ?_
           refine pz_ (i := 22) (N := some 41) HT_ (rl [21,1,1,4]) rfl rfl ?_
           refine take_ (i := 21) (N := some 40) (v := ?_) (a' := ?_) (rl [23,4]) rfl rfl (take_ofW HT_.out HW_.out (by kernel_rfl)) (fun _ _ _ h => h) (Or.inl ⟨by rfl, ?_⟩) hHeld ?_ ?_
           rotate_left
           ·
            rintro w' ⟨s0, s1, s2, s3, s4, s5, s6, s7, s8, s9, s10, s11, s12, s13, s14, s15, s16, s17, s18, s19, s20, s21, s22, s23, s24, s25, s26, s27⟩
            go_simp
            with_reducible rfl
           rotate_left
           ·
            exact ap_
           refine take_ (i := 23) (N := some 42) (v := ?_) (a' := ?_) (rl [24,3]) rfl rfl (take_ofW HT_.out HW_.out (by kernel_rfl)) (fun _ _ _ h => h) (Or.inl ⟨by rfl, ?_⟩) hHeld ?_ ?_
           rotate_left
           ·
            rintro w' ⟨s0, s1, s2, s3, s4, s5, s6, s7, s8, s9, s10, s11, s12, s13, s14, s15, s16, s17, s18, s19, s20, s21, s22, s23, s24, s25, s26, s27⟩
            go_simp
            with_reducible rfl
           rotate_left
           ·
            exact ap_
           refine one_ (i := 24) (N := some 43) (rl [25,2]) rfl rfl (one_of HT_.out (by kernel_rfl)) (by decide) (fun K hK => ?_)
           refine goes_ Try.func158 (by kernel_rfl) rfl #[.slice A0_6 l0_6.length c0_6, .int .i64 ((rd_T45 l0_5 x3_1).f0)] (by rfl) rfl rfl la_ ?_
           with_reducible refine (spec_LineAt.calls k1 _ _ l0_6 ((rd_T45 l0_5 x3_1).f0) t224 _ ?side1 ?side2 A20.out).mono ?_
           (case side1 => exact qC (Kd.C_below HR0_6.out HB.out))
           (case side2 => exact HC0_6.out)
           rintro e w' ⟨rfl, ⟨nd, rfl⟩⟩
           refine ⟨_, rfl, ?_⟩
           refine hK.out _ _ (cw8 BK221.out (cw12 BK219.out ⟨(lb_ HB hw223_0 :), (lb_ HB hw223_1 :), (lb_ HB hw223_2 :), (lb_ HB hw223_3 :), (lb_ HB hw223_4 :), (lb_ HB hw223_5 :), (lb_ HB hw223_6 :), (lb_ HB hw223_7 :)⟩)) (fun hHeld => ?_)
           clear hK K
           refine norm_ (a' := ?_) ?_ ?_
           rotate_left
           ·
            show Act.put _ (some 43) _ = _
            exact ap_
           refine pz_ (i := 25) (N := some 44) HT_ (rl [26,1]) rfl rfl ?_
           refine pz_ (i := 26) (N := some 45) HT_ (rl [27]) rfl rfl ?_
           refine done_ (done_of HT_.out (by kernel_rfl)) ?_
           try go_wp2
           go_meet
           case rel => exact ⟨_, (decide (t224 ≥ 0)), eqq_, H', ⟨by have := HK1.out; first | omega | exact Nat.le_refl _⟩, ⟨qK BK219⟩, ⟨qK BK221⟩, ⟨qB HB⟩⟩
         ·
          rw [if_neg c15] at H
          exact absurd H (by simp)
        ·
         rw [if_neg c14] at H
         exact absurd H (by simp)
       ·
        rw [if_neg c12] at H
        have c12b0 : decide (0 < x3_1) = false := decide_eq_false c12
        clear c12
        (first | rw [c12b0] | (simp only [i64_w, i32_w]; rw [c12b0]) | skip)
        obtain ⟨t225, A24, H⟩ := bd_ H
        have H' := Aside0.mk H
        clear H
        try go_wp2
        have n0_ : Aside0 (((((((((w7.setCell ⟨gb221, 0, none⟩ (.int .i64 ((rd_T45 l0_5 x3_1).f0))).setCell ⟨gb221, 1, none⟩ (.string ((rd_T45 l0_5 x3_1).f1))).setCell ⟨gb221, 2, none⟩ (.int .i64 ((rd_T45 l0_5 x3_1).f2))).setCell ⟨gb221, 3, none⟩ (.int .i64 ((rd_T45 l0_5 x3_1).f3))).setCell ⟨gb221, 4, none⟩ (.int .i64 ((rd_T45 l0_5 x3_1).f4))).setCell ⟨gb221, 5, none⟩ (.string ((rd_T45 l0_5 x3_1).f5))).setCell ⟨gb221, 6, none⟩ (.int .i64 ((rd_T45 l0_5 x3_1).f6))).setCell ⟨gb221, 7, none⟩ (.int .i64 ((rd_T45 l0_5 x3_1).f7))).heap[gb219]? = some (.cells #[.int .i64 a0_0, .int .i64 a0_1, .int .i64 a0_2, .slice A0_3 l0_3.length c0_3, .bool a0_4, .slice (some ad220) l0_5.length c0_5, .slice A0_6 l0_6.length c0_6, .int .i64 a0_7, .int .i64 a0_8, .int .i64 a0_9, .int .i64 a0_10, .int .i64 a0_11] 67 (0, 0))) := ⟨by (with_reducible repeat (first | refine blk_drewN ?_ _ | refine blk_drew ?_ | refine blk_alloc ?_ _)); refine Go.Proofs.YtahfemlfdpbkkaaV.blk_far8 ?_ NB219_221.out; (with_reducible repeat (first | refine blk_drewN ?_ _ | refine blk_drew ?_ | refine blk_alloc ?_ _)); exact BK219.out⟩
        have n1_ : Aside0 (((((((((w7.setCell ⟨gb221, 0, none⟩ (.int .i64 ((rd_T45 l0_5 x3_1).f0))).setCell ⟨gb221, 1, none⟩ (.string ((rd_T45 l0_5 x3_1).f1))).setCell ⟨gb221, 2, none⟩ (.int .i64 ((rd_T45 l0_5 x3_1).f2))).setCell ⟨gb221, 3, none⟩ (.int .i64 ((rd_T45 l0_5 x3_1).f3))).setCell ⟨gb221, 4, none⟩ (.int .i64 ((rd_T45 l0_5 x3_1).f4))).setCell ⟨gb221, 5, none⟩ (.string ((rd_T45 l0_5 x3_1).f5))).setCell ⟨gb221, 6, none⟩ (.int .i64 ((rd_T45 l0_5 x3_1).f6))).setCell ⟨gb221, 7, none⟩ (.int .i64 ((rd_T45 l0_5 x3_1).f7))).heap[gb221]? = some (.cells #[.int .i64 ((rd_T45 l0_5 x3_1).f0), .string ((rd_T45 l0_5 x3_1).f1), .int .i64 ((rd_T45 l0_5 x3_1).f2), .int .i64 ((rd_T45 l0_5 x3_1).f3), .int .i64 ((rd_T45 l0_5 x3_1).f4), .string ((rd_T45 l0_5 x3_1).f5), .int .i64 ((rd_T45 l0_5 x3_1).f6), .int .i64 ((rd_T45 l0_5 x3_1).f7)] 45 (0, 0))) := ⟨by (with_reducible repeat (first | refine blk_drewN ?_ _ | refine blk_drew ?_ | refine blk_alloc ?_ _)); refine Go.Proofs.YtahfemlfdpbkkaaV.blk_all8 (show _ = some (Go.Obj.cells #[.int .i64 0, .string (⟨#[]⟩ : ByteArray), .int .i64 0, .int .i64 0, .int .i64 0, .string (⟨#[]⟩ : ByteArray), .int .i64 0, .int .i64 0] _ (0, 0)) from ?_); (with_reducible repeat (first | refine blk_drewN ?_ _ | refine blk_drew ?_ | refine blk_alloc ?_ _)); exact BK221.out⟩
        have n2_ : Aside0 (Below w.heap.size w ((((((((w7.setCell ⟨gb221, 0, none⟩ (.int .i64 ((rd_T45 l0_5 x3_1).f0))).setCell ⟨gb221, 1, none⟩ (.string ((rd_T45 l0_5 x3_1).f1))).setCell ⟨gb221, 2, none⟩ (.int .i64 ((rd_T45 l0_5 x3_1).f2))).setCell ⟨gb221, 3, none⟩ (.int .i64 ((rd_T45 l0_5 x3_1).f3))).setCell ⟨gb221, 4, none⟩ (.int .i64 ((rd_T45 l0_5 x3_1).f4))).setCell ⟨gb221, 5, none⟩ (.string ((rd_T45 l0_5 x3_1).f5))).setCell ⟨gb221, 6, none⟩ (.int .i64 ((rd_T45 l0_5 x3_1).f6))).setCell ⟨gb221, 7, none⟩ (.int .i64 ((rd_T45 l0_5 x3_1).f7)))) := ⟨qB HB⟩
        generalize ((((((((w7.setCell ⟨gb221, 0, none⟩ (.int .i64 ((rd_T45 l0_5 x3_1).f0))).setCell ⟨gb221, 1, none⟩ (.string ((rd_T45 l0_5 x3_1).f1))).setCell ⟨gb221, 2, none⟩ (.int .i64 ((rd_T45 l0_5 x3_1).f2))).setCell ⟨gb221, 3, none⟩ (.int .i64 ((rd_T45 l0_5 x3_1).f3))).setCell ⟨gb221, 4, none⟩ (.int .i64 ((rd_T45 l0_5 x3_1).f4))).setCell ⟨gb221, 5, none⟩ (.string ((rd_T45 l0_5 x3_1).f5))).setCell ⟨gb221, 6, none⟩ (.int .i64 ((rd_T45 l0_5 x3_1).f6))).setCell ⟨gb221, 7, none⟩ (.int .i64 ((rd_T45 l0_5 x3_1).f7))) = w25 at n0_ n1_ n2_ ⊢
        have BK219 := n0_
        have BK221 := n1_
        have HB := n2_
        clear n0_ n1_ n2_
        replace BK219 := am_ (blk_drew BK219.out)
        replace BK221 := am_ (blk_drew BK221.out)
        replace HB := am_ (below_drew1 HB.out)
        refine start_ (n := 27) (S := fun w' => w'.cell? ⟨gb221, 0, none⟩ = some (.int .i64 ((rd_T45 l0_5 x3_1).f0)) ∧ w'.cell? ⟨gb221, 1, none⟩ = some (.string ((rd_T45 l0_5 x3_1).f1)) ∧ w'.cell? ⟨gb221, 2, none⟩ = some (.int .i64 ((rd_T45 l0_5 x3_1).f2)) ∧ w'.cell? ⟨gb221, 3, none⟩ = some (.int .i64 ((rd_T45 l0_5 x3_1).f3)) ∧ w'.cell? ⟨gb221, 4, none⟩ = some (.int .i64 ((rd_T45 l0_5 x3_1).f4)) ∧ w'.cell? ⟨gb221, 5, none⟩ = some (.string ((rd_T45 l0_5 x3_1).f5)) ∧ w'.cell? ⟨gb221, 6, none⟩ = some (.int .i64 ((rd_T45 l0_5 x3_1).f6)) ∧ w'.cell? ⟨gb221, 7, none⟩ = some (.int .i64 ((rd_T45 l0_5 x3_1).f7)) ∧ w'.cell? ⟨gb219, 0, none⟩ = some (.int .i64 a0_0) ∧ w'.cell? ⟨gb219, 1, none⟩ = some (.int .i64 a0_1) ∧ w'.cell? ⟨gb219, 2, none⟩ = some (.int .i64 a0_2) ∧ w'.cell? ⟨gb219, 3, none⟩ = some (.slice A0_3 l0_3.length c0_3) ∧ w'.cell? ⟨gb219, 4, none⟩ = some (.bool a0_4) ∧ w'.cell? ⟨gb219, 5, none⟩ = some (.slice (some ad220) l0_5.length c0_5) ∧ w'.cell? ⟨gb219, 6, none⟩ = some (.slice A0_6 l0_6.length c0_6) ∧ w'.cell? ⟨gb219, 7, none⟩ = some (.int .i64 a0_7) ∧ w'.cell? ⟨gb219, 8, none⟩ = some (.int .i64 a0_8) ∧ w'.cell? ⟨gb219, 9, none⟩ = some (.int .i64 a0_9) ∧ w'.cell? ⟨gb219, 10, none⟩ = some (.int .i64 a0_10) ∧ w'.cell? ⟨gb219, 11, none⟩ = some (.int .i64 a0_11)) (ds := []) (rl [0,27]) (by kernel_rfl) rfl rfl (cw8 BK221.out (cz12 BK219.out)) (fun hHeld => ?_); refine with_tabW spec_l10Lists.tab5 spec_l10Lists.bits5 (fun HT_ HW_ => ?_)
        generalize w25.drew = w26 at BK219 BK221 HB hHeld ⊢
        refine take_ (i := 0) (N := some 19) (v := ?_) (a' := ?_) (rl [1,26]) rfl rfl (take_ofW HT_.out HW_.out (by kernel_rfl)) (fun _ _ _ h => h) (Or.inl ⟨by rfl, ?_⟩) hHeld ?_ ?_
        rotate_left
        ·
         rintro w' ⟨s0, s1, s2, s3, s4, s5, s6, s7, s8, s9, s10, s11, s12, s13, s14, s15, s16, s17, s18, s19⟩
         go_simp
         with_reducible rfl
        rotate_left
        ·
         exact ap_
        refine one_ (i := 1) (N := some 20) (rl [2,25]) rfl rfl (one_of HT_.out (by kernel_rfl)) (by decide) (fun K hK => ?_)
        refine goes_ Try.func73 (by kernel_rfl) rfl #[.agg #[.int .i64 ((rd_T45 l0_5 x3_1).f0), .string ((rd_T45 l0_5 x3_1).f1), .int .i64 ((rd_T45 l0_5 x3_1).f2), .int .i64 ((rd_T45 l0_5 x3_1).f3), .int .i64 ((rd_T45 l0_5 x3_1).f4), .string ((rd_T45 l0_5 x3_1).f5), .int .i64 ((rd_T45 l0_5 x3_1).f6), .int .i64 ((rd_T45 l0_5 x3_1).f7)]] (by rfl) rfl rfl la_ ?_
        with_reducible refine (spec_AskerOk.calls k1 ((rd_T45 l0_5 x3_1).f0) ((rd_T45 l0_5 x3_1).f1) ((rd_T45 l0_5 x3_1).f2) ((rd_T45 l0_5 x3_1).f3) ((rd_T45 l0_5 x3_1).f4) ((rd_T45 l0_5 x3_1).f5) ((rd_T45 l0_5 x3_1).f6) ((rd_T45 l0_5 x3_1).f7) true _ A10.out).mono ?_
        rintro e w27 ⟨rfl, hb⟩
        refine ⟨_, rfl, ?_⟩
        replace BK219 := am_ (blk_below (qK BK219) hb)
        replace BK221 := am_ (blk_below (qK BK221) hb)
        replace HB := am_ (below_step (qB HB) hb)
        (try clear hb)
        refine hK.out _ _ (cw8 BK221.out (cz12 BK219.out)) (fun hHeld => ?_)
        clear hK K
        refine norm_ (a' := ?_) ?_ ?_
        rotate_left
        ·
         show Act.put _ (some 20) _ = _
         exact ap_
        refine pz_ (i := 2) (N := some 21) HT_ (rl [3,24]) rfl rfl ?_
        refine pz_ (i := 3) (N := some 22) HT_ (rl [4,23]) rfl rfl ?_
        refine pz_ (i := 4) (N := some 23) HT_ (rl [5,22]) rfl rfl ?_
        refine pz_ (i := 5) (N := some 24) HT_ (rl [6,21]) rfl rfl ?_
        refine pz_ (i := 6) (N := some 25) HT_ (rl [7,20]) rfl rfl ?_
        refine pu_ (i := 7) (N := some 26) HT_ (rl [8,19]) rfl rfl ?_
        refine pu_ (i := 8) (N := some 27) HT_ (rl [9,18]) rfl rfl ?_
        refine pu_ (i := 9) (N := some 28) HT_ (rl [10,17]) rfl rfl ?_
        refine pu_ (i := 10) (N := some 29) HT_ (rl [11,16]) rfl rfl ?_
        refine pu_ (i := 11) (N := some 30) HT_ (rl [12,15]) rfl rfl ?_
        refine pu_ (i := 12) (N := some 31) HT_ (rl [13,14]) rfl rfl ?_
        refine pu_ (i := 13) (N := some 32) HT_ (rl [14,13]) rfl rfl ?_
        refine pu_ (i := 14) (N := some 33) HT_ (rl [15,12]) rfl rfl ?_
        refine pu_ (i := 15) (N := some 34) HT_ (rl [16,11]) rfl rfl ?_
        refine pu_ (i := 16) (N := some 35) HT_ (rl [17,10]) rfl rfl ?_
        refine pz_ (i := 17) (N := some 36) HT_ (rl [18,9]) rfl rfl ?_
        refine pz_ (i := 18) (N := some 37) HT_ (rl [19,8]) rfl rfl ?_
        refine pz_ (i := 19) (N := some 38) HT_ (rl [20,7]) rfl rfl ?_
        refine pz_ (i := 20) (N := some 39) HT_ (rl [21,6]) rfl rfl ?_
        refine pz_ (i := 22) (N := some 41) HT_ (rl [21,1,1,4]) rfl rfl ?_
        refine take_ (i := 21) (N := some 40) (v := ?_) (a' := ?_) (rl [23,4]) rfl rfl (take_ofW HT_.out HW_.out (by kernel_rfl)) (fun _ _ _ h => h) (Or.inl ⟨by rfl, ?_⟩) hHeld ?_ ?_
        rotate_left
        ·
         rintro w' ⟨s0, s1, s2, s3, s4, s5, s6, s7, s8, s9, s10, s11, s12, s13, s14, s15, s16, s17, s18, s19⟩
         go_simp
         with_reducible rfl
        rotate_left
        ·
         exact ap_
        refine take_ (i := 23) (N := some 42) (v := ?_) (a' := ?_) (rl [24,3]) rfl rfl (take_ofW HT_.out HW_.out (by kernel_rfl)) (fun _ _ _ h => h) (Or.inl ⟨by rfl, ?_⟩) hHeld ?_ ?_
        rotate_left
        ·
         rintro w' ⟨s0, s1, s2, s3, s4, s5, s6, s7, s8, s9, s10, s11, s12, s13, s14, s15, s16, s17, s18, s19⟩
         go_simp
         with_reducible rfl
        rotate_left
        ·
         exact ap_
        refine one_ (i := 24) (N := some 43) (rl [25,2]) rfl rfl (one_of HT_.out (by kernel_rfl)) (by decide) (fun K hK => ?_)
        refine goes_ Try.func158 (by kernel_rfl) rfl #[.slice A0_6 l0_6.length c0_6, .int .i64 ((rd_T45 l0_5 x3_1).f0)] (by rfl) rfl rfl la_ ?_
        with_reducible refine (spec_LineAt.calls k1 _ _ l0_6 ((rd_T45 l0_5 x3_1).f0) t225 _ ?side1 ?side2 A24.out).mono ?_
        (case side1 => exact qC (Kd.C_below HR0_6.out HB.out))
        (case side2 => exact HC0_6.out)
        rintro e w' ⟨rfl, ⟨nd, rfl⟩⟩
        refine ⟨_, rfl, ?_⟩
        refine hK.out _ _ (cw8 BK221.out (cz12 BK219.out)) (fun hHeld => ?_)
        clear hK K
        refine norm_ (a' := ?_) ?_ ?_
        rotate_left
        ·
         show Act.put _ (some 43) _ = _
         exact ap_
        refine pz_ (i := 25) (N := some 44) HT_ (rl [26,1]) rfl rfl ?_
        refine pz_ (i := 26) (N := some 45) HT_ (rl [27]) rfl rfl ?_
        refine done_ (done_of HT_.out (by kernel_rfl)) ?_
        try go_wp2
        go_meet
        case rel => exact ⟨_, (decide (t225 ≥ 0)), eqq_, H', ⟨by have := HK1.out; first | omega | exact Nat.le_refl _⟩, ⟨qK BK219⟩, ⟨qK BK221⟩, ⟨qB HB⟩⟩
      ·
       replace c11 := Bool.eq_false_iff.mpr c11
       subst c11
       rw [if_neg (show ¬ (false = true) by decide)] at H
       have H' := Aside0.mk H
       clear H
       try go_wp2
       have n0_ : Aside0 (((((((((w7.setCell ⟨gb221, 0, none⟩ (.int .i64 ((rd_T45 l0_5 x3_1).f0))).setCell ⟨gb221, 1, none⟩ (.string ((rd_T45 l0_5 x3_1).f1))).setCell ⟨gb221, 2, none⟩ (.int .i64 ((rd_T45 l0_5 x3_1).f2))).setCell ⟨gb221, 3, none⟩ (.int .i64 ((rd_T45 l0_5 x3_1).f3))).setCell ⟨gb221, 4, none⟩ (.int .i64 ((rd_T45 l0_5 x3_1).f4))).setCell ⟨gb221, 5, none⟩ (.string ((rd_T45 l0_5 x3_1).f5))).setCell ⟨gb221, 6, none⟩ (.int .i64 ((rd_T45 l0_5 x3_1).f6))).setCell ⟨gb221, 7, none⟩ (.int .i64 ((rd_T45 l0_5 x3_1).f7))).heap[gb219]? = some (.cells #[.int .i64 a0_0, .int .i64 a0_1, .int .i64 a0_2, .slice A0_3 l0_3.length c0_3, .bool a0_4, .slice (some ad220) l0_5.length c0_5, .slice A0_6 l0_6.length c0_6, .int .i64 a0_7, .int .i64 a0_8, .int .i64 a0_9, .int .i64 a0_10, .int .i64 a0_11] 67 (0, 0))) := ⟨by (with_reducible repeat (first | refine blk_drewN ?_ _ | refine blk_drew ?_ | refine blk_alloc ?_ _)); refine Go.Proofs.YtahfemlfdpbkkaaV.blk_far8 ?_ NB219_221.out; (with_reducible repeat (first | refine blk_drewN ?_ _ | refine blk_drew ?_ | refine blk_alloc ?_ _)); exact BK219.out⟩
       have n1_ : Aside0 (((((((((w7.setCell ⟨gb221, 0, none⟩ (.int .i64 ((rd_T45 l0_5 x3_1).f0))).setCell ⟨gb221, 1, none⟩ (.string ((rd_T45 l0_5 x3_1).f1))).setCell ⟨gb221, 2, none⟩ (.int .i64 ((rd_T45 l0_5 x3_1).f2))).setCell ⟨gb221, 3, none⟩ (.int .i64 ((rd_T45 l0_5 x3_1).f3))).setCell ⟨gb221, 4, none⟩ (.int .i64 ((rd_T45 l0_5 x3_1).f4))).setCell ⟨gb221, 5, none⟩ (.string ((rd_T45 l0_5 x3_1).f5))).setCell ⟨gb221, 6, none⟩ (.int .i64 ((rd_T45 l0_5 x3_1).f6))).setCell ⟨gb221, 7, none⟩ (.int .i64 ((rd_T45 l0_5 x3_1).f7))).heap[gb221]? = some (.cells #[.int .i64 ((rd_T45 l0_5 x3_1).f0), .string ((rd_T45 l0_5 x3_1).f1), .int .i64 ((rd_T45 l0_5 x3_1).f2), .int .i64 ((rd_T45 l0_5 x3_1).f3), .int .i64 ((rd_T45 l0_5 x3_1).f4), .string ((rd_T45 l0_5 x3_1).f5), .int .i64 ((rd_T45 l0_5 x3_1).f6), .int .i64 ((rd_T45 l0_5 x3_1).f7)] 45 (0, 0))) := ⟨by (with_reducible repeat (first | refine blk_drewN ?_ _ | refine blk_drew ?_ | refine blk_alloc ?_ _)); refine Go.Proofs.YtahfemlfdpbkkaaV.blk_all8 (show _ = some (Go.Obj.cells #[.int .i64 0, .string (⟨#[]⟩ : ByteArray), .int .i64 0, .int .i64 0, .int .i64 0, .string (⟨#[]⟩ : ByteArray), .int .i64 0, .int .i64 0] _ (0, 0)) from ?_); (with_reducible repeat (first | refine blk_drewN ?_ _ | refine blk_drew ?_ | refine blk_alloc ?_ _)); exact BK221.out⟩
       have n2_ : Aside0 (Below w.heap.size w ((((((((w7.setCell ⟨gb221, 0, none⟩ (.int .i64 ((rd_T45 l0_5 x3_1).f0))).setCell ⟨gb221, 1, none⟩ (.string ((rd_T45 l0_5 x3_1).f1))).setCell ⟨gb221, 2, none⟩ (.int .i64 ((rd_T45 l0_5 x3_1).f2))).setCell ⟨gb221, 3, none⟩ (.int .i64 ((rd_T45 l0_5 x3_1).f3))).setCell ⟨gb221, 4, none⟩ (.int .i64 ((rd_T45 l0_5 x3_1).f4))).setCell ⟨gb221, 5, none⟩ (.string ((rd_T45 l0_5 x3_1).f5))).setCell ⟨gb221, 6, none⟩ (.int .i64 ((rd_T45 l0_5 x3_1).f6))).setCell ⟨gb221, 7, none⟩ (.int .i64 ((rd_T45 l0_5 x3_1).f7)))) := ⟨qB HB⟩
       generalize ((((((((w7.setCell ⟨gb221, 0, none⟩ (.int .i64 ((rd_T45 l0_5 x3_1).f0))).setCell ⟨gb221, 1, none⟩ (.string ((rd_T45 l0_5 x3_1).f1))).setCell ⟨gb221, 2, none⟩ (.int .i64 ((rd_T45 l0_5 x3_1).f2))).setCell ⟨gb221, 3, none⟩ (.int .i64 ((rd_T45 l0_5 x3_1).f3))).setCell ⟨gb221, 4, none⟩ (.int .i64 ((rd_T45 l0_5 x3_1).f4))).setCell ⟨gb221, 5, none⟩ (.string ((rd_T45 l0_5 x3_1).f5))).setCell ⟨gb221, 6, none⟩ (.int .i64 ((rd_T45 l0_5 x3_1).f6))).setCell ⟨gb221, 7, none⟩ (.int .i64 ((rd_T45 l0_5 x3_1).f7))) = w28 at n0_ n1_ n2_ ⊢
       have BK219 := n0_
       have BK221 := n1_
       have HB := n2_
       clear n0_ n1_ n2_
       replace BK219 := am_ (blk_drew BK219.out)
       replace BK221 := am_ (blk_drew BK221.out)
       replace HB := am_ (below_drew1 HB.out)
       refine start_ (n := 27) (S := fun w' => w'.cell? ⟨gb221, 0, none⟩ = some (.int .i64 ((rd_T45 l0_5 x3_1).f0)) ∧ w'.cell? ⟨gb221, 1, none⟩ = some (.string ((rd_T45 l0_5 x3_1).f1)) ∧ w'.cell? ⟨gb221, 2, none⟩ = some (.int .i64 ((rd_T45 l0_5 x3_1).f2)) ∧ w'.cell? ⟨gb221, 3, none⟩ = some (.int .i64 ((rd_T45 l0_5 x3_1).f3)) ∧ w'.cell? ⟨gb221, 4, none⟩ = some (.int .i64 ((rd_T45 l0_5 x3_1).f4)) ∧ w'.cell? ⟨gb221, 5, none⟩ = some (.string ((rd_T45 l0_5 x3_1).f5)) ∧ w'.cell? ⟨gb221, 6, none⟩ = some (.int .i64 ((rd_T45 l0_5 x3_1).f6)) ∧ w'.cell? ⟨gb221, 7, none⟩ = some (.int .i64 ((rd_T45 l0_5 x3_1).f7))) (ds := []) (rl [0,27]) (by kernel_rfl) rfl rfl (cz8 BK221.out) (fun hHeld => ?_); refine with_tabW spec_l10Lists.tab5 spec_l10Lists.bits5 (fun HT_ HW_ => ?_)
       generalize w28.drew = w29 at BK219 BK221 HB hHeld ⊢
       refine take_ (i := 0) (N := some 19) (v := ?_) (a' := ?_) (rl [1,26]) rfl rfl (take_ofW HT_.out HW_.out (by kernel_rfl)) (fun _ _ _ h => h) (Or.inl ⟨by rfl, ?_⟩) hHeld ?_ ?_
       rotate_left
       ·
        rintro w' ⟨s0, s1, s2, s3, s4, s5, s6, s7⟩
        go_simp
        with_reducible rfl
       rotate_left
       ·
        exact ap_
       refine one_ (i := 1) (N := some 20) (rl [2,25]) rfl rfl (one_of HT_.out (by kernel_rfl)) (by decide) (fun K hK => ?_)
       refine goes_ Try.func73 (by kernel_rfl) rfl #[.agg #[.int .i64 ((rd_T45 l0_5 x3_1).f0), .string ((rd_T45 l0_5 x3_1).f1), .int .i64 ((rd_T45 l0_5 x3_1).f2), .int .i64 ((rd_T45 l0_5 x3_1).f3), .int .i64 ((rd_T45 l0_5 x3_1).f4), .string ((rd_T45 l0_5 x3_1).f5), .int .i64 ((rd_T45 l0_5 x3_1).f6), .int .i64 ((rd_T45 l0_5 x3_1).f7)]] (by rfl) rfl rfl la_ ?_
       with_reducible refine (spec_AskerOk.calls k1 ((rd_T45 l0_5 x3_1).f0) ((rd_T45 l0_5 x3_1).f1) ((rd_T45 l0_5 x3_1).f2) ((rd_T45 l0_5 x3_1).f3) ((rd_T45 l0_5 x3_1).f4) ((rd_T45 l0_5 x3_1).f5) ((rd_T45 l0_5 x3_1).f6) ((rd_T45 l0_5 x3_1).f7) false _ A10.out).mono ?_
       rintro e w30 ⟨rfl, hb⟩
       refine ⟨_, rfl, ?_⟩
       replace BK219 := am_ (blk_below (qK BK219) hb)
       replace BK221 := am_ (blk_below (qK BK221) hb)
       replace HB := am_ (below_step (qB HB) hb)
       (try clear hb)
       refine hK.out _ _ (cz8 BK221.out) (fun hHeld => ?_)
       clear hK K
       refine norm_ (a' := ?_) ?_ ?_
       rotate_left
       ·
        show Act.put _ (some 20) _ = _
        exact ap_
       refine pz_ (i := 2) (N := some 21) HT_ (rl [3,24]) rfl rfl ?_
       refine pz_ (i := 3) (N := some 22) HT_ (rl [4,23]) rfl rfl ?_
       refine pu_ (i := 4) (N := some 23) HT_ (rl [5,22]) rfl rfl ?_
       refine pu_ (i := 5) (N := some 24) HT_ (rl [6,21]) rfl rfl ?_
       refine pu_ (i := 6) (N := some 25) HT_ (rl [7,20]) rfl rfl ?_
       refine pu_ (i := 7) (N := some 26) HT_ (rl [8,19]) rfl rfl ?_
       refine pu_ (i := 8) (N := some 27) HT_ (rl [9,18]) rfl rfl ?_
       refine pu_ (i := 9) (N := some 28) HT_ (rl [10,17]) rfl rfl ?_
       refine pu_ (i := 10) (N := some 29) HT_ (rl [11,16]) rfl rfl ?_
       refine pu_ (i := 11) (N := some 30) HT_ (rl [12,15]) rfl rfl ?_
       refine pu_ (i := 12) (N := some 31) HT_ (rl [13,14]) rfl rfl ?_
       refine pu_ (i := 13) (N := some 32) HT_ (rl [14,13]) rfl rfl ?_
       refine pu_ (i := 14) (N := some 33) HT_ (rl [15,12]) rfl rfl ?_
       refine pu_ (i := 15) (N := some 34) HT_ (rl [16,11]) rfl rfl ?_
       refine pu_ (i := 16) (N := some 35) HT_ (rl [17,10]) rfl rfl ?_
       refine pu_ (i := 17) (N := some 36) HT_ (rl [18,9]) rfl rfl ?_
       refine pz_ (i := 18) (N := some 37) HT_ (rl [19,8]) rfl rfl ?_
       refine pz_ (i := 19) (N := some 38) HT_ (rl [20,7]) rfl rfl ?_
       refine pu_ (i := 20) (N := some 39) HT_ (rl [21,6]) rfl rfl ?_
       refine pu_ (i := 21) (N := some 40) HT_ (rl [22,5]) rfl rfl ?_
       refine pu_ (i := 22) (N := some 41) HT_ (rl [23,4]) rfl rfl ?_
       refine pu_ (i := 23) (N := some 42) HT_ (rl [24,3]) rfl rfl ?_
       refine pu_ (i := 24) (N := some 43) HT_ (rl [25,2]) rfl rfl ?_
       refine pu_ (i := 25) (N := some 44) HT_ (rl [26,1]) rfl rfl ?_
       refine pz_ (i := 26) (N := some 45) HT_ (rl [27]) rfl rfl ?_
       refine done_ (done_of HT_.out (by kernel_rfl)) ?_
       try go_wp2
       go_meet
       case rel => exact ⟨_, (true), eqq_, H', ⟨by have := HK1.out; first | omega | exact Nat.le_refl _⟩, ⟨qK BK219⟩, ⟨qK BK221⟩, ⟨qB HB⟩⟩
     case rest =>
      clear HC5
      try clear c1
      try clear p2
      try clear c7
      try clear c11
      try clear c12
      try clear c12b0
      try clear c14
      try clear c15
      obtain ⟨kq, x45_4, rfl, HA, HJ4, BK219, BK221, HB⟩ := hcut
      cases kq with
      | zero => exact absurd HA.out (by simp [spec_l10Lists.j1])
      | succ kj4 =>
       have H := HA.out
       clear HA
       simp only [spec_l10Lists.j1] at H
       by_cases c31 : x45_4 = true
       ·
        subst c31
        rw [if_pos rfl] at H
        obtain rfl := Option.some.inj H
        go_wp2
        go_ret
        exact ⟨by first | rfl | (simp [errW_none, errW_some] <;> rfl) | (simp [*, errW_none, errW_some] <;> rfl), qB HB⟩
       ·
        replace c31 := Bool.eq_false_iff.mpr c31
        subst c31
        rw [if_neg (show ¬ (false = true) by decide)] at H
        by_cases c32 : ((rd_T45 l0_5 x3_1).f2) = 2
        ·
         rw [if_pos c32] at H
         have c32b0 : (((rd_T45 l0_5 x3_1).f2) == 2) = true := beq_iff_eq.mpr c32
         have c32b1 : (((rd_T45 l0_5 x3_1).f2) != 2) = false := bne_eq_false_iff_eq.mpr c32
         clear c32
         by_cases c33 : ((rd_T45 l0_5 x3_1).f3) ≥ a0_7
         ·
          rw [if_pos c33] at H
          have c33b0 : decide (a0_7 ≤ ((rd_T45 l0_5 x3_1).f3)) = true := decide_eq_true c33
          clear c33
          obtain rfl := Option.some.inj H
          have hnb34 := NB221_219.out
          have hnc34 := NB219_221.out
          obtain ⟨z35_0, z35_1, z35_2, z35_3, z35_4, z35_5, z35_6, z35_7⟩ := cz8 BK221.out
          obtain ⟨f35_0, f35_1, f35_2, f35_3, f35_4, f35_5, f35_6, f35_7⟩ := fz8 BK221.out
          obtain ⟨z36_0, z36_1, z36_2, z36_3, z36_4, z36_5, z36_6, z36_7, z36_8, z36_9, z36_10, z36_11⟩ := cz12 BK219.out
          obtain ⟨f36_0, f36_1, f36_2, f36_3, f36_4, f36_5, f36_6, f36_7, f36_8, f36_9, f36_10, f36_11⟩ := fz12 BK219.out
          go_wp2
          go_ret
          exact ⟨by first | rfl | (simp [errW_none, errW_some] <;> rfl) | (simp [*, errW_none, errW_some] <;> rfl), qB HB⟩
         ·
          rw [if_neg c33] at H
          have c33b0 : decide (a0_7 ≤ ((rd_T45 l0_5 x3_1).f3)) = false := decide_eq_false c33
          clear c33
          have H' := Aside0.mk H
          clear H
          have hnb37 := NB221_219.out
          have hnc37 := NB219_221.out
          obtain ⟨z38_0, z38_1, z38_2, z38_3, z38_4, z38_5, z38_6, z38_7⟩ := cz8 BK221.out
          obtain ⟨f38_0, f38_1, f38_2, f38_3, f38_4, f38_5, f38_6, f38_7⟩ := fz8 BK221.out
          obtain ⟨z39_0, z39_1, z39_2, z39_3, z39_4, z39_5, z39_6, z39_7, z39_8, z39_9, z39_10, z39_11⟩ := cz12 BK219.out
          obtain ⟨f39_0, f39_1, f39_2, f39_3, f39_4, f39_5, f39_6, f39_7, f39_8, f39_9, f39_10, f39_11⟩ := fz12 BK219.out
          go_wp2
          go_loopg [5] kj4 (fun kq v5 w' => ∃ (x5_3 : Int), v5 = .int .i64 x5_3 ∧ Aside0 (spec_l10Lists.l1 kq x3_1 x5_3 a0_0 a0_1 a0_2 l0_3 a0_4 l0_5 l0_6 a0_7 a0_8 a0_9 a0_10 a0_11 ((rd_T45 l0_5 x3_1).f0) ((rd_T45 l0_5 x3_1).f1) ((rd_T45 l0_5 x3_1).f2) ((rd_T45 l0_5 x3_1).f3) ((rd_T45 l0_5 x3_1).f4) ((rd_T45 l0_5 x3_1).f5) ((rd_T45 l0_5 x3_1).f6) ((rd_T45 l0_5 x3_1).f7) = some r) ∧ Aside0 (kq ≤ kj4) ∧ Aside0 (w'.heap[gb219]? = some (.cells #[.int .i64 a0_0, .int .i64 a0_1, .int .i64 a0_2, (.slice A0_3 l0_3.length c0_3), .bool a0_4, (.slice (some ad220) l0_5.length c0_5), (.slice A0_6 l0_6.length c0_6), .int .i64 a0_7, .int .i64 a0_8, .int .i64 a0_9, .int .i64 a0_10, .int .i64 a0_11] 67 (0, 0))) ∧ Aside0 (w'.heap[gb221]? = some (.cells #[.int .i64 ((rd_T45 l0_5 x3_1).f0), .string ((rd_T45 l0_5 x3_1).f1), .int .i64 ((rd_T45 l0_5 x3_1).f2), .int .i64 ((rd_T45 l0_5 x3_1).f3), .int .i64 ((rd_T45 l0_5 x3_1).f4), .string ((rd_T45 l0_5 x3_1).f5), .int .i64 ((rd_T45 l0_5 x3_1).f6), .int .i64 ((rd_T45 l0_5 x3_1).f7)] 45 (0, 0))) ∧ Aside0 (Below w.heap.size w w'))
          case atStart => exact ⟨(0), eqq_, H', ⟨Nat.le_refl _⟩, ⟨qK BK219⟩, ⟨qK BK221⟩, ⟨qB HB⟩⟩
          case round =>
           clear H'
           try clear c1
           try clear p2
           try clear c3
           try clear c7
           try clear c11
           try clear c12
           try clear c12b0
           try clear c14
           try clear c15
           try clear c31
           try clear c32
           try clear c32b0
           try clear c32b1
           try clear c33
           try clear c33b0
           try clear c34
           try clear c37
           (try clear z35_0 z35_1 z35_2 z35_3 z35_4 z35_5 z35_6 z35_7)
           (try clear z36_0 z36_1 z36_10 z36_11 z36_2 z36_3 z36_4 z36_5 z36_6 z36_7 z36_8 z36_9)
           (try clear z38_0 z38_1 z38_2 z38_3 z38_4 z38_5 z38_6 z38_7)
           (try clear z39_0 z39_1 z39_10 z39_11 z39_2 z39_3 z39_4 z39_5 z39_6 z39_7 z39_8 z39_9)
           (try clear f35_0 f35_1 f35_2 f35_3 f35_4 f35_5 f35_6 f35_7)
           (try clear f36_0 f36_1 f36_10 f36_11 f36_2 f36_3 f36_4 f36_5 f36_6 f36_7 f36_8 f36_9)
           (try clear f38_0 f38_1 f38_2 f38_3 f38_4 f38_5 f38_6 f38_7)
           (try clear f39_0 f39_1 f39_10 f39_11 f39_2 f39_3 f39_4 f39_5 f39_6 f39_7 f39_8 f39_9)
           try clear p2
           obtain ⟨x5_3, rfl, HA, HK3, BK219, BK221, HB⟩ := hrel
           cases gk with
           | zero => exact absurd HA.out (by simp [spec_l10Lists.l1])
           | succ k3 =>
            have H := HA.out
            clear HA
            simp only [spec_l10Lists.l1] at H
            by_cases c40 : x5_3 < x3_1
            ·
             rw [if_pos c40] at H
             have c40b0 : decide (x5_3 < x3_1) = true := decide_eq_true c40
             clear c40
             by_cases c41 : 0 ≤ x5_3
             ·
              rw [if_pos c41] at H
              have c41b0 : decide (0 ≤ x5_3) = true := decide_eq_true c41
              clear c41
              by_cases c42 : x5_3 < (l0_5.length : Int)
              ·
               rw [if_pos c42] at H
               have c42b0 : decide (x5_3 < (l0_5.length : Int)) = true := decide_eq_true c42
               clear c42
               by_cases c43 : ((rd_T45 l0_5 x5_3).f2) = 2
               ·
                rw [if_pos c43] at H
                have c43b0 : (((rd_T45 l0_5 x5_3).f2) == 2) = true := beq_iff_eq.mpr c43
                have c43b1 : (((rd_T45 l0_5 x5_3).f2) != 2) = false := bne_eq_false_iff_eq.mpr c43
                clear c43
                by_cases c44 : ((rd_T45 l0_5 x5_3).f3) = ((rd_T45 l0_5 x3_1).f3)
                ·
                 rw [if_pos c44] at H
                 have c44b0 : (((rd_T45 l0_5 x5_3).f3) == ((rd_T45 l0_5 x3_1).f3)) = true := beq_iff_eq.mpr c44
                 have c44b1 : (((rd_T45 l0_5 x5_3).f3) != ((rd_T45 l0_5 x3_1).f3)) = false := bne_eq_false_iff_eq.mpr c44
                 clear c44
                 obtain rfl := Option.some.inj H
                 try go_wp2
                 replace BK219 := am_ (blk_drew BK219.out)
                 replace BK221 := am_ (blk_drew BK221.out)
                 replace HB := am_ (below_drew1 HB.out)
                 have p226 : 0 ≤ (x5_3 : Int) := od_
                 have q226 : x5_3 < (l0_5.length : Int) := od_
                 obtain ⟨ad226, e226, hx226_0, hx226_1, hx226_2, hx226_3, hx226_4, hx226_5, hx226_6, hx226_7⟩ := at_T45 HR0_5.out x5_3 p226 q226
                 have hw226_7 := hx226_7
                 have hw226_6 := hx226_6
                 have hw226_5 := hx226_5
                 have hw226_4 := hx226_4
                 have hw226_3 := hx226_3
                 have hw226_2 := hx226_2
                 have hw226_1 := hx226_1
                 have hw226_0 := hx226_0
                 obtain rfl : ad220 = ad226 := (by injection e226)
                 replace hx226_0 := lb_ HB hx226_0
                 replace hx226_1 := lb_ HB hx226_1
                 replace hx226_2 := lb_ HB hx226_2
                 replace hx226_3 := lb_ HB hx226_3
                 replace hx226_4 := lb_ HB hx226_4
                 replace hx226_5 := lb_ HB hx226_5
                 replace hx226_6 := lb_ HB hx226_6
                 replace hx226_7 := lb_ HB hx226_7
                 replace p226 := eq_true p226
                 replace q226 := eq_true q226
                 have p227 : 0 ≤ (x5_3 : Int) := od_
                 have q227 : x5_3 < (l0_5.length : Int) := od_
                 obtain ⟨ad227, e227, hx227_0, hx227_1, hx227_2, hx227_3, hx227_4, hx227_5, hx227_6, hx227_7⟩ := at_T45 HR0_5.out x5_3 p227 q227
                 have hw227_7 := hx227_7
                 have hw227_6 := hx227_6
                 have hw227_5 := hx227_5
                 have hw227_4 := hx227_4
                 have hw227_3 := hx227_3
                 have hw227_2 := hx227_2
                 have hw227_1 := hx227_1
                 have hw227_0 := hx227_0
                 obtain rfl : ad220 = ad227 := (by injection e227)
                 replace hx227_0 := lb_ HB hx227_0
                 replace hx227_1 := lb_ HB hx227_1
                 replace hx227_2 := lb_ HB hx227_2
                 replace hx227_3 := lb_ HB hx227_3
                 replace hx227_4 := lb_ HB hx227_4
                 replace hx227_5 := lb_ HB hx227_5
                 replace hx227_6 := lb_ HB hx227_6
                 replace hx227_7 := lb_ HB hx227_7
                 replace p227 := eq_true p227
                 replace q227 := eq_true q227
                 refine start_ (n := 18) (S := fun w' => w'.cell? ⟨gb219, 0, none⟩ = some (.int .i64 a0_0) ∧ w'.cell? ⟨gb219, 1, none⟩ = some (.int .i64 a0_1) ∧ w'.cell? ⟨gb219, 2, none⟩ = some (.int .i64 a0_2) ∧ w'.cell? ⟨gb219, 3, none⟩ = some (.slice A0_3 l0_3.length c0_3) ∧ w'.cell? ⟨gb219, 4, none⟩ = some (.bool a0_4) ∧ w'.cell? ⟨gb219, 5, none⟩ = some (.slice (some ad220) l0_5.length c0_5) ∧ w'.cell? ⟨gb219, 6, none⟩ = some (.slice A0_6 l0_6.length c0_6) ∧ w'.cell? ⟨gb219, 7, none⟩ = some (.int .i64 a0_7) ∧ w'.cell? ⟨gb219, 8, none⟩ = some (.int .i64 a0_8) ∧ w'.cell? ⟨gb219, 9, none⟩ = some (.int .i64 a0_9) ∧ w'.cell? ⟨gb219, 10, none⟩ = some (.int .i64 a0_10) ∧ w'.cell? ⟨gb219, 11, none⟩ = some (.int .i64 a0_11) ∧ w'.cell? ⟨gb221, 0, none⟩ = some (.int .i64 ((rd_T45 l0_5 x3_1).f0)) ∧ w'.cell? ⟨gb221, 1, none⟩ = some (.string ((rd_T45 l0_5 x3_1).f1)) ∧ w'.cell? ⟨gb221, 2, none⟩ = some (.int .i64 ((rd_T45 l0_5 x3_1).f2)) ∧ w'.cell? ⟨gb221, 3, none⟩ = some (.int .i64 ((rd_T45 l0_5 x3_1).f3)) ∧ w'.cell? ⟨gb221, 4, none⟩ = some (.int .i64 ((rd_T45 l0_5 x3_1).f4)) ∧ w'.cell? ⟨gb221, 5, none⟩ = some (.string ((rd_T45 l0_5 x3_1).f5)) ∧ w'.cell? ⟨gb221, 6, none⟩ = some (.int .i64 ((rd_T45 l0_5 x3_1).f6)) ∧ w'.cell? ⟨gb221, 7, none⟩ = some (.int .i64 ((rd_T45 l0_5 x3_1).f7)) ∧ w'.cell? (ad220.add ((x5_3).toNat * 8)) = some (.int .i64 ((rd_T45 l0_5 x5_3).f0)) ∧ w'.cell? ⟨(ad220.add ((x5_3).toNat * 8)).block, (ad220.add ((x5_3).toNat * 8)).off + 1, none⟩ = some (.string ((rd_T45 l0_5 x5_3).f1)) ∧ w'.cell? ⟨(ad220.add ((x5_3).toNat * 8)).block, (ad220.add ((x5_3).toNat * 8)).off + 2, none⟩ = some (.int .i64 ((rd_T45 l0_5 x5_3).f2)) ∧ w'.cell? ⟨(ad220.add ((x5_3).toNat * 8)).block, (ad220.add ((x5_3).toNat * 8)).off + 3, none⟩ = some (.int .i64 ((rd_T45 l0_5 x5_3).f3)) ∧ w'.cell? ⟨(ad220.add ((x5_3).toNat * 8)).block, (ad220.add ((x5_3).toNat * 8)).off + 4, none⟩ = some (.int .i64 ((rd_T45 l0_5 x5_3).f4)) ∧ w'.cell? ⟨(ad220.add ((x5_3).toNat * 8)).block, (ad220.add ((x5_3).toNat * 8)).off + 5, none⟩ = some (.string ((rd_T45 l0_5 x5_3).f5)) ∧ w'.cell? ⟨(ad220.add ((x5_3).toNat * 8)).block, (ad220.add ((x5_3).toNat * 8)).off + 6, none⟩ = some (.int .i64 ((rd_T45 l0_5 x5_3).f6)) ∧ w'.cell? ⟨(ad220.add ((x5_3).toNat * 8)).block, (ad220.add ((x5_3).toNat * 8)).off + 7, none⟩ = some (.int .i64 ((rd_T45 l0_5 x5_3).f7)) ∧ w'.cell? (ad220.add ((x5_3).toNat * 8)) = some (.int .i64 ((rd_T45 l0_5 x5_3).f0)) ∧ w'.cell? ⟨(ad220.add ((x5_3).toNat * 8)).block, (ad220.add ((x5_3).toNat * 8)).off + 1, none⟩ = some (.string ((rd_T45 l0_5 x5_3).f1)) ∧ w'.cell? ⟨(ad220.add ((x5_3).toNat * 8)).block, (ad220.add ((x5_3).toNat * 8)).off + 2, none⟩ = some (.int .i64 ((rd_T45 l0_5 x5_3).f2)) ∧ w'.cell? ⟨(ad220.add ((x5_3).toNat * 8)).block, (ad220.add ((x5_3).toNat * 8)).off + 3, none⟩ = some (.int .i64 ((rd_T45 l0_5 x5_3).f3)) ∧ w'.cell? ⟨(ad220.add ((x5_3).toNat * 8)).block, (ad220.add ((x5_3).toNat * 8)).off + 4, none⟩ = some (.int .i64 ((rd_T45 l0_5 x5_3).f4)) ∧ w'.cell? ⟨(ad220.add ((x5_3).toNat * 8)).block, (ad220.add ((x5_3).toNat * 8)).off + 5, none⟩ = some (.string ((rd_T45 l0_5 x5_3).f5)) ∧ w'.cell? ⟨(ad220.add ((x5_3).toNat * 8)).block, (ad220.add ((x5_3).toNat * 8)).off + 6, none⟩ = some (.int .i64 ((rd_T45 l0_5 x5_3).f6)) ∧ w'.cell? ⟨(ad220.add ((x5_3).toNat * 8)).block, (ad220.add ((x5_3).toNat * 8)).off + 7, none⟩ = some (.int .i64 ((rd_T45 l0_5 x5_3).f7))) (ds := []) (rl [0,18]) (by kernel_rfl) rfl rfl (cw12 BK219.out (cw8 BK221.out ⟨(lb_ HB hw226_0 :), (lb_ HB hw226_1 :), (lb_ HB hw226_2 :), (lb_ HB hw226_3 :), (lb_ HB hw226_4 :), (lb_ HB hw226_5 :), (lb_ HB hw226_6 :), (lb_ HB hw226_7 :), (lb_ HB hw227_0 :), (lb_ HB hw227_1 :), (lb_ HB hw227_2 :), (lb_ HB hw227_3 :), (lb_ HB hw227_4 :), (lb_ HB hw227_5 :), (lb_ HB hw227_6 :), (lb_ HB hw227_7 :)⟩)) (fun hHeld => ?_); refine with_tabW spec_l10Lists.tab13 spec_l10Lists.bits13 (fun HT_ HW_ => ?_)
                 generalize wr.drew = w45 at BK219 BK221 HB hx226_0 hx226_1 hx226_2 hx226_3 hx226_4 hx226_5 hx226_6 hx226_7 hx227_0 hx227_1 hx227_2 hx227_3 hx227_4 hx227_5 hx227_6 hx227_7 hHeld ⊢
                 refine pz_ (i := 0) (N := some 59) HT_ (rl [1,17]) rfl rfl ?_
                 refine pz_ (i := 2) (N := some 61) HT_ (rl [1,1,1,15]) rfl rfl ?_
                 refine take_ (i := 1) (N := some 60) (v := ?_) (a' := ?_) (rl [3,15]) rfl rfl (take_ofW HT_.out HW_.out (by kernel_rfl)) (fun _ _ _ h => h) (Or.inl ⟨by rfl, ?_⟩) hHeld ?_ ?_
                 rotate_left
                 ·
                  rintro w' ⟨s0, s1, s2, s3, s4, s5, s6, s7, s8, s9, s10, s11, s12, s13, s14, s15, s16, s17, s18, s19, s20, s21, s22, s23, s24, s25, s26, s27, s28, s29, s30, s31, s32, s33, s34, s35⟩
                  go_simp
                  with_reducible rfl
                 rotate_left
                 ·
                  exact ap_
                 refine pz_ (i := 3) (N := some 62) HT_ (rl [4,14]) rfl rfl ?_
                 refine pz_ (i := 4) (N := some 63) HT_ (rl [5,13]) rfl rfl ?_
                 refine take_ (i := 5) (N := some 64) (v := ?_) (a' := ?_) (rl [6,12]) rfl rfl (take_ofW HT_.out HW_.out (by kernel_rfl)) (fun _ _ _ h => h) (Or.inl ⟨by rfl, ?_⟩) hHeld ?_ ?_
                 rotate_left
                 ·
                  rintro w' ⟨s0, s1, s2, s3, s4, s5, s6, s7, s8, s9, s10, s11, s12, s13, s14, s15, s16, s17, s18, s19, s20, s21, s22, s23, s24, s25, s26, s27, s28, s29, s30, s31, s32, s33, s34, s35⟩
                  go_simp
                  with_reducible rfl
                 rotate_left
                 ·
                  exact ap_
                 refine pz_ (i := 6) (N := some 65) HT_ (rl [7,11]) rfl rfl ?_
                 refine pz_ (i := 7) (N := some 66) HT_ (rl [8,10]) rfl rfl ?_
                 refine pz_ (i := 8) (N := some 67) HT_ (rl [9,9]) rfl rfl ?_
                 refine pz_ (i := 10) (N := some 69) HT_ (rl [9,1,1,7]) rfl rfl ?_
                 refine pz_ (i := 14) (N := some 73) HT_ (rl [9,1,1,3,1,3]) rfl rfl ?_
                 refine take_ (i := 9) (N := some 68) (v := ?_) (a' := ?_) (rl [11,3,1,3]) rfl rfl (take_ofW HT_.out HW_.out (by kernel_rfl)) (fun _ _ _ h => h) (Or.inl ⟨by rfl, ?_⟩) hHeld ?_ ?_
                 rotate_left
                 ·
                  rintro w' ⟨s0, s1, s2, s3, s4, s5, s6, s7, s8, s9, s10, s11, s12, s13, s14, s15, s16, s17, s18, s19, s20, s21, s22, s23, s24, s25, s26, s27, s28, s29, s30, s31, s32, s33, s34, s35⟩
                  go_simp
                  with_reducible rfl
                 rotate_left
                 ·
                  exact ap_
                 refine pz_ (i := 11) (N := some 70) HT_ (rl [12,2,1,3]) rfl rfl ?_
                 refine pz_ (i := 12) (N := some 71) HT_ (rl [13,1,1,3]) rfl rfl ?_
                 refine take_ (i := 13) (N := some 72) (v := ?_) (a' := ?_) (rl [15,3]) rfl rfl (take_ofW HT_.out HW_.out (by kernel_rfl)) (fun _ _ _ h => h) (Or.inl ⟨by rfl, ?_⟩) hHeld ?_ ?_
                 rotate_left
                 ·
                  rintro w' ⟨s0, s1, s2, s3, s4, s5, s6, s7, s8, s9, s10, s11, s12, s13, s14, s15, s16, s17, s18, s19, s20, s21, s22, s23, s24, s25, s26, s27, s28, s29, s30, s31, s32, s33, s34, s35⟩
                  go_simp
                  with_reducible rfl
                 rotate_left
                 ·
                  exact ap_
                 refine take_ (i := 15) (N := some 74) (v := ?_) (a' := ?_) (rl [16,2]) rfl rfl (take_ofW HT_.out HW_.out (by kernel_rfl)) (fun _ _ _ h => h) (Or.inl ⟨by rfl, ?_⟩) hHeld ?_ ?_
                 rotate_left
                 ·
                  rintro w' ⟨s0, s1, s2, s3, s4, s5, s6, s7, s8, s9, s10, s11, s12, s13, s14, s15, s16, s17, s18, s19, s20, s21, s22, s23, s24, s25, s26, s27, s28, s29, s30, s31, s32, s33, s34, s35⟩
                  go_simp
                  with_reducible rfl
                 rotate_left
                 ·
                  exact ap_
                 refine pz_ (i := 16) (N := some 75) HT_ (rl [17,1]) rfl rfl ?_
                 refine pz_ (i := 17) (N := some 76) HT_ (rl [18]) rfl rfl ?_
                 refine done_ (done_of HT_.out (by kernel_rfl)) ?_
                 try go_wp2
                 go_ret
                 exact ⟨by first | rfl | (simp [errW_none, errW_some] <;> rfl) | (simp [*, errW_none, errW_some] <;> rfl), qB HB⟩
                ·
                 rw [if_neg c44] at H
                 have c44b0 : (((rd_T45 l0_5 x5_3).f3) == ((rd_T45 l0_5 x3_1).f3)) = false := beq_eq_false_iff_ne.mpr c44
                 have c44b1 : (((rd_T45 l0_5 x5_3).f3) != ((rd_T45 l0_5 x3_1).f3)) = true := bne_iff_ne.mpr c44
                 have H' := Aside0.mk H
                 clear H
                 try go_wp2
                 replace BK219 := am_ (blk_drew BK219.out)
                 replace BK221 := am_ (blk_drew BK221.out)
                 replace HB := am_ (below_drew1 HB.out)
                 have p226 : 0 ≤ (x5_3 : Int) := od_
                 have q226 : x5_3 < (l0_5.length : Int) := od_
                 obtain ⟨ad226, e226, hx226_0, hx226_1, hx226_2, hx226_3, hx226_4, hx226_5, hx226_6, hx226_7⟩ := at_T45 HR0_5.out x5_3 p226 q226
                 have hw226_7 := hx226_7
                 have hw226_6 := hx226_6
                 have hw226_5 := hx226_5
                 have hw226_4 := hx226_4
                 have hw226_3 := hx226_3
                 have hw226_2 := hx226_2
                 have hw226_1 := hx226_1
                 have hw226_0 := hx226_0
                 obtain rfl : ad220 = ad226 := (by injection e226)
                 replace hx226_0 := lb_ HB hx226_0
                 replace hx226_1 := lb_ HB hx226_1
                 replace hx226_2 := lb_ HB hx226_2
                 replace hx226_3 := lb_ HB hx226_3
                 replace hx226_4 := lb_ HB hx226_4
                 replace hx226_5 := lb_ HB hx226_5
                 replace hx226_6 := lb_ HB hx226_6
                 replace hx226_7 := lb_ HB hx226_7
                 replace p226 := eq_true p226
                 replace q226 := eq_true q226
                 have p227 : 0 ≤ (x5_3 : Int) := od_
                 have q227 : x5_3 < (l0_5.length : Int) := od_
                 obtain ⟨ad227, e227, hx227_0, hx227_1, hx227_2, hx227_3, hx227_4, hx227_5, hx227_6, hx227_7⟩ := at_T45 HR0_5.out x5_3 p227 q227
                 have hw227_7 := hx227_7
                 have hw227_6 := hx227_6
                 have hw227_5 := hx227_5
                 have hw227_4 := hx227_4
                 have hw227_3 := hx227_3
                 have hw227_2 := hx227_2
                 have hw227_1 := hx227_1
                 have hw227_0 := hx227_0
                 obtain rfl : ad220 = ad227 := (by injection e227)
                 replace hx227_0 := lb_ HB hx227_0
                 replace hx227_1 := lb_ HB hx227_1
                 replace hx227_2 := lb_ HB hx227_2
                 replace hx227_3 := lb_ HB hx227_3
                 replace hx227_4 := lb_ HB hx227_4
                 replace hx227_5 := lb_ HB hx227_5
                 replace hx227_6 := lb_ HB hx227_6
                 replace hx227_7 := lb_ HB hx227_7
                 replace p227 := eq_true p227
                 replace q227 := eq_true q227
                 refine start_ (n := 18) (S := fun w' => w'.cell? ⟨gb219, 0, none⟩ = some (.int .i64 a0_0) ∧ w'.cell? ⟨gb219, 1, none⟩ = some (.int .i64 a0_1) ∧ w'.cell? ⟨gb219, 2, none⟩ = some (.int .i64 a0_2) ∧ w'.cell? ⟨gb219, 3, none⟩ = some (.slice A0_3 l0_3.length c0_3) ∧ w'.cell? ⟨gb219, 4, none⟩ = some (.bool a0_4) ∧ w'.cell? ⟨gb219, 5, none⟩ = some (.slice (some ad220) l0_5.length c0_5) ∧ w'.cell? ⟨gb219, 6, none⟩ = some (.slice A0_6 l0_6.length c0_6) ∧ w'.cell? ⟨gb219, 7, none⟩ = some (.int .i64 a0_7) ∧ w'.cell? ⟨gb219, 8, none⟩ = some (.int .i64 a0_8) ∧ w'.cell? ⟨gb219, 9, none⟩ = some (.int .i64 a0_9) ∧ w'.cell? ⟨gb219, 10, none⟩ = some (.int .i64 a0_10) ∧ w'.cell? ⟨gb219, 11, none⟩ = some (.int .i64 a0_11) ∧ w'.cell? ⟨gb221, 0, none⟩ = some (.int .i64 ((rd_T45 l0_5 x3_1).f0)) ∧ w'.cell? ⟨gb221, 1, none⟩ = some (.string ((rd_T45 l0_5 x3_1).f1)) ∧ w'.cell? ⟨gb221, 2, none⟩ = some (.int .i64 ((rd_T45 l0_5 x3_1).f2)) ∧ w'.cell? ⟨gb221, 3, none⟩ = some (.int .i64 ((rd_T45 l0_5 x3_1).f3)) ∧ w'.cell? ⟨gb221, 4, none⟩ = some (.int .i64 ((rd_T45 l0_5 x3_1).f4)) ∧ w'.cell? ⟨gb221, 5, none⟩ = some (.string ((rd_T45 l0_5 x3_1).f5)) ∧ w'.cell? ⟨gb221, 6, none⟩ = some (.int .i64 ((rd_T45 l0_5 x3_1).f6)) ∧ w'.cell? ⟨gb221, 7, none⟩ = some (.int .i64 ((rd_T45 l0_5 x3_1).f7)) ∧ w'.cell? (ad220.add ((x5_3).toNat * 8)) = some (.int .i64 ((rd_T45 l0_5 x5_3).f0)) ∧ w'.cell? ⟨(ad220.add ((x5_3).toNat * 8)).block, (ad220.add ((x5_3).toNat * 8)).off + 1, none⟩ = some (.string ((rd_T45 l0_5 x5_3).f1)) ∧ w'.cell? ⟨(ad220.add ((x5_3).toNat * 8)).block, (ad220.add ((x5_3).toNat * 8)).off + 2, none⟩ = some (.int .i64 ((rd_T45 l0_5 x5_3).f2)) ∧ w'.cell? ⟨(ad220.add ((x5_3).toNat * 8)).block, (ad220.add ((x5_3).toNat * 8)).off + 3, none⟩ = some (.int .i64 ((rd_T45 l0_5 x5_3).f3)) ∧ w'.cell? ⟨(ad220.add ((x5_3).toNat * 8)).block, (ad220.add ((x5_3).toNat * 8)).off + 4, none⟩ = some (.int .i64 ((rd_T45 l0_5 x5_3).f4)) ∧ w'.cell? ⟨(ad220.add ((x5_3).toNat * 8)).block, (ad220.add ((x5_3).toNat * 8)).off + 5, none⟩ = some (.string ((rd_T45 l0_5 x5_3).f5)) ∧ w'.cell? ⟨(ad220.add ((x5_3).toNat * 8)).block, (ad220.add ((x5_3).toNat * 8)).off + 6, none⟩ = some (.int .i64 ((rd_T45 l0_5 x5_3).f6)) ∧ w'.cell? ⟨(ad220.add ((x5_3).toNat * 8)).block, (ad220.add ((x5_3).toNat * 8)).off + 7, none⟩ = some (.int .i64 ((rd_T45 l0_5 x5_3).f7)) ∧ w'.cell? (ad220.add ((x5_3).toNat * 8)) = some (.int .i64 ((rd_T45 l0_5 x5_3).f0)) ∧ w'.cell? ⟨(ad220.add ((x5_3).toNat * 8)).block, (ad220.add ((x5_3).toNat * 8)).off + 1, none⟩ = some (.string ((rd_T45 l0_5 x5_3).f1)) ∧ w'.cell? ⟨(ad220.add ((x5_3).toNat * 8)).block, (ad220.add ((x5_3).toNat * 8)).off + 2, none⟩ = some (.int .i64 ((rd_T45 l0_5 x5_3).f2)) ∧ w'.cell? ⟨(ad220.add ((x5_3).toNat * 8)).block, (ad220.add ((x5_3).toNat * 8)).off + 3, none⟩ = some (.int .i64 ((rd_T45 l0_5 x5_3).f3)) ∧ w'.cell? ⟨(ad220.add ((x5_3).toNat * 8)).block, (ad220.add ((x5_3).toNat * 8)).off + 4, none⟩ = some (.int .i64 ((rd_T45 l0_5 x5_3).f4)) ∧ w'.cell? ⟨(ad220.add ((x5_3).toNat * 8)).block, (ad220.add ((x5_3).toNat * 8)).off + 5, none⟩ = some (.string ((rd_T45 l0_5 x5_3).f5)) ∧ w'.cell? ⟨(ad220.add ((x5_3).toNat * 8)).block, (ad220.add ((x5_3).toNat * 8)).off + 6, none⟩ = some (.int .i64 ((rd_T45 l0_5 x5_3).f6)) ∧ w'.cell? ⟨(ad220.add ((x5_3).toNat * 8)).block, (ad220.add ((x5_3).toNat * 8)).off + 7, none⟩ = some (.int .i64 ((rd_T45 l0_5 x5_3).f7))) (ds := []) (rl [0,18]) (by kernel_rfl) rfl rfl (cw12 BK219.out (cw8 BK221.out ⟨(lb_ HB hw226_0 :), (lb_ HB hw226_1 :), (lb_ HB hw226_2 :), (lb_ HB hw226_3 :), (lb_ HB hw226_4 :), (lb_ HB hw226_5 :), (lb_ HB hw226_6 :), (lb_ HB hw226_7 :), (lb_ HB hw227_0 :), (lb_ HB hw227_1 :), (lb_ HB hw227_2 :), (lb_ HB hw227_3 :), (lb_ HB hw227_4 :), (lb_ HB hw227_5 :), (lb_ HB hw227_6 :), (lb_ HB hw227_7 :)⟩)) (fun hHeld => ?_); refine with_tabW spec_l10Lists.tab13 spec_l10Lists.bits13 (fun HT_ HW_ => ?_)
                 generalize wr.drew = w46 at BK219 BK221 HB hx226_0 hx226_1 hx226_2 hx226_3 hx226_4 hx226_5 hx226_6 hx226_7 hx227_0 hx227_1 hx227_2 hx227_3 hx227_4 hx227_5 hx227_6 hx227_7 hHeld ⊢
                 refine pz_ (i := 0) (N := some 59) HT_ (rl [1,17]) rfl rfl ?_
                 refine pz_ (i := 2) (N := some 61) HT_ (rl [1,1,1,15]) rfl rfl ?_
                 refine take_ (i := 1) (N := some 60) (v := ?_) (a' := ?_) (rl [3,15]) rfl rfl (take_ofW HT_.out HW_.out (by kernel_rfl)) (fun _ _ _ h => h) (Or.inl ⟨by rfl, ?_⟩) hHeld ?_ ?_
                 rotate_left
                 ·
                  rintro w' ⟨s0, s1, s2, s3, s4, s5, s6, s7, s8, s9, s10, s11, s12, s13, s14, s15, s16, s17, s18, s19, s20, s21, s22, s23, s24, s25, s26, s27, s28, s29, s30, s31, s32, s33, s34, s35⟩
                  go_simp
                  with_reducible rfl
                 rotate_left
                 ·
                  exact ap_
                 refine pz_ (i := 3) (N := some 62) HT_ (rl [4,14]) rfl rfl ?_
                 refine pz_ (i := 4) (N := some 63) HT_ (rl [5,13]) rfl rfl ?_
                 refine take_ (i := 5) (N := some 64) (v := ?_) (a' := ?_) (rl [6,12]) rfl rfl (take_ofW HT_.out HW_.out (by kernel_rfl)) (fun _ _ _ h => h) (Or.inl ⟨by rfl, ?_⟩) hHeld ?_ ?_
                 rotate_left
                 ·
                  rintro w' ⟨s0, s1, s2, s3, s4, s5, s6, s7, s8, s9, s10, s11, s12, s13, s14, s15, s16, s17, s18, s19, s20, s21, s22, s23, s24, s25, s26, s27, s28, s29, s30, s31, s32, s33, s34, s35⟩
                  go_simp
                  with_reducible rfl
                 rotate_left
                 ·
                  exact ap_
                 refine pz_ (i := 6) (N := some 65) HT_ (rl [7,11]) rfl rfl ?_
                 refine pz_ (i := 7) (N := some 66) HT_ (rl [8,10]) rfl rfl ?_
                 refine pz_ (i := 8) (N := some 67) HT_ (rl [9,9]) rfl rfl ?_
                 refine pz_ (i := 10) (N := some 69) HT_ (rl [9,1,1,7]) rfl rfl ?_
                 refine pz_ (i := 14) (N := some 73) HT_ (rl [9,1,1,3,1,3]) rfl rfl ?_
                 refine take_ (i := 9) (N := some 68) (v := ?_) (a' := ?_) (rl [11,3,1,3]) rfl rfl (take_ofW HT_.out HW_.out (by kernel_rfl)) (fun _ _ _ h => h) (Or.inl ⟨by rfl, ?_⟩) hHeld ?_ ?_
                 rotate_left
                 ·
                  rintro w' ⟨s0, s1, s2, s3, s4, s5, s6, s7, s8, s9, s10, s11, s12, s13, s14, s15, s16, s17, s18, s19, s20, s21, s22, s23, s24, s25, s26, s27, s28, s29, s30, s31, s32, s33, s34, s35⟩
                  go_simp
                  with_reducible rfl
                 rotate_left
                 ·
                  exact ap_
                 refine pz_ (i := 11) (N := some 70) HT_ (rl [12,2,1,3]) rfl rfl ?_
                 refine pz_ (i := 12) (N := some 71) HT_ (rl [13,1,1,3]) rfl rfl ?_
                 refine take_ (i := 13) (N := some 72) (v := ?_) (a' := ?_) (rl [15,3]) rfl rfl (take_ofW HT_.out HW_.out (by kernel_rfl)) (fun _ _ _ h => h) (Or.inl ⟨by rfl, ?_⟩) hHeld ?_ ?_
                 rotate_left
                 ·
                  rintro w' ⟨s0, s1, s2, s3, s4, s5, s6, s7, s8, s9, s10, s11, s12, s13, s14, s15, s16, s17, s18, s19, s20, s21, s22, s23, s24, s25, s26, s27, s28, s29, s30, s31, s32, s33, s34, s35⟩
                  go_simp
                  with_reducible rfl
                 rotate_left
                 ·
                  exact ap_
                 refine take_ (i := 15) (N := some 74) (v := ?_) (a' := ?_) (rl [16,2]) rfl rfl (take_ofW HT_.out HW_.out (by kernel_rfl)) (fun _ _ _ h => h) (Or.inl ⟨by rfl, ?_⟩) hHeld ?_ ?_
                 rotate_left
                 ·
                  rintro w' ⟨s0, s1, s2, s3, s4, s5, s6, s7, s8, s9, s10, s11, s12, s13, s14, s15, s16, s17, s18, s19, s20, s21, s22, s23, s24, s25, s26, s27, s28, s29, s30, s31, s32, s33, s34, s35⟩
                  go_simp
                  with_reducible rfl
                 rotate_left
                 ·
                  exact ap_
                 refine pz_ (i := 16) (N := some 75) HT_ (rl [17,1]) rfl rfl ?_
                 refine pz_ (i := 17) (N := some 76) HT_ (rl [18]) rfl rfl ?_
                 refine done_ (done_of HT_.out (by kernel_rfl)) ?_
                 try go_wp2
                 go_roundg k3
                 case measure => have := HK1.out; have := HJ4.out; have := HK3.out; omega
                 case rel => exact ⟨(wrap64 (x5_3 + 1)), eqq_, H', ⟨by have := HK1.out; have := HJ4.out; have := HK3.out; omega⟩, ⟨qK BK219⟩, ⟨qK BK221⟩, ⟨qB HB⟩⟩
               ·
                rw [if_neg c43] at H
                have c43b0 : (((rd_T45 l0_5 x5_3).f2) == 2) = false := beq_eq_false_iff_ne.mpr c43
                have c43b1 : (((rd_T45 l0_5 x5_3).f2) != 2) = true := bne_iff_ne.mpr c43
                have H' := Aside0.mk H
                clear H
                try go_wp2
                replace BK219 := am_ (blk_drew BK219.out)
                replace BK221 := am_ (blk_drew BK221.out)
                replace HB := am_ (below_drew1 HB.out)
                have p226 : 0 ≤ (x5_3 : Int) := od_
                have q226 : x5_3 < (l0_5.length : Int) := od_
                obtain ⟨ad226, e226, hx226_0, hx226_1, hx226_2, hx226_3, hx226_4, hx226_5, hx226_6, hx226_7⟩ := at_T45 HR0_5.out x5_3 p226 q226
                have hw226_7 := hx226_7
                have hw226_6 := hx226_6
                have hw226_5 := hx226_5
                have hw226_4 := hx226_4
                have hw226_3 := hx226_3
                have hw226_2 := hx226_2
                have hw226_1 := hx226_1
                have hw226_0 := hx226_0
                obtain rfl : ad220 = ad226 := (by injection e226)
                replace hx226_0 := lb_ HB hx226_0
                replace hx226_1 := lb_ HB hx226_1
                replace hx226_2 := lb_ HB hx226_2
                replace hx226_3 := lb_ HB hx226_3
                replace hx226_4 := lb_ HB hx226_4
                replace hx226_5 := lb_ HB hx226_5
                replace hx226_6 := lb_ HB hx226_6
                replace hx226_7 := lb_ HB hx226_7
                replace p226 := eq_true p226
                replace q226 := eq_true q226
                refine start_ (n := 18) (S := fun w' => w'.cell? ⟨gb219, 0, none⟩ = some (.int .i64 a0_0) ∧ w'.cell? ⟨gb219, 1, none⟩ = some (.int .i64 a0_1) ∧ w'.cell? ⟨gb219, 2, none⟩ = some (.int .i64 a0_2) ∧ w'.cell? ⟨gb219, 3, none⟩ = some (.slice A0_3 l0_3.length c0_3) ∧ w'.cell? ⟨gb219, 4, none⟩ = some (.bool a0_4) ∧ w'.cell? ⟨gb219, 5, none⟩ = some (.slice (some ad220) l0_5.length c0_5) ∧ w'.cell? ⟨gb219, 6, none⟩ = some (.slice A0_6 l0_6.length c0_6) ∧ w'.cell? ⟨gb219, 7, none⟩ = some (.int .i64 a0_7) ∧ w'.cell? ⟨gb219, 8, none⟩ = some (.int .i64 a0_8) ∧ w'.cell? ⟨gb219, 9, none⟩ = some (.int .i64 a0_9) ∧ w'.cell? ⟨gb219, 10, none⟩ = some (.int .i64 a0_10) ∧ w'.cell? ⟨gb219, 11, none⟩ = some (.int .i64 a0_11) ∧ w'.cell? (ad220.add ((x5_3).toNat * 8)) = some (.int .i64 ((rd_T45 l0_5 x5_3).f0)) ∧ w'.cell? ⟨(ad220.add ((x5_3).toNat * 8)).block, (ad220.add ((x5_3).toNat * 8)).off + 1, none⟩ = some (.string ((rd_T45 l0_5 x5_3).f1)) ∧ w'.cell? ⟨(ad220.add ((x5_3).toNat * 8)).block, (ad220.add ((x5_3).toNat * 8)).off + 2, none⟩ = some (.int .i64 ((rd_T45 l0_5 x5_3).f2)) ∧ w'.cell? ⟨(ad220.add ((x5_3).toNat * 8)).block, (ad220.add ((x5_3).toNat * 8)).off + 3, none⟩ = some (.int .i64 ((rd_T45 l0_5 x5_3).f3)) ∧ w'.cell? ⟨(ad220.add ((x5_3).toNat * 8)).block, (ad220.add ((x5_3).toNat * 8)).off + 4, none⟩ = some (.int .i64 ((rd_T45 l0_5 x5_3).f4)) ∧ w'.cell? ⟨(ad220.add ((x5_3).toNat * 8)).block, (ad220.add ((x5_3).toNat * 8)).off + 5, none⟩ = some (.string ((rd_T45 l0_5 x5_3).f5)) ∧ w'.cell? ⟨(ad220.add ((x5_3).toNat * 8)).block, (ad220.add ((x5_3).toNat * 8)).off + 6, none⟩ = some (.int .i64 ((rd_T45 l0_5 x5_3).f6)) ∧ w'.cell? ⟨(ad220.add ((x5_3).toNat * 8)).block, (ad220.add ((x5_3).toNat * 8)).off + 7, none⟩ = some (.int .i64 ((rd_T45 l0_5 x5_3).f7))) (ds := []) (rl [0,18]) (by kernel_rfl) rfl rfl (cw12 BK219.out ⟨(lb_ HB hw226_0 :), (lb_ HB hw226_1 :), (lb_ HB hw226_2 :), (lb_ HB hw226_3 :), (lb_ HB hw226_4 :), (lb_ HB hw226_5 :), (lb_ HB hw226_6 :), (lb_ HB hw226_7 :)⟩) (fun hHeld => ?_); refine with_tabW spec_l10Lists.tab13 spec_l10Lists.bits13 (fun HT_ HW_ => ?_)
                generalize wr.drew = w47 at BK219 BK221 HB hx226_0 hx226_1 hx226_2 hx226_3 hx226_4 hx226_5 hx226_6 hx226_7 hHeld ⊢
                refine pz_ (i := 0) (N := some 59) HT_ (rl [1,17]) rfl rfl ?_
                refine pz_ (i := 2) (N := some 61) HT_ (rl [1,1,1,15]) rfl rfl ?_
                refine take_ (i := 1) (N := some 60) (v := ?_) (a' := ?_) (rl [3,15]) rfl rfl (take_ofW HT_.out HW_.out (by kernel_rfl)) (fun _ _ _ h => h) (Or.inl ⟨by rfl, ?_⟩) hHeld ?_ ?_
                rotate_left
                ·
                 rintro w' ⟨s0, s1, s2, s3, s4, s5, s6, s7, s8, s9, s10, s11, s12, s13, s14, s15, s16, s17, s18, s19⟩
                 go_simp
                 with_reducible rfl
                rotate_left
                ·
                 exact ap_
                refine pz_ (i := 3) (N := some 62) HT_ (rl [4,14]) rfl rfl ?_
                refine pz_ (i := 4) (N := some 63) HT_ (rl [5,13]) rfl rfl ?_
                refine take_ (i := 5) (N := some 64) (v := ?_) (a' := ?_) (rl [6,12]) rfl rfl (take_ofW HT_.out HW_.out (by kernel_rfl)) (fun _ _ _ h => h) (Or.inl ⟨by rfl, ?_⟩) hHeld ?_ ?_
                rotate_left
                ·
                 rintro w' ⟨s0, s1, s2, s3, s4, s5, s6, s7, s8, s9, s10, s11, s12, s13, s14, s15, s16, s17, s18, s19⟩
                 go_simp
                 with_reducible rfl
                rotate_left
                ·
                 exact ap_
                refine pz_ (i := 6) (N := some 65) HT_ (rl [7,11]) rfl rfl ?_
                refine pz_ (i := 7) (N := some 66) HT_ (rl [8,10]) rfl rfl ?_
                refine pu_ (i := 8) (N := some 67) HT_ (rl [9,9]) rfl rfl ?_
                refine pu_ (i := 9) (N := some 68) HT_ (rl [10,8]) rfl rfl ?_
                refine pu_ (i := 10) (N := some 69) HT_ (rl [11,7]) rfl rfl ?_
                refine pu_ (i := 11) (N := some 70) HT_ (rl [12,6]) rfl rfl ?_
                refine pu_ (i := 12) (N := some 71) HT_ (rl [13,5]) rfl rfl ?_
                refine pu_ (i := 13) (N := some 72) HT_ (rl [14,4]) rfl rfl ?_
                refine pu_ (i := 14) (N := some 73) HT_ (rl [15,3]) rfl rfl ?_
                refine pu_ (i := 15) (N := some 74) HT_ (rl [16,2]) rfl rfl ?_
                refine pu_ (i := 16) (N := some 75) HT_ (rl [17,1]) rfl rfl ?_
                refine pz_ (i := 17) (N := some 76) HT_ (rl [18]) rfl rfl ?_
                refine done_ (done_of HT_.out (by kernel_rfl)) ?_
                try go_wp2
                go_roundg k3
                case measure => have := HK1.out; have := HJ4.out; have := HK3.out; omega
                case rel => exact ⟨(wrap64 (x5_3 + 1)), eqq_, H', ⟨by have := HK1.out; have := HJ4.out; have := HK3.out; omega⟩, ⟨qK BK219⟩, ⟨qK BK221⟩, ⟨qB HB⟩⟩
              ·
               rw [if_neg c42] at H
               exact absurd H (by simp)
             ·
              rw [if_neg c41] at H
              exact absurd H (by simp)
            ·
             rw [if_neg c40] at H
             have c40b0 : decide (x5_3 < x3_1) = false := decide_eq_false c40
             clear c40
             have H' := Aside0.mk H
             clear H
             go_wp2
             go_roundg k3
             case measure => have := HK1.out; have := HJ4.out; have := HK3.out; omega
             case rel => exact ⟨(wrap64 (x3_1 + 1)), eqq_, H', ⟨by have := HK1.out; have := HJ4.out; have := HK3.out; omega⟩, ⟨qK BK219⟩, ⟨qB HB⟩⟩
        ·
         rw [if_neg c32] at H
         have c32b0 : (((rd_T45 l0_5 x3_1).f2) == 2) = false := beq_eq_false_iff_ne.mpr c32
         have c32b1 : (((rd_T45 l0_5 x3_1).f2) != 2) = true := bne_iff_ne.mpr c32
         have H' := Aside0.mk H
         clear H
         have hnb48 := NB221_219.out
         have hnc48 := NB219_221.out
         obtain ⟨z49_0, z49_1, z49_2, z49_3, z49_4, z49_5, z49_6, z49_7⟩ := cz8 BK221.out
         obtain ⟨f49_0, f49_1, f49_2, f49_3, f49_4, f49_5, f49_6, f49_7⟩ := fz8 BK221.out
         go_wp2
         go_roundg kj4
         case measure => have := HK1.out; have := HJ4.out; omega
         case rel => exact ⟨(wrap64 (x3_1 + 1)), eqq_, H', ⟨by have := HK1.out; have := HJ4.out; omega⟩, ⟨qK BK219⟩, ⟨qB HB⟩⟩
    ·
     rw [if_neg c4] at H
     exact absurd H (by simp)
   ·
    rw [if_neg c3] at H
    have c3b0 : decide (x3_1 < (l0_5.length : Int)) = false := decide_eq_false c3
    clear c3
    have H' := Aside0.mk H
    clear H
    obtain ⟨z50_0, z50_1, z50_2, z50_3, z50_4, z50_5, z50_6, z50_7, z50_8, z50_9, z50_10, z50_11⟩ := cz12 BK219.out
    obtain ⟨f50_0, f50_1, f50_2, f50_3, f50_4, f50_5, f50_6, f50_7, f50_8, f50_9, f50_10, f50_11⟩ := fz12 BK219.out
    go_wp2
    go_loopg [6] k1 (fun kq v6 w' => ∃ (x6_2 : Int), v6 = .int .i64 x6_2 ∧ Aside0 (spec_l10Lists.l2 kq x6_2 a0_0 a0_1 a0_2 l0_3 a0_4 l0_5 l0_6 a0_7 a0_8 a0_9 a0_10 a0_11 = some r) ∧ Aside0 (kq ≤ k1) ∧ Aside0 (w'.heap[gb219]? = some (.cells #[.int .i64 a0_0, .int .i64 a0_1, .int .i64 a0_2, (.slice A0_3 l0_3.length c0_3), .bool a0_4, (.slice A0_5 l0_5.length c0_5), (.slice A0_6 l0_6.length c0_6), .int .i64 a0_7, .int .i64 a0_8, .int .i64 a0_9, .int .i64 a0_10, .int .i64 a0_11] 67 (0, 0))) ∧ Aside0 (Below w.heap.size w w'))
    case atStart => exact ⟨(0), eqq_, H', ⟨Nat.le_refl _⟩, ⟨qK BK219⟩, ⟨qB HB⟩⟩
    case round =>
     clear H'
     try clear p2
     try clear q2
     try clear hx2
     try clear c3
     try clear c3b0
     try clear c4
     try clear p6
     try clear p22
     try clear q22
     try clear hx22
     try clear c32
     try clear c32b0
     try clear c32b1
     try clear c40
     try clear c40b0
     try clear c41
     try clear c42
     try clear c43
     try clear c43b0
     try clear c43b1
     try clear c44
     try clear c44b0
     try clear c44b1
     try clear c48
     (try clear z49_0 z49_1 z49_2 z49_3 z49_4 z49_5 z49_6 z49_7)
     (try clear z50_0 z50_1 z50_10 z50_11 z50_2 z50_3 z50_4 z50_5 z50_6 z50_7 z50_8 z50_9)
     (try clear f49_0 f49_1 f49_2 f49_3 f49_4 f49_5 f49_6 f49_7)
     (try clear f50_0 f50_1 f50_10 f50_11 f50_2 f50_3 f50_4 f50_5 f50_6 f50_7 f50_8 f50_9)
     try clear hx226_0
     try clear hx226_1
     try clear hx226_2
     try clear hx226_3
     try clear hx226_4
     try clear hx226_5
     try clear hx226_6
     try clear hx226_7
     try clear hx227_0
     try clear hx227_1
     try clear hx227_2
     try clear hx227_3
     try clear hx227_4
     try clear hx227_5
     try clear hx227_6
     try clear hx227_7
     try clear p226
     try clear p227
     try clear q226
     try clear q227
     obtain ⟨x6_2, rfl, HA, HK2, BK219, HB⟩ := hrel
     cases gk with
     | zero => exact absurd HA.out (by simp [spec_l10Lists.l2])
     | succ k2 =>
      have H := HA.out
      clear HA
      simp only [spec_l10Lists.l2] at H
      by_cases c51 : x6_2 < (l0_6.length : Int)
      ·
       rw [if_pos c51] at H
       have c51b0 : decide (x6_2 < (l0_6.length : Int)) = true := decide_eq_true c51
       clear c51
       by_cases c52 : 0 ≤ x6_2
       ·
        rw [if_pos c52] at H
        have c52b0 : decide (0 ≤ x6_2) = true := decide_eq_true c52
        clear c52
        obtain ⟨t229, A53, H⟩ := bd_ H
        by_cases c54 : t229 = true
        ·
         subst c54
         rw [if_pos rfl] at H
         by_cases c55 : x6_2 > 0
         ·
          rw [if_pos c55] at H
          have c55b0 : decide (0 < x6_2) = true := decide_eq_true c55
          clear c55
          obtain ⟨ji56, hji56⟩ : ∃ j_ : Int, (wrap64 (x6_2 - 1)) = j_ := ⟨_, rfl⟩
          replace H : (if 0 ≤ (ji56) then (if (ji56) < (l0_6.length : Int) then (if ((rd_T46 l0_6 (ji56)).f0) ≥ ((rd_T46 l0_6 x6_2).f0) then (some false) else (spec_l10Lists.l2 k2 (wrap64 (x6_2 + 1)) a0_0 a0_1 a0_2 l0_3 a0_4 l0_5 l0_6 a0_7 a0_8 a0_9 a0_10 a0_11)) else (none)) else (none)) = some r := by first | (rw [hji56] at H; exact H) | (simp only [hji56] at H ⊢; exact H)
          (try rw [hji56] at A53)
          have hji56w : (IntKind.i64.wrap (x6_2 - 1)) = ji56 := (i64_w _).trans hji56
          by_cases c57 : 0 ≤ (ji56)
          ·
           rw [if_pos c57] at H
           have c57b0 : decide (0 ≤ (ji56)) = true := decide_eq_true c57
           clear c57
           by_cases c58 : (ji56) < (l0_6.length : Int)
           ·
            rw [if_pos c58] at H
            have c58b0 : decide ((ji56) < (l0_6.length : Int)) = true := decide_eq_true c58
            clear c58
            have HC59 := Aside0.mk H
            clear H
            obtain ⟨z60_0, z60_1, z60_2, z60_3, z60_4, z60_5, z60_6, z60_7, z60_8, z60_9, z60_10, z60_11⟩ := cz12 BK219.out
            obtain ⟨f60_0, f60_1, f60_2, f60_3, f60_4, f60_5, f60_6, f60_7, f60_8, f60_9, f60_10, f60_11⟩ := fz12 BK219.out
            try go_wp2
            replace BK219 := am_ (blk_drew BK219.out)
            replace HB := am_ (below_drew1 HB.out)
            have p228 : 0 ≤ (x6_2 : Int) := od_
            have q228 : x6_2 < (l0_6.length : Int) := od_
            obtain ⟨ad228, e228, hx228_0, hx228_1, hx228_2, hx228_3, hx228_4, hx228_5, hx228_6⟩ := at_T46 HR0_6.out x6_2 p228 q228
            have hw228_6 := hx228_6
            have hw228_5 := hx228_5
            have hw228_4 := hx228_4
            have hw228_3 := hx228_3
            have hw228_2 := hx228_2
            have hw228_1 := hx228_1
            have hw228_0 := hx228_0
            cases e228
            replace hx228_0 := lb_ HB hx228_0
            replace hx228_1 := lb_ HB hx228_1
            replace hx228_2 := lb_ HB hx228_2
            replace hx228_3 := lb_ HB hx228_3
            replace hx228_4 := lb_ HB hx228_4
            replace hx228_5 := lb_ HB hx228_5
            replace hx228_6 := lb_ HB hx228_6
            replace p228 := eq_true p228
            replace q228 := eq_true q228
            have p230 : 0 ≤ ((ji56) : Int) := od_
            have q230 : (ji56) < (l0_6.length : Int) := od_
            obtain ⟨ad230, e230, hx230_0, hx230_1, hx230_2, hx230_3, hx230_4, hx230_5, hx230_6⟩ := at_T46 HR0_6.out (ji56) p230 q230
            have hw230_6 := hx230_6
            have hw230_5 := hx230_5
            have hw230_4 := hx230_4
            have hw230_3 := hx230_3
            have hw230_2 := hx230_2
            have hw230_1 := hx230_1
            have hw230_0 := hx230_0
            obtain rfl : ad228 = ad230 := (by injection e230)
            replace hx230_0 := lb_ HB hx230_0
            replace hx230_1 := lb_ HB hx230_1
            replace hx230_2 := lb_ HB hx230_2
            replace hx230_3 := lb_ HB hx230_3
            replace hx230_4 := lb_ HB hx230_4
            replace hx230_5 := lb_ HB hx230_5
            replace hx230_6 := lb_ HB hx230_6
            replace p230 := eq_true p230
            replace q230 := eq_true q230
            have p231 : 0 ≤ (x6_2 : Int) := od_
            have q231 : x6_2 < (l0_6.length : Int) := od_
            obtain ⟨ad231, e231, hx231_0, hx231_1, hx231_2, hx231_3, hx231_4, hx231_5, hx231_6⟩ := at_T46 HR0_6.out x6_2 p231 q231
            have hw231_6 := hx231_6
            have hw231_5 := hx231_5
            have hw231_4 := hx231_4
            have hw231_3 := hx231_3
            have hw231_2 := hx231_2
            have hw231_1 := hx231_1
            have hw231_0 := hx231_0
            obtain rfl : ad228 = ad231 := (by injection e231)
            replace hx231_0 := lb_ HB hx231_0
            replace hx231_1 := lb_ HB hx231_1
            replace hx231_2 := lb_ HB hx231_2
            replace hx231_3 := lb_ HB hx231_3
            replace hx231_4 := lb_ HB hx231_4
            replace hx231_5 := lb_ HB hx231_5
            replace hx231_6 := lb_ HB hx231_6
            replace p231 := eq_true p231
            replace q231 := eq_true q231
            refine start_ (n := 27) (S := fun w' => w'.cell? ⟨gb219, 0, none⟩ = some (.int .i64 a0_0) ∧ w'.cell? ⟨gb219, 1, none⟩ = some (.int .i64 a0_1) ∧ w'.cell? ⟨gb219, 2, none⟩ = some (.int .i64 a0_2) ∧ w'.cell? ⟨gb219, 3, none⟩ = some (.slice A0_3 l0_3.length c0_3) ∧ w'.cell? ⟨gb219, 4, none⟩ = some (.bool a0_4) ∧ w'.cell? ⟨gb219, 5, none⟩ = some (.slice A0_5 l0_5.length c0_5) ∧ w'.cell? ⟨gb219, 6, none⟩ = some (.slice (some ad228) l0_6.length c0_6) ∧ w'.cell? ⟨gb219, 7, none⟩ = some (.int .i64 a0_7) ∧ w'.cell? ⟨gb219, 8, none⟩ = some (.int .i64 a0_8) ∧ w'.cell? ⟨gb219, 9, none⟩ = some (.int .i64 a0_9) ∧ w'.cell? ⟨gb219, 10, none⟩ = some (.int .i64 a0_10) ∧ w'.cell? ⟨gb219, 11, none⟩ = some (.int .i64 a0_11) ∧ w'.cell? (ad228.add ((x6_2).toNat * 7)) = some (.int .i64 ((rd_T46 l0_6 x6_2).f0)) ∧ w'.cell? ⟨(ad228.add ((x6_2).toNat * 7)).block, (ad228.add ((x6_2).toNat * 7)).off + 1, none⟩ = some (.string ((rd_T46 l0_6 x6_2).f1)) ∧ w'.cell? ⟨(ad228.add ((x6_2).toNat * 7)).block, (ad228.add ((x6_2).toNat * 7)).off + 2, none⟩ = some (.int .i64 ((rd_T46 l0_6 x6_2).f2)) ∧ w'.cell? ⟨(ad228.add ((x6_2).toNat * 7)).block, (ad228.add ((x6_2).toNat * 7)).off + 3, none⟩ = some (.int .i64 ((rd_T46 l0_6 x6_2).f3)) ∧ w'.cell? ⟨(ad228.add ((x6_2).toNat * 7)).block, (ad228.add ((x6_2).toNat * 7)).off + 4, none⟩ = some (.int .i64 ((rd_T46 l0_6 x6_2).f4)) ∧ w'.cell? ⟨(ad228.add ((x6_2).toNat * 7)).block, (ad228.add ((x6_2).toNat * 7)).off + 5, none⟩ = some (.int .i64 ((rd_T46 l0_6 x6_2).f5)) ∧ w'.cell? ⟨(ad228.add ((x6_2).toNat * 7)).block, (ad228.add ((x6_2).toNat * 7)).off + 6, none⟩ = some (.int .i64 ((rd_T46 l0_6 x6_2).f6)) ∧ w'.cell? (ad228.add (((ji56)).toNat * 7)) = some (.int .i64 ((rd_T46 l0_6 (ji56)).f0)) ∧ w'.cell? ⟨(ad228.add (((ji56)).toNat * 7)).block, (ad228.add (((ji56)).toNat * 7)).off + 1, none⟩ = some (.string ((rd_T46 l0_6 (ji56)).f1)) ∧ w'.cell? ⟨(ad228.add (((ji56)).toNat * 7)).block, (ad228.add (((ji56)).toNat * 7)).off + 2, none⟩ = some (.int .i64 ((rd_T46 l0_6 (ji56)).f2)) ∧ w'.cell? ⟨(ad228.add (((ji56)).toNat * 7)).block, (ad228.add (((ji56)).toNat * 7)).off + 3, none⟩ = some (.int .i64 ((rd_T46 l0_6 (ji56)).f3)) ∧ w'.cell? ⟨(ad228.add (((ji56)).toNat * 7)).block, (ad228.add (((ji56)).toNat * 7)).off + 4, none⟩ = some (.int .i64 ((rd_T46 l0_6 (ji56)).f4)) ∧ w'.cell? ⟨(ad228.add (((ji56)).toNat * 7)).block, (ad228.add (((ji56)).toNat * 7)).off + 5, none⟩ = some (.int .i64 ((rd_T46 l0_6 (ji56)).f5)) ∧ w'.cell? ⟨(ad228.add (((ji56)).toNat * 7)).block, (ad228.add (((ji56)).toNat * 7)).off + 6, none⟩ = some (.int .i64 ((rd_T46 l0_6 (ji56)).f6)) ∧ w'.cell? (ad228.add ((x6_2).toNat * 7)) = some (.int .i64 ((rd_T46 l0_6 x6_2).f0)) ∧ w'.cell? ⟨(ad228.add ((x6_2).toNat * 7)).block, (ad228.add ((x6_2).toNat * 7)).off + 1, none⟩ = some (.string ((rd_T46 l0_6 x6_2).f1)) ∧ w'.cell? ⟨(ad228.add ((x6_2).toNat * 7)).block, (ad228.add ((x6_2).toNat * 7)).off + 2, none⟩ = some (.int .i64 ((rd_T46 l0_6 x6_2).f2)) ∧ w'.cell? ⟨(ad228.add ((x6_2).toNat * 7)).block, (ad228.add ((x6_2).toNat * 7)).off + 3, none⟩ = some (.int .i64 ((rd_T46 l0_6 x6_2).f3)) ∧ w'.cell? ⟨(ad228.add ((x6_2).toNat * 7)).block, (ad228.add ((x6_2).toNat * 7)).off + 4, none⟩ = some (.int .i64 ((rd_T46 l0_6 x6_2).f4)) ∧ w'.cell? ⟨(ad228.add ((x6_2).toNat * 7)).block, (ad228.add ((x6_2).toNat * 7)).off + 5, none⟩ = some (.int .i64 ((rd_T46 l0_6 x6_2).f5)) ∧ w'.cell? ⟨(ad228.add ((x6_2).toNat * 7)).block, (ad228.add ((x6_2).toNat * 7)).off + 6, none⟩ = some (.int .i64 ((rd_T46 l0_6 x6_2).f6))) (ds := []) (rl [0,27]) (by kernel_rfl) rfl rfl (cw12 BK219.out ⟨(lb_ HB hw228_0 :), (lb_ HB hw228_1 :), (lb_ HB hw228_2 :), (lb_ HB hw228_3 :), (lb_ HB hw228_4 :), (lb_ HB hw228_5 :), (lb_ HB hw228_6 :), (lb_ HB hw230_0 :), (lb_ HB hw230_1 :), (lb_ HB hw230_2 :), (lb_ HB hw230_3 :), (lb_ HB hw230_4 :), (lb_ HB hw230_5 :), (lb_ HB hw230_6 :), (lb_ HB hw231_0 :), (lb_ HB hw231_1 :), (lb_ HB hw231_2 :), (lb_ HB hw231_3 :), (lb_ HB hw231_4 :), (lb_ HB hw231_5 :), (lb_ HB hw231_6 :)⟩) (fun hHeld => ?_); refine with_tabW spec_l10Lists.tab18 spec_l10Lists.bits18 (fun HT_ HW_ => ?_)
            generalize wr.drew = w61 at BK219 HB hx228_0 hx228_1 hx228_2 hx228_3 hx228_4 hx228_5 hx228_6 hx230_0 hx230_1 hx230_2 hx230_3 hx230_4 hx230_5 hx230_6 hx231_0 hx231_1 hx231_2 hx231_3 hx231_4 hx231_5 hx231_6 hHeld ⊢
            refine pz_ (i := 0) (N := some 84) HT_ (rl [1,26]) rfl rfl ?_
            refine pz_ (i := 2) (N := some 86) HT_ (rl [1,1,1,24]) rfl rfl ?_
            refine take_ (i := 1) (N := some 85) (v := ?_) (a' := ?_) (rl [3,24]) rfl rfl (take_ofW HT_.out HW_.out (by kernel_rfl)) (fun _ _ _ h => h) (Or.inl ⟨by rfl, ?_⟩) hHeld ?_ ?_
            rotate_left
            ·
             rintro w' ⟨s0, s1, s2, s3, s4, s5, s6, s7, s8, s9, s10, s11, s12, s13, s14, s15, s16, s17, s18, s19, s20, s21, s22, s23, s24, s25, s26, s27, s28, s29, s30, s31, s32⟩
             go_simp
             with_reducible rfl
            rotate_left
            ·
             exact ap_
            refine pz_ (i := 3) (N := some 87) HT_ (rl [4,23]) rfl rfl ?_
            refine take_ (i := 4) (N := some 88) (v := ?_) (a' := ?_) (rl [5,22]) rfl rfl (take_ofW HT_.out HW_.out (by kernel_rfl)) (fun _ _ _ h => h) (Or.inl ⟨by rfl, ?_⟩) hHeld ?_ ?_
            rotate_left
            ·
             rintro w' ⟨s0, s1, s2, s3, s4, s5, s6, s7, s8, s9, s10, s11, s12, s13, s14, s15, s16, s17, s18, s19, s20, s21, s22, s23, s24, s25, s26, s27, s28, s29, s30, s31, s32⟩
             go_simp
             with_reducible rfl
            rotate_left
            ·
             exact ap_
            refine one_ (i := 5) (N := some 89) (rl [6,21]) rfl rfl (one_of HT_.out (by kernel_rfl)) (by decide) (fun K hK => ?_)
            refine goes_ Try.func76 (by kernel_rfl) rfl #[.agg #[.int .i64 ((rd_T46 l0_6 x6_2).f0), .string ((rd_T46 l0_6 x6_2).f1), .int .i64 ((rd_T46 l0_6 x6_2).f2), .int .i64 ((rd_T46 l0_6 x6_2).f3), .int .i64 ((rd_T46 l0_6 x6_2).f4), .int .i64 ((rd_T46 l0_6 x6_2).f5), .int .i64 ((rd_T46 l0_6 x6_2).f6)]] (by rfl) rfl rfl la_ ?_
            with_reducible refine (spec_LineOk.calls k2 ((rd_T46 l0_6 x6_2).f0) ((rd_T46 l0_6 x6_2).f1) ((rd_T46 l0_6 x6_2).f2) ((rd_T46 l0_6 x6_2).f3) ((rd_T46 l0_6 x6_2).f4) ((rd_T46 l0_6 x6_2).f5) ((rd_T46 l0_6 x6_2).f6) true _ A53.out).mono ?_
            rintro e w62 ⟨rfl, hb⟩
            refine ⟨_, rfl, ?_⟩
            replace BK219 := am_ (blk_below (qK BK219) hb)
            replace HB := am_ (below_step (qB HB) hb)
            (try clear hb)
            refine hK.out _ _ (cw12 BK219.out ⟨(lb_ HB hw228_0 :), (lb_ HB hw228_1 :), (lb_ HB hw228_2 :), (lb_ HB hw228_3 :), (lb_ HB hw228_4 :), (lb_ HB hw228_5 :), (lb_ HB hw228_6 :), (lb_ HB hw230_0 :), (lb_ HB hw230_1 :), (lb_ HB hw230_2 :), (lb_ HB hw230_3 :), (lb_ HB hw230_4 :), (lb_ HB hw230_5 :), (lb_ HB hw230_6 :), (lb_ HB hw231_0 :), (lb_ HB hw231_1 :), (lb_ HB hw231_2 :), (lb_ HB hw231_3 :), (lb_ HB hw231_4 :), (lb_ HB hw231_5 :), (lb_ HB hw231_6 :)⟩) (fun hHeld => ?_)
            clear hK K
            refine norm_ (a' := ?_) ?_ ?_
            rotate_left
            ·
             show Act.put _ (some 89) _ = _
             exact ap_
            refine pz_ (i := 6) (N := some 90) HT_ (rl [7,20]) rfl rfl ?_
            refine pz_ (i := 7) (N := some 91) HT_ (rl [8,19]) rfl rfl ?_
            refine pz_ (i := 8) (N := some 92) HT_ (rl [9,18]) rfl rfl ?_
            refine pz_ (i := 9) (N := some 93) HT_ (rl [10,17]) rfl rfl ?_
            refine pz_ (i := 10) (N := some 94) HT_ (rl [11,16]) rfl rfl ?_
            refine pz_ (i := 11) (N := some 95) HT_ (rl [12,15]) rfl rfl ?_
            refine pz_ (i := 13) (N := some 97) HT_ (rl [12,1,1,13]) rfl rfl ?_
            refine pz_ (i := 14) (N := some 98) HT_ (rl [12,1,2,12]) rfl rfl ?_
            refine pz_ (i := 18) (N := some 102) HT_ (rl [12,1,2,3,1,8]) rfl rfl ?_
            refine pz_ (i := 20) (N := some 104) HT_ (rl [12,1,2,3,1,1,1,6]) rfl rfl ?_
            refine take_ (i := 12) (N := some 96) (v := ?_) (a' := ?_) (rl [15,3,1,1,1,6]) rfl rfl (take_ofW HT_.out HW_.out (by kernel_rfl)) (fun _ _ _ h => h) (Or.inl ⟨by rfl, ?_⟩) hHeld ?_ ?_
            rotate_left
            ·
             rintro w' ⟨s0, s1, s2, s3, s4, s5, s6, s7, s8, s9, s10, s11, s12, s13, s14, s15, s16, s17, s18, s19, s20, s21, s22, s23, s24, s25, s26, s27, s28, s29, s30, s31, s32⟩
             go_simp
             with_reducible rfl
            rotate_left
            ·
             exact ap_
            refine pz_ (i := 15) (N := some 99) HT_ (rl [16,2,1,1,1,6]) rfl rfl ?_
            refine pz_ (i := 16) (N := some 100) HT_ (rl [17,1,1,1,1,6]) rfl rfl ?_
            refine take_ (i := 17) (N := some 101) (v := ?_) (a' := ?_) (rl [19,1,1,6]) rfl rfl (take_ofW HT_.out HW_.out (by kernel_rfl)) (fun _ _ _ h => h) (Or.inl ⟨by rfl, ?_⟩) hHeld ?_ ?_
            rotate_left
            ·
             rintro w' ⟨s0, s1, s2, s3, s4, s5, s6, s7, s8, s9, s10, s11, s12, s13, s14, s15, s16, s17, s18, s19, s20, s21, s22, s23, s24, s25, s26, s27, s28, s29, s30, s31, s32⟩
             go_simp
             with_reducible rfl
            rotate_left
            ·
             exact ap_
            refine take_ (i := 19) (N := some 103) (v := ?_) (a' := ?_) (rl [21,6]) rfl rfl (take_ofW HT_.out HW_.out (by kernel_rfl)) (fun _ _ _ h => h) (Or.inl ⟨by rfl, ?_⟩) hHeld ?_ ?_
            rotate_left
            ·
             rintro w' ⟨s0, s1, s2, s3, s4, s5, s6, s7, s8, s9, s10, s11, s12, s13, s14, s15, s16, s17, s18, s19, s20, s21, s22, s23, s24, s25, s26, s27, s28, s29, s30, s31, s32⟩
             go_simp
             with_reducible rfl
            rotate_left
            ·
             exact ap_
            refine pz_ (i := 21) (N := some 105) HT_ (rl [22,5]) rfl rfl ?_
            refine pz_ (i := 22) (N := some 106) HT_ (rl [23,4]) rfl rfl ?_
            refine take_ (i := 23) (N := some 107) (v := ?_) (a' := ?_) (rl [24,3]) rfl rfl (take_ofW HT_.out HW_.out (by kernel_rfl)) (fun _ _ _ h => h) (Or.inl ⟨by rfl, ?_⟩) hHeld ?_ ?_
            rotate_left
            ·
             rintro w' ⟨s0, s1, s2, s3, s4, s5, s6, s7, s8, s9, s10, s11, s12, s13, s14, s15, s16, s17, s18, s19, s20, s21, s22, s23, s24, s25, s26, s27, s28, s29, s30, s31, s32⟩
             go_simp
             with_reducible rfl
            rotate_left
            ·
             exact ap_
            refine pz_ (i := 24) (N := some 108) HT_ (rl [25,2]) rfl rfl ?_
            refine pz_ (i := 25) (N := some 109) HT_ (rl [26,1]) rfl rfl ?_
            refine pz_ (i := 26) (N := some 110) HT_ (rl [27]) rfl rfl ?_
            refine done_ (done_of HT_.out (by kernel_rfl)) ?_
            go_upto_if 110 with (fail)
            have H := HC59.out
            clear HC59
            by_cases c63 : ((rd_T46 l0_6 (ji56)).f0) ≥ ((rd_T46 l0_6 x6_2).f0)
            ·
             rw [if_pos c63] at H
             have c63b0 : decide (((rd_T46 l0_6 x6_2).f0) ≤ ((rd_T46 l0_6 (ji56)).f0)) = true := decide_eq_true c63
             clear c63
             (first | rw [c63b0] | (simp only [i64_w, i32_w]; rw [c63b0]) | skip)
             obtain rfl := Option.some.inj H
             go_wp2
             go_ret
             exact ⟨by first | rfl | (simp [errW_none, errW_some] <;> rfl) | (simp only [← hji56]; first | rfl | (simp [errW_none, errW_some] <;> rfl)) | (simp [*, errW_none, errW_some] <;> rfl), qB HB⟩
            ·
             rw [if_neg c63] at H
             have c63b0 : decide (((rd_T46 l0_6 x6_2).f0) ≤ ((rd_T46 l0_6 (ji56)).f0)) = false := decide_eq_false c63
             clear c63
             (first | rw [c63b0] | (simp only [i64_w, i32_w]; rw [c63b0]) | skip)
             have H' := Aside0.mk H
             clear H
             go_wp2
             go_roundg k2
             case measure => have := HK1.out; have := HK2.out; omega
             case rel => exact ⟨(wrap64 (x6_2 + 1)), eqq_, H', ⟨by have := HK1.out; have := HK2.out; omega⟩, ⟨qK BK219⟩, ⟨qB HB⟩⟩
           ·
            rw [if_neg c58] at H
            exact absurd H (by simp)
          ·
           rw [if_neg c57] at H
           exact absurd H (by simp)
         ·
          rw [if_neg c55] at H
          have c55b0 : decide (0 < x6_2) = false := decide_eq_false c55
          clear c55
          have H' := Aside0.mk H
          clear H
          obtain ⟨z64_0, z64_1, z64_2, z64_3, z64_4, z64_5, z64_6, z64_7, z64_8, z64_9, z64_10, z64_11⟩ := cz12 BK219.out
          obtain ⟨f64_0, f64_1, f64_2, f64_3, f64_4, f64_5, f64_6, f64_7, f64_8, f64_9, f64_10, f64_11⟩ := fz12 BK219.out
          try go_wp2
          replace BK219 := am_ (blk_drew BK219.out)
          replace HB := am_ (below_drew1 HB.out)
          have p228 : 0 ≤ (x6_2 : Int) := od_
          have q228 : x6_2 < (l0_6.length : Int) := od_
          obtain ⟨ad228, e228, hx228_0, hx228_1, hx228_2, hx228_3, hx228_4, hx228_5, hx228_6⟩ := at_T46 HR0_6.out x6_2 p228 q228
          have hw228_6 := hx228_6
          have hw228_5 := hx228_5
          have hw228_4 := hx228_4
          have hw228_3 := hx228_3
          have hw228_2 := hx228_2
          have hw228_1 := hx228_1
          have hw228_0 := hx228_0
          cases e228
          replace hx228_0 := lb_ HB hx228_0
          replace hx228_1 := lb_ HB hx228_1
          replace hx228_2 := lb_ HB hx228_2
          replace hx228_3 := lb_ HB hx228_3
          replace hx228_4 := lb_ HB hx228_4
          replace hx228_5 := lb_ HB hx228_5
          replace hx228_6 := lb_ HB hx228_6
          replace p228 := eq_true p228
          replace q228 := eq_true q228
          refine start_ (n := 27) (S := fun w' => w'.cell? ⟨gb219, 0, none⟩ = some (.int .i64 a0_0) ∧ w'.cell? ⟨gb219, 1, none⟩ = some (.int .i64 a0_1) ∧ w'.cell? ⟨gb219, 2, none⟩ = some (.int .i64 a0_2) ∧ w'.cell? ⟨gb219, 3, none⟩ = some (.slice A0_3 l0_3.length c0_3) ∧ w'.cell? ⟨gb219, 4, none⟩ = some (.bool a0_4) ∧ w'.cell? ⟨gb219, 5, none⟩ = some (.slice A0_5 l0_5.length c0_5) ∧ w'.cell? ⟨gb219, 6, none⟩ = some (.slice (some ad228) l0_6.length c0_6) ∧ w'.cell? ⟨gb219, 7, none⟩ = some (.int .i64 a0_7) ∧ w'.cell? ⟨gb219, 8, none⟩ = some (.int .i64 a0_8) ∧ w'.cell? ⟨gb219, 9, none⟩ = some (.int .i64 a0_9) ∧ w'.cell? ⟨gb219, 10, none⟩ = some (.int .i64 a0_10) ∧ w'.cell? ⟨gb219, 11, none⟩ = some (.int .i64 a0_11) ∧ w'.cell? (ad228.add ((x6_2).toNat * 7)) = some (.int .i64 ((rd_T46 l0_6 x6_2).f0)) ∧ w'.cell? ⟨(ad228.add ((x6_2).toNat * 7)).block, (ad228.add ((x6_2).toNat * 7)).off + 1, none⟩ = some (.string ((rd_T46 l0_6 x6_2).f1)) ∧ w'.cell? ⟨(ad228.add ((x6_2).toNat * 7)).block, (ad228.add ((x6_2).toNat * 7)).off + 2, none⟩ = some (.int .i64 ((rd_T46 l0_6 x6_2).f2)) ∧ w'.cell? ⟨(ad228.add ((x6_2).toNat * 7)).block, (ad228.add ((x6_2).toNat * 7)).off + 3, none⟩ = some (.int .i64 ((rd_T46 l0_6 x6_2).f3)) ∧ w'.cell? ⟨(ad228.add ((x6_2).toNat * 7)).block, (ad228.add ((x6_2).toNat * 7)).off + 4, none⟩ = some (.int .i64 ((rd_T46 l0_6 x6_2).f4)) ∧ w'.cell? ⟨(ad228.add ((x6_2).toNat * 7)).block, (ad228.add ((x6_2).toNat * 7)).off + 5, none⟩ = some (.int .i64 ((rd_T46 l0_6 x6_2).f5)) ∧ w'.cell? ⟨(ad228.add ((x6_2).toNat * 7)).block, (ad228.add ((x6_2).toNat * 7)).off + 6, none⟩ = some (.int .i64 ((rd_T46 l0_6 x6_2).f6))) (ds := []) (rl [0,27]) (by kernel_rfl) rfl rfl (cw12 BK219.out ⟨(lb_ HB hw228_0 :), (lb_ HB hw228_1 :), (lb_ HB hw228_2 :), (lb_ HB hw228_3 :), (lb_ HB hw228_4 :), (lb_ HB hw228_5 :), (lb_ HB hw228_6 :)⟩) (fun hHeld => ?_); refine with_tabW spec_l10Lists.tab18 spec_l10Lists.bits18 (fun HT_ HW_ => ?_)
          generalize wr.drew = w65 at BK219 HB hx228_0 hx228_1 hx228_2 hx228_3 hx228_4 hx228_5 hx228_6 hHeld ⊢
          refine pz_ (i := 0) (N := some 84) HT_ (rl [1,26]) rfl rfl ?_
          refine pz_ (i := 2) (N := some 86) HT_ (rl [1,1,1,24]) rfl rfl ?_
          refine take_ (i := 1) (N := some 85) (v := ?_) (a' := ?_) (rl [3,24]) rfl rfl (take_ofW HT_.out HW_.out (by kernel_rfl)) (fun _ _ _ h => h) (Or.inl ⟨by rfl, ?_⟩) hHeld ?_ ?_
          rotate_left
          ·
           rintro w' ⟨s0, s1, s2, s3, s4, s5, s6, s7, s8, s9, s10, s11, s12, s13, s14, s15, s16, s17, s18⟩
           go_simp
           with_reducible rfl
          rotate_left
          ·
           exact ap_
          refine pz_ (i := 3) (N := some 87) HT_ (rl [4,23]) rfl rfl ?_
          refine take_ (i := 4) (N := some 88) (v := ?_) (a' := ?_) (rl [5,22]) rfl rfl (take_ofW HT_.out HW_.out (by kernel_rfl)) (fun _ _ _ h => h) (Or.inl ⟨by rfl, ?_⟩) hHeld ?_ ?_
          rotate_left
          ·
           rintro w' ⟨s0, s1, s2, s3, s4, s5, s6, s7, s8, s9, s10, s11, s12, s13, s14, s15, s16, s17, s18⟩
           go_simp
           with_reducible rfl
          rotate_left
          ·
           exact ap_
          refine one_ (i := 5) (N := some 89) (rl [6,21]) rfl rfl (one_of HT_.out (by kernel_rfl)) (by decide) (fun K hK => ?_)
          refine goes_ Try.func76 (by kernel_rfl) rfl #[.agg #[.int .i64 ((rd_T46 l0_6 x6_2).f0), .string ((rd_T46 l0_6 x6_2).f1), .int .i64 ((rd_T46 l0_6 x6_2).f2), .int .i64 ((rd_T46 l0_6 x6_2).f3), .int .i64 ((rd_T46 l0_6 x6_2).f4), .int .i64 ((rd_T46 l0_6 x6_2).f5), .int .i64 ((rd_T46 l0_6 x6_2).f6)]] (by rfl) rfl rfl la_ ?_
          with_reducible refine (spec_LineOk.calls k2 ((rd_T46 l0_6 x6_2).f0) ((rd_T46 l0_6 x6_2).f1) ((rd_T46 l0_6 x6_2).f2) ((rd_T46 l0_6 x6_2).f3) ((rd_T46 l0_6 x6_2).f4) ((rd_T46 l0_6 x6_2).f5) ((rd_T46 l0_6 x6_2).f6) true _ A53.out).mono ?_
          rintro e w66 ⟨rfl, hb⟩
          refine ⟨_, rfl, ?_⟩
          replace BK219 := am_ (blk_below (qK BK219) hb)
          replace HB := am_ (below_step (qB HB) hb)
          (try clear hb)
          refine hK.out _ _ (cw12 BK219.out ⟨(lb_ HB hw228_0 :), (lb_ HB hw228_1 :), (lb_ HB hw228_2 :), (lb_ HB hw228_3 :), (lb_ HB hw228_4 :), (lb_ HB hw228_5 :), (lb_ HB hw228_6 :)⟩) (fun hHeld => ?_)
          clear hK K
          refine norm_ (a' := ?_) ?_ ?_
          rotate_left
          ·
           show Act.put _ (some 89) _ = _
           exact ap_
          refine pz_ (i := 6) (N := some 90) HT_ (rl [7,20]) rfl rfl ?_
          refine pz_ (i := 7) (N := some 91) HT_ (rl [8,19]) rfl rfl ?_
          refine pz_ (i := 8) (N := some 92) HT_ (rl [9,18]) rfl rfl ?_
          refine pz_ (i := 9) (N := some 93) HT_ (rl [10,17]) rfl rfl ?_
          refine pz_ (i := 10) (N := some 94) HT_ (rl [11,16]) rfl rfl ?_
          refine pu_ (i := 11) (N := some 95) HT_ (rl [12,15]) rfl rfl ?_
          refine pu_ (i := 12) (N := some 96) HT_ (rl [13,14]) rfl rfl ?_
          refine pu_ (i := 13) (N := some 97) HT_ (rl [14,13]) rfl rfl ?_
          refine pu_ (i := 14) (N := some 98) HT_ (rl [15,12]) rfl rfl ?_
          refine pu_ (i := 15) (N := some 99) HT_ (rl [16,11]) rfl rfl ?_
          refine pu_ (i := 16) (N := some 100) HT_ (rl [17,10]) rfl rfl ?_
          refine pu_ (i := 17) (N := some 101) HT_ (rl [18,9]) rfl rfl ?_
          refine pu_ (i := 18) (N := some 102) HT_ (rl [19,8]) rfl rfl ?_
          refine pu_ (i := 19) (N := some 103) HT_ (rl [20,7]) rfl rfl ?_
          refine pu_ (i := 20) (N := some 104) HT_ (rl [21,6]) rfl rfl ?_
          refine pu_ (i := 21) (N := some 105) HT_ (rl [22,5]) rfl rfl ?_
          refine pu_ (i := 22) (N := some 106) HT_ (rl [23,4]) rfl rfl ?_
          refine pu_ (i := 23) (N := some 107) HT_ (rl [24,3]) rfl rfl ?_
          refine pu_ (i := 24) (N := some 108) HT_ (rl [25,2]) rfl rfl ?_
          refine pz_ (i := 25) (N := some 109) HT_ (rl [26,1]) rfl rfl ?_
          refine pz_ (i := 26) (N := some 110) HT_ (rl [27]) rfl rfl ?_
          refine done_ (done_of HT_.out (by kernel_rfl)) ?_
          try go_wp2
          go_roundg k2
          case measure => have := HK1.out; have := HK2.out; omega
          case rel => exact ⟨(wrap64 (x6_2 + 1)), eqq_, H', ⟨by have := HK1.out; have := HK2.out; omega⟩, ⟨qK BK219⟩, ⟨qB HB⟩⟩
        ·
         replace c54 := Bool.eq_false_iff.mpr c54
         subst c54
         rw [if_neg (show ¬ (false = true) by decide)] at H
         obtain rfl := Option.some.inj H
         obtain ⟨z67_0, z67_1, z67_2, z67_3, z67_4, z67_5, z67_6, z67_7, z67_8, z67_9, z67_10, z67_11⟩ := cz12 BK219.out
         obtain ⟨f67_0, f67_1, f67_2, f67_3, f67_4, f67_5, f67_6, f67_7, f67_8, f67_9, f67_10, f67_11⟩ := fz12 BK219.out
         try go_wp2
         replace BK219 := am_ (blk_drew BK219.out)
         replace HB := am_ (below_drew1 HB.out)
         have p228 : 0 ≤ (x6_2 : Int) := od_
         have q228 : x6_2 < (l0_6.length : Int) := od_
         obtain ⟨ad228, e228, hx228_0, hx228_1, hx228_2, hx228_3, hx228_4, hx228_5, hx228_6⟩ := at_T46 HR0_6.out x6_2 p228 q228
         have hw228_6 := hx228_6
         have hw228_5 := hx228_5
         have hw228_4 := hx228_4
         have hw228_3 := hx228_3
         have hw228_2 := hx228_2
         have hw228_1 := hx228_1
         have hw228_0 := hx228_0
         cases e228
         replace hx228_0 := lb_ HB hx228_0
         replace hx228_1 := lb_ HB hx228_1
         replace hx228_2 := lb_ HB hx228_2
         replace hx228_3 := lb_ HB hx228_3
         replace hx228_4 := lb_ HB hx228_4
         replace hx228_5 := lb_ HB hx228_5
         replace hx228_6 := lb_ HB hx228_6
         replace p228 := eq_true p228
         replace q228 := eq_true q228
         refine start_ (n := 27) (S := fun w' => w'.cell? ⟨gb219, 0, none⟩ = some (.int .i64 a0_0) ∧ w'.cell? ⟨gb219, 1, none⟩ = some (.int .i64 a0_1) ∧ w'.cell? ⟨gb219, 2, none⟩ = some (.int .i64 a0_2) ∧ w'.cell? ⟨gb219, 3, none⟩ = some (.slice A0_3 l0_3.length c0_3) ∧ w'.cell? ⟨gb219, 4, none⟩ = some (.bool a0_4) ∧ w'.cell? ⟨gb219, 5, none⟩ = some (.slice A0_5 l0_5.length c0_5) ∧ w'.cell? ⟨gb219, 6, none⟩ = some (.slice (some ad228) l0_6.length c0_6) ∧ w'.cell? ⟨gb219, 7, none⟩ = some (.int .i64 a0_7) ∧ w'.cell? ⟨gb219, 8, none⟩ = some (.int .i64 a0_8) ∧ w'.cell? ⟨gb219, 9, none⟩ = some (.int .i64 a0_9) ∧ w'.cell? ⟨gb219, 10, none⟩ = some (.int .i64 a0_10) ∧ w'.cell? ⟨gb219, 11, none⟩ = some (.int .i64 a0_11) ∧ w'.cell? (ad228.add ((x6_2).toNat * 7)) = some (.int .i64 ((rd_T46 l0_6 x6_2).f0)) ∧ w'.cell? ⟨(ad228.add ((x6_2).toNat * 7)).block, (ad228.add ((x6_2).toNat * 7)).off + 1, none⟩ = some (.string ((rd_T46 l0_6 x6_2).f1)) ∧ w'.cell? ⟨(ad228.add ((x6_2).toNat * 7)).block, (ad228.add ((x6_2).toNat * 7)).off + 2, none⟩ = some (.int .i64 ((rd_T46 l0_6 x6_2).f2)) ∧ w'.cell? ⟨(ad228.add ((x6_2).toNat * 7)).block, (ad228.add ((x6_2).toNat * 7)).off + 3, none⟩ = some (.int .i64 ((rd_T46 l0_6 x6_2).f3)) ∧ w'.cell? ⟨(ad228.add ((x6_2).toNat * 7)).block, (ad228.add ((x6_2).toNat * 7)).off + 4, none⟩ = some (.int .i64 ((rd_T46 l0_6 x6_2).f4)) ∧ w'.cell? ⟨(ad228.add ((x6_2).toNat * 7)).block, (ad228.add ((x6_2).toNat * 7)).off + 5, none⟩ = some (.int .i64 ((rd_T46 l0_6 x6_2).f5)) ∧ w'.cell? ⟨(ad228.add ((x6_2).toNat * 7)).block, (ad228.add ((x6_2).toNat * 7)).off + 6, none⟩ = some (.int .i64 ((rd_T46 l0_6 x6_2).f6))) (ds := []) (rl [0,27]) (by kernel_rfl) rfl rfl (cw12 BK219.out ⟨(lb_ HB hw228_0 :), (lb_ HB hw228_1 :), (lb_ HB hw228_2 :), (lb_ HB hw228_3 :), (lb_ HB hw228_4 :), (lb_ HB hw228_5 :), (lb_ HB hw228_6 :)⟩) (fun hHeld => ?_); refine with_tabW spec_l10Lists.tab18 spec_l10Lists.bits18 (fun HT_ HW_ => ?_)
         generalize wr.drew = w68 at BK219 HB hx228_0 hx228_1 hx228_2 hx228_3 hx228_4 hx228_5 hx228_6 hHeld ⊢
         refine pz_ (i := 0) (N := some 84) HT_ (rl [1,26]) rfl rfl ?_
         refine pz_ (i := 2) (N := some 86) HT_ (rl [1,1,1,24]) rfl rfl ?_
         refine take_ (i := 1) (N := some 85) (v := ?_) (a' := ?_) (rl [3,24]) rfl rfl (take_ofW HT_.out HW_.out (by kernel_rfl)) (fun _ _ _ h => h) (Or.inl ⟨by rfl, ?_⟩) hHeld ?_ ?_
         rotate_left
         ·
          rintro w' ⟨s0, s1, s2, s3, s4, s5, s6, s7, s8, s9, s10, s11, s12, s13, s14, s15, s16, s17, s18⟩
          go_simp
          with_reducible rfl
         rotate_left
         ·
          exact ap_
         refine pz_ (i := 3) (N := some 87) HT_ (rl [4,23]) rfl rfl ?_
         refine take_ (i := 4) (N := some 88) (v := ?_) (a' := ?_) (rl [5,22]) rfl rfl (take_ofW HT_.out HW_.out (by kernel_rfl)) (fun _ _ _ h => h) (Or.inl ⟨by rfl, ?_⟩) hHeld ?_ ?_
         rotate_left
         ·
          rintro w' ⟨s0, s1, s2, s3, s4, s5, s6, s7, s8, s9, s10, s11, s12, s13, s14, s15, s16, s17, s18⟩
          go_simp
          with_reducible rfl
         rotate_left
         ·
          exact ap_
         refine one_ (i := 5) (N := some 89) (rl [6,21]) rfl rfl (one_of HT_.out (by kernel_rfl)) (by decide) (fun K hK => ?_)
         refine goes_ Try.func76 (by kernel_rfl) rfl #[.agg #[.int .i64 ((rd_T46 l0_6 x6_2).f0), .string ((rd_T46 l0_6 x6_2).f1), .int .i64 ((rd_T46 l0_6 x6_2).f2), .int .i64 ((rd_T46 l0_6 x6_2).f3), .int .i64 ((rd_T46 l0_6 x6_2).f4), .int .i64 ((rd_T46 l0_6 x6_2).f5), .int .i64 ((rd_T46 l0_6 x6_2).f6)]] (by rfl) rfl rfl la_ ?_
         with_reducible refine (spec_LineOk.calls k2 ((rd_T46 l0_6 x6_2).f0) ((rd_T46 l0_6 x6_2).f1) ((rd_T46 l0_6 x6_2).f2) ((rd_T46 l0_6 x6_2).f3) ((rd_T46 l0_6 x6_2).f4) ((rd_T46 l0_6 x6_2).f5) ((rd_T46 l0_6 x6_2).f6) false _ A53.out).mono ?_
         rintro e w69 ⟨rfl, hb⟩
         refine ⟨_, rfl, ?_⟩
         replace BK219 := am_ (blk_below (qK BK219) hb)
         replace HB := am_ (below_step (qB HB) hb)
         (try clear hb)
         refine hK.out _ _ (cw12 BK219.out ⟨(lb_ HB hw228_0 :), (lb_ HB hw228_1 :), (lb_ HB hw228_2 :), (lb_ HB hw228_3 :), (lb_ HB hw228_4 :), (lb_ HB hw228_5 :), (lb_ HB hw228_6 :)⟩) (fun hHeld => ?_)
         clear hK K
         refine norm_ (a' := ?_) ?_ ?_
         rotate_left
         ·
          show Act.put _ (some 89) _ = _
          exact ap_
         refine pz_ (i := 6) (N := some 90) HT_ (rl [7,20]) rfl rfl ?_
         refine pz_ (i := 7) (N := some 91) HT_ (rl [8,19]) rfl rfl ?_
         refine pu_ (i := 8) (N := some 92) HT_ (rl [9,18]) rfl rfl ?_
         refine pu_ (i := 9) (N := some 93) HT_ (rl [10,17]) rfl rfl ?_
         refine pu_ (i := 10) (N := some 94) HT_ (rl [11,16]) rfl rfl ?_
         refine pu_ (i := 11) (N := some 95) HT_ (rl [12,15]) rfl rfl ?_
         refine pu_ (i := 12) (N := some 96) HT_ (rl [13,14]) rfl rfl ?_
         refine pu_ (i := 13) (N := some 97) HT_ (rl [14,13]) rfl rfl ?_
         refine pu_ (i := 14) (N := some 98) HT_ (rl [15,12]) rfl rfl ?_
         refine pu_ (i := 15) (N := some 99) HT_ (rl [16,11]) rfl rfl ?_
         refine pu_ (i := 16) (N := some 100) HT_ (rl [17,10]) rfl rfl ?_
         refine pu_ (i := 17) (N := some 101) HT_ (rl [18,9]) rfl rfl ?_
         refine pu_ (i := 18) (N := some 102) HT_ (rl [19,8]) rfl rfl ?_
         refine pu_ (i := 19) (N := some 103) HT_ (rl [20,7]) rfl rfl ?_
         refine pu_ (i := 20) (N := some 104) HT_ (rl [21,6]) rfl rfl ?_
         refine pu_ (i := 21) (N := some 105) HT_ (rl [22,5]) rfl rfl ?_
         refine pu_ (i := 22) (N := some 106) HT_ (rl [23,4]) rfl rfl ?_
         refine pu_ (i := 23) (N := some 107) HT_ (rl [24,3]) rfl rfl ?_
         refine pu_ (i := 24) (N := some 108) HT_ (rl [25,2]) rfl rfl ?_
         refine pu_ (i := 25) (N := some 109) HT_ (rl [26,1]) rfl rfl ?_
         refine pz_ (i := 26) (N := some 110) HT_ (rl [27]) rfl rfl ?_
         refine done_ (done_of HT_.out (by kernel_rfl)) ?_
         try go_wp2
         go_ret
         exact ⟨by first | rfl | (simp [errW_none, errW_some] <;> rfl) | (simp [*, errW_none, errW_some] <;> rfl), qB HB⟩
       ·
        rw [if_neg c52] at H
        exact absurd H (by simp)
      ·
       rw [if_neg c51] at H
       have c51b0 : decide (x6_2 < (l0_6.length : Int)) = false := decide_eq_false c51
       clear c51
       by_cases c70 : (l0_5.length : Int) ≤ 6
       ·
        rw [if_pos c70] at H
        have c70b0 : decide ((l0_5.length : Int) ≤ 6) = true := decide_eq_true c70
        have c70b1 : decide (l0_5.length ≤ 6) = true := decide_eq_true (by omega)
        clear c70
        by_cases c71 : (l0_6.length : Int) ≤ 9
        ·
         rw [if_pos c71] at H
         have c71b0 : decide ((l0_6.length : Int) ≤ 9) = true := decide_eq_true c71
         have c71b1 : decide (l0_6.length ≤ 9) = true := decide_eq_true (by omega)
         clear c71
         obtain ⟨t232, A72, H⟩ := bd_ H
         obtain rfl := Option.some.inj H
         obtain ⟨z73_0, z73_1, z73_2, z73_3, z73_4, z73_5, z73_6, z73_7, z73_8, z73_9, z73_10, z73_11⟩ := cz12 BK219.out
         obtain ⟨f73_0, f73_1, f73_2, f73_3, f73_4, f73_5, f73_6, f73_7, f73_8, f73_9, f73_10, f73_11⟩ := fz12 BK219.out
         go_wp2_with (first | (go_at_call 110; (with_reducible refine (spec_l1In.calls a0_7 0 65535 t232 _ A72.out).mono ?_); rintro e w' ⟨rfl, ⟨nd, rfl⟩⟩))
         go_ret
         exact ⟨by first | rfl | (simp [errW_none, errW_some] <;> rfl) | (simp [*, errW_none, errW_some] <;> rfl), qB HB⟩
        ·
         rw [if_neg c71] at H
         have c71b0 : decide ((l0_6.length : Int) ≤ 9) = false := decide_eq_false c71
         have c71b1 : decide (l0_6.length ≤ 9) = false := decide_eq_false (by omega)
         clear c71
         obtain rfl := Option.some.inj H
         obtain ⟨z74_0, z74_1, z74_2, z74_3, z74_4, z74_5, z74_6, z74_7, z74_8, z74_9, z74_10, z74_11⟩ := cz12 BK219.out
         obtain ⟨f74_0, f74_1, f74_2, f74_3, f74_4, f74_5, f74_6, f74_7, f74_8, f74_9, f74_10, f74_11⟩ := fz12 BK219.out
         go_wp2
         go_ret
         exact ⟨by first | rfl | (simp [errW_none, errW_some] <;> rfl) | (simp [*, errW_none, errW_some] <;> rfl), qB HB⟩
       ·
        rw [if_neg c70] at H
        have c70b0 : decide ((l0_5.length : Int) ≤ 6) = false := decide_eq_false c70
        have c70b1 : decide (l0_5.length ≤ 6) = false := decide_eq_false (by omega)
        clear c70
        obtain rfl := Option.some.inj H
        obtain ⟨z75_0, z75_1, z75_2, z75_3, z75_4, z75_5, z75_6, z75_7, z75_8, z75_9, z75_10, z75_11⟩ := cz12 BK219.out
        obtain ⟨f75_0, f75_1, f75_2, f75_3, f75_4, f75_5, f75_6, f75_7, f75_8, f75_9, f75_10, f75_11⟩ := fz12 BK219.out
        go_wp2
        go_ret
        exact ⟨by first | rfl | (simp [errW_none, errW_some] <;> rfl) | (simp [*, errW_none, errW_some] <;> rfl), qB HB⟩

end Go.Proofs.Ytahfemlfdpbkkaa.PFnExactHouseOk
