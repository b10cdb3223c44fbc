-- Written by a program of this session (myprint.py, over the kit's print): contracts of FnExactHouseOk
import Derived.Test.YtahfemlfdpbkkaaPFnExactHouseOkx0
import Derived.Test.YtahfemlfdpbkkaaPFnExactHouseOkx16
import Derived.Test.YtahfemlfdpbkkaaPFnExactHouseOkx17
import Derived.Test.YtahfemlfdpbkkaaPFnExactHouseOkx18
namespace Go.Proofs.Ytahfemlfdpbkkaa.PFnExactHouseOk
open Go.RowKit Go.Proofs.YtahfemlfdpbkkaaW.PrintWords Go.Proofs.YtahfemlfdpbkkaaW.PrintLast Go.Proofs.YtahfemlfdpbkkaaW.PrintMore Go.Proofs.YtahfemlfdpbkkaaV
attribute [local go_sem] max2_int min2_int max_two min_two max_three min_three max_four min_four   -- for this text's walks alone
set_option linter.unusedVariables false
set_option linter.unusedSimpArgs false

/-! ### impl_listsOk: function 133 -/
mutual
def impl_listsOk.j0 : Nat → Bool → Int → Int → Int → List (S125) → Bool → List (S45) → List (S46) → Int → Int → Int → Int → Int → Option (Bool)
 | 0, _, _, _, _, _, _, _, _, _, _, _, _, _ => none
 | k + 1, x23, x303000, x303001, x303002, x303003, x303004, x303005, x303006, x303007, x303008, x303009, x303010, x303011 => if x23 = true then (some false) else (impl_listsOk.l0 k (([] : List Int)) x303005 (x303005.length : Int) 0 x303000 x303001 x303002 x303003 x303004 x303005 x303006 x303007 x303008 x303009 x303010 x303011)
def impl_listsOk.l0 : Nat → List Int → List (S45) → Int → Int → Int → Int → Int → List (S125) → Bool → List (S45) → List (S46) → Int → Int → Int → Int → Int → Option (Bool)
 | 0, _, _, _, _, _, _, _, _, _, _, _, _, _, _, _, _ => none
 | k + 1, x3, x26, x27, x28, x303000, x303001, x303002, x303003, x303004, x303005, x303006, x303007, x303008, x303009, x303010, x303011 => if x28 < x27 then (if 0 ≤ x28 then (if x28 < (x26.length : Int) then ((impl_AskerOk.f k ((rd_T45 x26 x28).f0) ((rd_T45 x26 x28).f1) ((rd_T45 x26 x28).f2) ((rd_T45 x26 x28).f3) ((rd_T45 x26 x28).f4) ((rd_T45 x26 x28).f5) ((rd_T45 x26 x28).f6) ((rd_T45 x26 x28).f7)).bind fun t309 => (if t309 = true then (if x28 > 0 then (if 0 ≤ (wrap64 (x28 - 1)) then (if (wrap64 (x28 - 1)) < (x303005.length : Int) then (if ((rd_T45 x26 x28).f0) ≤ ((rd_T45 x303005 (wrap64 (x28 - 1))).f0) then (impl_listsOk.j2 k x3 x26 x27 x28 true x303000 x303001 x303002 x303003 x303004 x303005 x303006 x303007 x303008 x303009 x303010 x303011 ((rd_T45 x26 x28).f0) ((rd_T45 x26 x28).f1) ((rd_T45 x26 x28).f2) ((rd_T45 x26 x28).f3) ((rd_T45 x26 x28).f4) ((rd_T45 x26 x28).f5) ((rd_T45 x26 x28).f6) ((rd_T45 x26 x28).f7)) else ((impl_LineAt.f x303006 ((rd_T45 x26 x28).f0)).bind fun t311 => (impl_listsOk.j2 k x3 x26 x27 x28 (decide (t311 ≥ 0)) x303000 x303001 x303002 x303003 x303004 x303005 x303006 x303007 x303008 x303009 x303010 x303011 ((rd_T45 x26 x28).f0) ((rd_T45 x26 x28).f1) ((rd_T45 x26 x28).f2) ((rd_T45 x26 x28).f3) ((rd_T45 x26 x28).f4) ((rd_T45 x26 x28).f5) ((rd_T45 x26 x28).f6) ((rd_T45 x26 x28).f7)))) else (none)) else (none)) else ((impl_LineAt.f x303006 ((rd_T45 x26 x28).f0)).bind fun t312 => (impl_listsOk.j2 k x3 x26 x27 x28 (decide (t312 ≥ 0)) x303000 x303001 x303002 x303003 x303004 x303005 x303006 x303007 x303008 x303009 x303010 x303011 ((rd_T45 x26 x28).f0) ((rd_T45 x26 x28).f1) ((rd_T45 x26 x28).f2) ((rd_T45 x26 x28).f3) ((rd_T45 x26 x28).f4) ((rd_T45 x26 x28).f5) ((rd_T45 x26 x28).f6) ((rd_T45 x26 x28).f7)))) else (impl_listsOk.j2 k x3 x26 x27 x28 true x303000 x303001 x303002 x303003 x303004 x303005 x303006 x303007 x303008 x303009 x303010 x303011 ((rd_T45 x26 x28).f0) ((rd_T45 x26 x28).f1) ((rd_T45 x26 x28).f2) ((rd_T45 x26 x28).f3) ((rd_T45 x26 x28).f4) ((rd_T45 x26 x28).f5) ((rd_T45 x26 x28).f6) ((rd_T45 x26 x28).f7)))) else (none)) else (none)) else (impl_listsOk.l1 k x303006 (x303006.length : Int) 0 x303000 x303001 x303002 x303003 x303004 x303005 x303006 x303007 x303008 x303009 x303010 x303011)
def impl_listsOk.j2 : Nat → List Int → List (S45) → Int → Int → Bool → Int → Int → Int → List (S125) → Bool → List (S45) → List (S46) → Int → Int → Int → Int → Int → Int → ByteArray → Int → Int → Int → ByteArray → Int → Int → Option (Bool)
 | 0, _, _, _, _, _, _, _, _, _, _, _, _, _, _, _, _, _, _, _, _, _, _, _, _, _ => none
 | k + 1, x3, x26, x27, x28, x59, x303000, x303001, x303002, x303003, x303004, x303005, x303006, x303007, x303008, x303009, x303010, x303011, x309000, x309001, x309002, x309003, x309004, x309005, x309006, x309007 => if x59 = true then (some false) else (if x309002 = 2 then (if x309003 ≥ x303007 then (some false) else ((slices_Contains_int.f k x3 x309003).bind fun t313 => (if t313 = true then (some false) else (if x3.length < 17592186044416 then (impl_listsOk.l0 k (x3 ++ [x309003]) x26 x27 (wrap64 (x28 + 1)) x303000 x303001 x303002 x303003 x303004 x303005 x303006 x303007 x303008 x303009 x303010 x303011) else (none))))) else (impl_listsOk.l0 k x3 x26 x27 (wrap64 (x28 + 1)) x303000 x303001 x303002 x303003 x303004 x303005 x303006 x303007 x303008 x303009 x303010 x303011))
def impl_listsOk.l1 : Nat → List (S46) → Int → Int → Int → Int → Int → List (S125) → Bool → List (S45) → List (S46) → Int → Int → Int → Int → Int → Option (Bool)
 | 0, _, _, _, _, _, _, _, _, _, _, _, _, _, _, _ => none
 | k + 1, x81, x82, x83, x303000, x303001, x303002, x303003, x303004, x303005, x303006, x303007, x303008, x303009, x303010, x303011 => if x83 < x82 then (if 0 ≤ x83 then (if x83 < (x81.length : Int) then ((impl_LineOk.f k ((rd_T46 x81 x83).f0) ((rd_T46 x81 x83).f1) ((rd_T46 x81 x83).f2) ((rd_T46 x81 x83).f3) ((rd_T46 x81 x83).f4) ((rd_T46 x81 x83).f5) ((rd_T46 x81 x83).f6)).bind fun t319 => (if t319 = true then (if x83 > 0 then (if 0 ≤ (wrap64 (x83 - 1)) then (if (wrap64 (x83 - 1)) < (x303006.length : Int) then (if ((rd_T46 x81 x83).f0) ≤ ((rd_T46 x303006 (wrap64 (x83 - 1))).f0) then (some false) else (impl_listsOk.l1 k x81 x82 (wrap64 (x83 + 1)) x303000 x303001 x303002 x303003 x303004 x303005 x303006 x303007 x303008 x303009 x303010 x303011)) else (none)) else (none)) else (impl_listsOk.l1 k x81 x82 (wrap64 (x83 + 1)) x303000 x303001 x303002 x303003 x303004 x303005 x303006 x303007 x303008 x303009 x303010 x303011)) else (some false))) else (none)) else (none)) else (some true)
end
def impl_listsOk.f (k : Nat) (a0_0 : Int) (a0_1 : Int) (a0_2 : Int) (l0_3 : List (S125)) (a0_4 : Bool) (l0_5 : List (S45)) (l0_6 : List (S46)) (a0_7 : Int) (a0_8 : Int) (a0_9 : Int) (a0_10 : Int) (a0_11 : Int) : Option (Bool) := if (l0_5.length : Int) > 6 then (impl_listsOk.j0 k true a0_0 a0_1 a0_2 l0_3 a0_4 l0_5 l0_6 a0_7 a0_8 a0_9 a0_10 a0_11) else (if (l0_6.length : Int) > 9 then (impl_listsOk.j0 k true a0_0 a0_1 a0_2 l0_3 a0_4 l0_5 l0_6 a0_7 a0_8 a0_9 a0_10 a0_11) else ((impl_wordOk.f a0_7).bind fun t303 => (impl_listsOk.j0 k (!t303) a0_0 a0_1 a0_2 l0_3 a0_4 l0_5 l0_6 a0_7 a0_8 a0_9 a0_10 a0_11)))
theorem impl_listsOk.mono_l : ∀ k, (∀ y0 y1 y2 y3 y4 y5 y6 y7 y8 y9 y10 y11 y12, LeO (impl_listsOk.j0 k y0 y1 y2 y3 y4 y5 y6 y7 y8 y9 y10 y11 y12) (impl_listsOk.j0 (k + 1) y0 y1 y2 y3 y4 y5 y6 y7 y8 y9 y10 y11 y12)) ∧ (∀ y0 y1 y2 y3 y4 y5 y6 y7 y8 y9 y10 y11 y12 y13 y14 y15, LeO (impl_listsOk.l0 k y0 y1 y2 y3 y4 y5 y6 y7 y8 y9 y10 y11 y12 y13 y14 y15) (impl_listsOk.l0 (k + 1) y0 y1 y2 y3 y4 y5 y6 y7 y8 y9 y10 y11 y12 y13 y14 y15)) ∧ (∀ y0 y1 y2 y3 y4 y5 y6 y7 y8 y9 y10 y11 y12 y13 y14 y15 y16 y17 y18 y19 y20 y21 y22 y23 y24, LeO (impl_listsOk.j2 k y0 y1 y2 y3 y4 y5 y6 y7 y8 y9 y10 y11 y12 y13 y14 y15 y16 y17 y18 y19 y20 y21 y22 y23 y24) (impl_listsOk.j2 (k + 1) y0 y1 y2 y3 y4 y5 y6 y7 y8 y9 y10 y11 y12 y13 y14 y15 y16 y17 y18 y19 y20 y21 y22 y23 y24)) ∧ (∀ y0 y1 y2 y3 y4 y5 y6 y7 y8 y9 y10 y11 y12 y13 y14, LeO (impl_listsOk.l1 k y0 y1 y2 y3 y4 y5 y6 y7 y8 y9 y10 y11 y12 y13 y14) (impl_listsOk.l1 (k + 1) y0 y1 y2 y3 y4 y5 y6 y7 y8 y9 y10 y11 y12 y13 y14))
 | 0 => ⟨fun _ _ _ _ _ _ _ _ _ _ _ _ _ r h => by simp [impl_listsOk.j0] at h, fun _ _ _ _ _ _ _ _ _ _ _ _ _ _ _ _ r h => by simp [impl_listsOk.l0] at h, fun _ _ _ _ _ _ _ _ _ _ _ _ _ _ _ _ _ _ _ _ _ _ _ _ _ r h => by simp [impl_listsOk.j2] at h, fun _ _ _ _ _ _ _ _ _ _ _ _ _ _ _ r h => by simp [impl_listsOk.l1] at h⟩
 | k + 1 => by
  obtain ⟨ih0, ih1, ih2, ih3⟩ := impl_listsOk.mono_l k
  refine ⟨?_, ?_, ?_, ?_⟩
  ·
   intro y0 y1 y2 y3 y4 y5 y6 y7 y8 y9 y10 y11 y12
   unfold impl_listsOk.j0
   repeat' first
   | (with_reducible exact ih0 _ _ _ _ _ _ _ _ _ _ _ _ _)
   | (with_reducible exact ih1 _ _ _ _ _ _ _ _ _ _ _ _ _ _ _ _)
   | (with_reducible exact ih2 _ _ _ _ _ _ _ _ _ _ _ _ _ _ _ _ _ _ _ _ _ _ _ _ _)
   | (with_reducible exact ih3 _ _ _ _ _ _ _ _ _ _ _ _ _ _ _)
   | (with_reducible exact impl_AskerOk.mono _ _ _ _ _ _ _ _ _)
   | (with_reducible exact impl_LineOk.mono _ _ _ _ _ _ _ _)
   | (with_reducible exact slices_Contains_int.mono _ _ _)
   | (with_reducible exact LeO.refl _)
   | (with_reducible exact LeO.none _)
   | (with_reducible refine LeO.ite ?_ ?_)
   | (with_reducible refine LeO.bind ?_ (fun _ => ?_))
   | exact ih0 _ _ _ _ _ _ _ _ _ _ _ _ _
   | exact ih1 _ _ _ _ _ _ _ _ _ _ _ _ _ _ _ _
   | exact ih2 _ _ _ _ _ _ _ _ _ _ _ _ _ _ _ _ _ _ _ _ _ _ _ _ _
   | exact ih3 _ _ _ _ _ _ _ _ _ _ _ _ _ _ _
   | exact impl_AskerOk.mono _ _ _ _ _ _ _ _ _
   | exact impl_LineOk.mono _ _ _ _ _ _ _ _
   | exact slices_Contains_int.mono _ _ _
   | exact LeO.none _
   | refine LeO.ite ?_ ?_
   | refine LeO.bind ?_ (fun _ => ?_)
  ·
   intro y0 y1 y2 y3 y4 y5 y6 y7 y8 y9 y10 y11 y12 y13 y14 y15
   unfold impl_listsOk.l0
   repeat' first
   | (with_reducible exact ih0 _ _ _ _ _ _ _ _ _ _ _ _ _)
   | (with_reducible exact ih1 _ _ _ _ _ _ _ _ _ _ _ _ _ _ _ _)
   | (with_reducible exact ih2 _ _ _ _ _ _ _ _ _ _ _ _ _ _ _ _ _ _ _ _ _ _ _ _ _)
   | (with_reducible exact ih3 _ _ _ _ _ _ _ _ _ _ _ _ _ _ _)
   | (with_reducible exact impl_AskerOk.mono _ _ _ _ _ _ _ _ _)
   | (with_reducible exact impl_LineOk.mono _ _ _ _ _ _ _ _)
   | (with_reducible exact slices_Contains_int.mono _ _ _)
   | (with_reducible exact LeO.refl _)
   | (with_reducible exact LeO.none _)
   | (with_reducible refine LeO.ite ?_ ?_)
   | (with_reducible refine LeO.bind ?_ (fun _ => ?_))
   | exact ih0 _ _ _ _ _ _ _ _ _ _ _ _ _
   | exact ih1 _ _ _ _ _ _ _ _ _ _ _ _ _ _ _ _
   | exact ih2 _ _ _ _ _ _ _ _ _ _ _ _ _ _ _ _ _ _ _ _ _ _ _ _ _
   | exact ih3 _ _ _ _ _ _ _ _ _ _ _ _ _ _ _
   | exact impl_AskerOk.mono _ _ _ _ _ _ _ _ _
   | exact impl_LineOk.mono _ _ _ _ _ _ _ _
   | exact slices_Contains_int.mono _ _ _
   | exact LeO.none _
   | refine LeO.ite ?_ ?_
   | refine LeO.bind ?_ (fun _ => ?_)
  ·
   intro y0 y1 y2 y3 y4 y5 y6 y7 y8 y9 y10 y11 y12 y13 y14 y15 y16 y17 y18 y19 y20 y21 y22 y23 y24
   unfold impl_listsOk.j2
   repeat' first
   | (with_reducible exact ih0 _ _ _ _ _ _ _ _ _ _ _ _ _)
   | (with_reducible exact ih1 _ _ _ _ _ _ _ _ _ _ _ _ _ _ _ _)
   | (with_reducible exact ih2 _ _ _ _ _ _ _ _ _ _ _ _ _ _ _ _ _ _ _ _ _ _ _ _ _)
   | (with_reducible exact ih3 _ _ _ _ _ _ _ _ _ _ _ _ _ _ _)
   | (with_reducible exact impl_AskerOk.mono _ _ _ _ _ _ _ _ _)
   | (with_reducible exact impl_LineOk.mono _ _ _ _ _ _ _ _)
   | (with_reducible exact slices_Contains_int.mono _ _ _)
   | (with_reducible exact LeO.refl _)
   | (with_reducible exact LeO.none _)
   | (with_reducible refine LeO.ite ?_ ?_)
   | (with_reducible refine LeO.bind ?_ (fun _ => ?_))
   | exact ih0 _ _ _ _ _ _ _ _ _ _ _ _ _
   | exact ih1 _ _ _ _ _ _ _ _ _ _ _ _ _ _ _ _
   | exact ih2 _ _ _ _ _ _ _ _ _ _ _ _ _ _ _ _ _ _ _ _ _ _ _ _ _
   | exact ih3 _ _ _ _ _ _ _ _ _ _ _ _ _ _ _
   | exact impl_AskerOk.mono _ _ _ _ _ _ _ _ _
   | exact impl_LineOk.mono _ _ _ _ _ _ _ _
   | exact slices_Contains_int.mono _ _ _
   | exact LeO.none _
   | refine LeO.ite ?_ ?_
   | refine LeO.bind ?_ (fun _ => ?_)
  ·
   intro y0 y1 y2 y3 y4 y5 y6 y7 y8 y9 y10 y11 y12 y13 y14
   unfold impl_listsOk.l1
   repeat' first
   | (with_reducible exact ih0 _ _ _ _ _ _ _ _ _ _ _ _ _)
   | (with_reducible exact ih1 _ _ _ _ _ _ _ _ _ _ _ _ _ _ _ _)
   | (with_reducible exact ih2 _ _ _ _ _ _ _ _ _ _ _ _ _ _ _ _ _ _ _ _ _ _ _ _ _)
   | (with_reducible exact ih3 _ _ _ _ _ _ _ _ _ _ _ _ _ _ _)
   | (with_reducible exact impl_AskerOk.mono _ _ _ _ _ _ _ _ _)
   | (with_reducible exact impl_LineOk.mono _ _ _ _ _ _ _ _)
   | (with_reducible exact slices_Contains_int.mono _ _ _)
   | (with_reducible exact LeO.refl _)
   | (with_reducible exact LeO.none _)
   | (with_reducible refine LeO.ite ?_ ?_)
   | (with_reducible refine LeO.bind ?_ (fun _ => ?_))
   | exact ih0 _ _ _ _ _ _ _ _ _ _ _ _ _
   | exact ih1 _ _ _ _ _ _ _ _ _ _ _ _ _ _ _ _
   | exact ih2 _ _ _ _ _ _ _ _ _ _ _ _ _ _ _ _ _ _ _ _ _ _ _ _ _
   | exact ih3 _ _ _ _ _ _ _ _ _ _ _ _ _ _ _
   | exact impl_AskerOk.mono _ _ _ _ _ _ _ _ _
   | exact impl_LineOk.mono _ _ _ _ _ _ _ _
   | exact slices_Contains_int.mono _ _ _
   | exact LeO.none _
   | refine LeO.ite ?_ ?_
   | refine LeO.bind ?_ (fun _ => ?_)
theorem impl_listsOk.mono : ∀ a0 a1 a2 a3 a4 a5 a6 a7 a8 a9 a10 a11 k, LeO (impl_listsOk.f k a0 a1 a2 a3 a4 a5 a6 a7 a8 a9 a10 a11) (impl_listsOk.f (k + 1) a0 a1 a2 a3 a4 a5 a6 a7 a8 a9 a10 a11) := by
 intro a0 a1 a2 a3 a4 a5 a6 a7 a8 a9 a10 a11 k
 obtain ⟨ih0, ih1, ih2, ih3⟩ := impl_listsOk.mono_l k
 unfold impl_listsOk.f
 repeat' first
   | (with_reducible exact ih0 _ _ _ _ _ _ _ _ _ _ _ _ _)
   | (with_reducible exact ih1 _ _ _ _ _ _ _ _ _ _ _ _ _ _ _ _)
   | (with_reducible exact ih2 _ _ _ _ _ _ _ _ _ _ _ _ _ _ _ _ _ _ _ _ _ _ _ _ _)
   | (with_reducible exact ih3 _ _ _ _ _ _ _ _ _ _ _ _ _ _ _)
   | (with_reducible exact impl_AskerOk.mono _ _ _ _ _ _ _ _ _)
   | (with_reducible exact impl_LineOk.mono _ _ _ _ _ _ _ _)
   | (with_reducible exact slices_Contains_int.mono _ _ _)
   | (with_reducible exact LeO.refl _)
   | (with_reducible exact LeO.none _)
   | (with_reducible refine LeO.ite ?_ ?_)
   | (with_reducible refine LeO.bind ?_ (fun _ => ?_))
   | exact ih0 _ _ _ _ _ _ _ _ _ _ _ _ _
   | exact ih1 _ _ _ _ _ _ _ _ _ _ _ _ _ _ _ _
   | exact ih2 _ _ _ _ _ _ _ _ _ _ _ _ _ _ _ _ _ _ _ _ _ _ _ _ _
   | exact ih3 _ _ _ _ _ _ _ _ _ _ _ _ _ _ _
   | exact impl_AskerOk.mono _ _ _ _ _ _ _ _ _
   | exact impl_LineOk.mono _ _ _ _ _ _ _ _
   | exact slices_Contains_int.mono _ _ _
   | exact LeO.none _
   | refine LeO.ite ?_ ?_
   | refine LeO.bind ?_ (fun _ => ?_)
def impl_listsOk.T7 : Bool × List (List Nat × List Nat) := (true, [([], []), ([0], [0]), ([1], [1]), ([2, 1], [2]), ([3], [3]), ([4, 3], [3, 4]), ([5, 3, 3], [3, 5]), ([6], [6]), ([7, 6], [6, 7]), ([6], [6]), ([9, 6], [6, 9]), ([6], [6]), ([11, 6], [6, 11]), ([10, 12, 6], [6, 10, 12]), ([13, 6], [6, 13]), ([14, 6], [6, 14]), ([8, 15, 6], [6, 8, 15]), ([6, 16, 3], [3, 6, 16]), ([3, 17], [3, 17]), ([18, 6], [18]), ([19], [19]), ([20, 19], [19, 20]), ([19], [19]), ([22, 19], [19, 22]), ([21, 23, 19, 19], [19, 21, 23]), ([24, 19], [19, 24]), ([19, 25], [19, 25])])
def impl_listsOk.B7 : List Nat := [0, 1, 3, 7, 15, 31, 63, 127, 255, 127, 639, 127, 2175, 7807, 15999, 32383, 65535, 131071, 262143, 524287, 1048575, 2097151, 1048575, 5242879, 16777215, 33554431, 67108863]
theorem impl_listsOk.tab7 : rtab .any (opsOf Try.f133 7) = impl_listsOk.T7 := by kernel_rfl
theorem impl_listsOk.bits7 : waitsOk impl_listsOk.T7.2 impl_listsOk.B7 = true := by kernel_rfl
def impl_listsOk.T17 : Bool × List (List Nat × List Nat) := (true, [([], []), ([0], [0]), ([1], [1]), ([2, 1], [2]), ([3], [3]), ([4, 3], [3, 4]), ([5, 3, 3], [3, 5]), ([6], [6]), ([7, 6], [6, 7]), ([6], [6]), ([9, 6], [6, 9]), ([6], [6]), ([11, 6], [6, 11]), ([10, 12, 6], [6, 10, 12]), ([13, 6], [6, 13]), ([14, 6], [6, 14]), ([8, 15, 6], [6, 8, 15]), ([6, 16, 3], [3, 6, 16]), ([3, 17], [3, 17])])
def impl_listsOk.B17 : List Nat := [0, 1, 3, 7, 15, 31, 63, 127, 255, 127, 639, 127, 2175, 7807, 15999, 32383, 65535, 131071, 262143]
theorem impl_listsOk.tab17 : rtab .any (opsOf Try.f133 17) = impl_listsOk.T17 := by kernel_rfl
theorem impl_listsOk.bits17 : waitsOk impl_listsOk.T17.2 impl_listsOk.B17 = true := by kernel_rfl
set_option maxHeartbeats 8000000 in
set_option maxRecDepth 100000 in
theorem impl_listsOk.calls (k : Nat) (a0_0 : Int) (a0_1 : Int) (a0_2 : Int) (A0_3 : Option Addr) (c0_3 : Nat) (l0_3 : List (S125)) (a0_4 : Bool) (A0_5 : Option Addr) (c0_5 : Nat) (l0_5 : List (S45)) (A0_6 : Option Addr) (c0_6 : Nat) (l0_6 : List (S46)) (a0_7 : Int) (a0_8 : Int) (a0_9 : Int) (a0_10 : Int) (a0_11 : Int) (r : Bool) (w : World) (hr0_3 : Kd.C k125 w A0_3 l0_3.length l0_3) (hc0_3 : l0_3.length ≤ c0_3) (hr0_5 : Kd.C k45 w A0_5 l0_5.length l0_5) (hc0_5 : l0_5.length ≤ c0_5) (hr0_6 : Kd.C k46 w A0_6 l0_6.length l0_6) (hc0_6 : l0_6.length ≤ c0_6) (h : impl_listsOk.f k a0_0 a0_1 a0_2 l0_3 a0_4 l0_5 l0_6 a0_7 a0_8 a0_9 a0_10 a0_11 = some r) :
  Calls Try.prog 133 #[.agg #[.int .i64 a0_0, .int .i64 a0_1, .int .i64 a0_2, .slice A0_3 l0_3.length c0_3, .bool a0_4, .slice A0_5 l0_5.length c0_5, .slice A0_6 l0_6.length c0_6, .int .i64 a0_7, .int .i64 a0_8, .int .i64 a0_9, .int .i64 a0_10, .int .i64 a0_11]] w fun e w' => e = .returned (.bool r) ∧ Below w.heap.size w w' := by
 have hu67 := Try.underlying67
 have hu45 := Try.underlying45
 have hu46 := Try.underlying46
 have HR0_3 := Aside0.mk hr0_3
 have HC0_3 := Aside0.mk hc0_3
 clear hr0_3 hc0_3
 have HR0_5 := Aside0.mk hr0_5
 have HC0_5 := Aside0.mk hc0_5
 clear hr0_5 hc0_5
 have HR0_6 := Aside0.mk hr0_6
 have HC0_6 := Aside0.mk hc0_6
 clear hr0_6 hc0_6
 have HB := Aside0.mk (Below.refl w.heap.size w)
 have H : (if (l0_5.length : Int) > 6 then (impl_listsOk.j0 k true a0_0 a0_1 a0_2 l0_3 a0_4 l0_5 l0_6 a0_7 a0_8 a0_9 a0_10 a0_11) else (if (l0_6.length : Int) > 9 then (impl_listsOk.j0 k true a0_0 a0_1 a0_2 l0_3 a0_4 l0_5 l0_6 a0_7 a0_8 a0_9 a0_10 a0_11) else ((impl_wordOk.f a0_7).bind fun t303 => (impl_listsOk.j0 k (!t303) a0_0 a0_1 a0_2 l0_3 a0_4 l0_5 l0_6 a0_7 a0_8 a0_9 a0_10 a0_11)))) = some r := h
 clear h
 have HC2 := Aside0.mk H
 clear H
 go_enter Try.func133, Try.ntmps133
 go_upto_region 1 with (first | ((with_reducible refine gate_dst (N := 1) rfl ?_); (try (refine gate_guard (by rfl) ?_; dsimp only)); refine box_event ?hg (N := 1) ?hd (cs := #[.int .i64 a0_0, .int .i64 a0_1, .int .i64 a0_2, .slice A0_3 l0_3.length c0_3, .bool a0_4, .slice A0_5 l0_5.length c0_5, .slice A0_6 l0_6.length c0_6, .int .i64 a0_7, .int .i64 a0_8, .int .i64 a0_9, .int .i64 a0_10, .int .i64 a0_11]) (t := 67) ?hr ?_; (case hd => rfl); (case hg => rfl); (case hr => first | (go_simp; done) | (go_simp; rfl)); intro gb302 hg w3 hbox hb; have BK302 := am_ (hbox); have GW302 := am_ ((gG_ hg (qB HB))); have IGW302 := gI_ GW302; have GE302 := am_ ((gG_ hg (qB HB))); have IGE302 := gI_ GE302; replace HB := am_ (below_step (qB HB) hb); clear hb hbox hg))
 (try simp only [Act.put, List.setIfInBounds_toArray, List.set_cons_zero, List.set_cons_succ])
 go_cut [23] (fun v23 wc => ∃ (kq : Nat) (x23_1 : Bool), v23 = .bool x23_1 ∧ Aside0 (impl_listsOk.j0 kq x23_1 a0_0 a0_1 a0_2 l0_3 a0_4 l0_5 l0_6 a0_7 a0_8 a0_9 a0_10 a0_11 = some r) ∧ Aside0 (kq ≤ k) ∧ Aside0 (wc.heap[gb302]? = some (.cells #[.int .i64 a0_0, .int .i64 a0_1, .int .i64 a0_2, (.slice A0_3 l0_3.length c0_3), .bool a0_4, (.slice A0_5 l0_5.length c0_5), (.slice A0_6 l0_6.length c0_6), .int .i64 a0_7, .int .i64 a0_8, .int .i64 a0_9, .int .i64 a0_10, .int .i64 a0_11] 67 (0, 0))) ∧ Aside0 (Below w.heap.size w wc))
 case first =>
  have H := HC2.out
  clear HC2
  by_cases c4 : (l0_5.length : Int) > 6
  ·
   rw [if_pos c4] at H
   have c4b0 : decide (6 < (l0_5.length : Int)) = true := decide_eq_true c4
   have c4b1 : decide (6 < l0_5.length) = true := decide_eq_true (by omega)
   clear c4
   (first | rw [c4b0] | rw [c4b1] | (simp only [i64_w, i32_w]; rw [c4b0]) | skip)
   have H' := Aside0.mk H
   clear H
   obtain ⟨z5_0, z5_1, z5_2, z5_3, z5_4, z5_5, z5_6, z5_7, z5_8, z5_9, z5_10, z5_11⟩ := cz12 BK302.out
   obtain ⟨f5_0, f5_1, f5_2, f5_3, f5_4, f5_5, f5_6, f5_7, f5_8, f5_9, f5_10, f5_11⟩ := fz12 BK302.out
   go_wp2
   go_meet
   case rel => exact ⟨_, (true), eqq_, H', ⟨by first | omega | exact Nat.le_refl _⟩, ⟨qK BK302⟩, ⟨qB HB⟩⟩
  ·
   rw [if_neg c4] at H
   have c4b0 : decide (6 < (l0_5.length : Int)) = false := decide_eq_false c4
   have c4b1 : decide (6 < l0_5.length) = false := decide_eq_false (by omega)
   clear c4
   (first | rw [c4b0] | rw [c4b1] | (simp only [i64_w, i32_w]; rw [c4b0]) | skip)
   by_cases c6 : (l0_6.length : Int) > 9
   ·
    rw [if_pos c6] at H
    have c6b0 : decide (9 < (l0_6.length : Int)) = true := decide_eq_true c6
    have c6b1 : decide (9 < l0_6.length) = true := decide_eq_true (by omega)
    clear c6
    have H' := Aside0.mk H
    clear H
    obtain ⟨z7_0, z7_1, z7_2, z7_3, z7_4, z7_5, z7_6, z7_7, z7_8, z7_9, z7_10, z7_11⟩ := cz12 BK302.out
    obtain ⟨f7_0, f7_1, f7_2, f7_3, f7_4, f7_5, f7_6, f7_7, f7_8, f7_9, f7_10, f7_11⟩ := fz12 BK302.out
    go_wp2
    go_meet
    case rel => exact ⟨_, (true), eqq_, H', ⟨by first | omega | exact Nat.le_refl _⟩, ⟨qK BK302⟩, ⟨qB HB⟩⟩
   ·
    rw [if_neg c6] at H
    have c6b0 : decide (9 < (l0_6.length : Int)) = false := decide_eq_false c6
    have c6b1 : decide (9 < l0_6.length) = false := decide_eq_false (by omega)
    clear c6
    obtain ⟨t303, A8, H⟩ := bd_ H
    have H' := Aside0.mk H
    clear H
    obtain ⟨z9_0, z9_1, z9_2, z9_3, z9_4, z9_5, z9_6, z9_7, z9_8, z9_9, z9_10, z9_11⟩ := cz12 BK302.out
    obtain ⟨f9_0, f9_1, f9_2, f9_3, f9_4, f9_5, f9_6, f9_7, f9_8, f9_9, f9_10, f9_11⟩ := fz12 BK302.out
    go_wp2_with (first | (go_at_call 80; (with_reducible refine (impl_wordOk.calls a0_7 t303 _ A8.out).mono ?_); rintro e w' ⟨rfl, ⟨nd, rfl⟩⟩))
    go_meet
    case rel => exact ⟨_, (!t303), eqq_, H', ⟨by first | omega | exact Nat.le_refl _⟩, ⟨qK BK302⟩, ⟨qB HB⟩⟩
 case rest =>
  clear HC2
  try clear c1
  try clear p2
  try clear c4
  try clear c4b0
  try clear c4b1
  try clear c6
  try clear c6b0
  try clear c6b1
  (try clear z5_0 z5_1 z5_10 z5_11 z5_2 z5_3 z5_4 z5_5 z5_6 z5_7 z5_8 z5_9)
  (try clear z7_0 z7_1 z7_10 z7_11 z7_2 z7_3 z7_4 z7_5 z7_6 z7_7 z7_8 z7_9)
  (try clear z9_0 z9_1 z9_10 z9_11 z9_2 z9_3 z9_4 z9_5 z9_6 z9_7 z9_8 z9_9)
  (try clear f5_0 f5_1 f5_10 f5_11 f5_2 f5_3 f5_4 f5_5 f5_6 f5_7 f5_8 f5_9)
  (try clear f7_0 f7_1 f7_10 f7_11 f7_2 f7_3 f7_4 f7_5 f7_6 f7_7 f7_8 f7_9)
  (try clear f9_0 f9_1 f9_10 f9_11 f9_2 f9_3 f9_4 f9_5 f9_6 f9_7 f9_8 f9_9)
  obtain ⟨kq, x23_1, rfl, HA, HJ1, BK302, HB⟩ := hcut
  cases kq with
  | zero => exact absurd HA.out (by simp [impl_listsOk.j0])
  | succ kj1 =>
   have H := HA.out
   clear HA
   simp only [impl_listsOk.j0] at H
   by_cases c10 : x23_1 = true
   ·
    subst c10
    rw [if_pos rfl] at H
    obtain rfl := Option.some.inj H
    go_wp2
    go_ret
    exact ⟨by first | rfl | (simp [errW_none, errW_some] <;> rfl) | (simp [*, errW_none, errW_some] <;> rfl), qB HB⟩
   ·
    replace c10 := Bool.eq_false_iff.mpr c10
    subst c10
    rw [if_neg (show ¬ (false = true) by decide)] at H
    obtain ⟨y304, hy304⟩ : ∃ y_ : List Int, y_ = (([] : List Int)) := ⟨_, rfl⟩
    rw [← hy304] at H
    have Ny304 := Aside0.mk hy304
    clear hy304
    have H' := Aside0.mk H
    clear H
    go_wp2_with (first | ((with_reducible refine gate_dst (N := 24) rfl ?_); (try (refine gate_guard (by rfl) ?_; dsimp only)); refine Kd.R_lit (Kd.int .i64) _ 3 ?hg (N := 24) ?hd (xs := ([] : List Int)) (inner := []) (ok := fun _ => True) (okp := fun _ => True) ?hr ?hp (fun _ hk => hk) trivial (Below.refl _ _) (Nat.le_refl _) (by simp) ?_; (case hd => rfl); (case hg => rfl); (case hr => first | (go_simp; done) | (go_simp; rfl)); (case hp => exact (Reps.none _ _)); intro v305 w11 ho12 hb hg_ hnew_; clear hg_ hnew_; (first | rw [← Ny304.out] at ho12 | (simp only [Int.reduceToNat] at ho12; rw [← Ny304.out] at ho12)); have HO306 := am_ (Kd.R_lower ho12 (below_size (qB HB))); replace BK302 := am_ (blk_below (qK BK302) hb); replace HB := am_ (below_step (qB HB) hb); clear hb ho12; obtain ⟨z13_0, z13_1, z13_2, z13_3, z13_4, z13_5, z13_6, z13_7, z13_8, z13_9, z13_10, z13_11⟩ := cz12 BK302.out; obtain ⟨f13_0, f13_1, f13_2, f13_3, f13_4, f13_5, f13_6, f13_7, f13_8, f13_9, f13_10, f13_11⟩ := fz12 BK302.out))
    go_loopg [3, 28] kj1 (fun kq v3 v28 w' => ∃ (x3_2 : List Int) (x28_2 : Int), v28 = .int .i64 x28_2 ∧ Aside0 (impl_listsOk.l0 kq x3_2 l0_5 (l0_5.length : Int) x28_2 a0_0 a0_1 a0_2 l0_3 a0_4 l0_5 l0_6 a0_7 a0_8 a0_9 a0_10 a0_11 = some r) ∧ Aside0 (kq ≤ kj1) ∧ Aside0 (Kd.R (Kd.int .i64) 3 w' w.heap.size (fun _ => True) v3 x3_2) ∧ Aside0 (w'.heap[gb302]? = some (.cells #[.int .i64 a0_0, .int .i64 a0_1, .int .i64 a0_2, (.slice A0_3 l0_3.length c0_3), .bool a0_4, (.slice A0_5 l0_5.length c0_5), (.slice A0_6 l0_6.length c0_6), .int .i64 a0_7, .int .i64 a0_8, .int .i64 a0_9, .int .i64 a0_10, .int .i64 a0_11] 67 (0, 0))) ∧ Aside0 (Below w.heap.size w w'))
    case atStart => exact ⟨(y304), (0), eqq_, H', ⟨Nat.le_refl _⟩, ⟨qR HO306⟩, ⟨qK BK302⟩, ⟨qB HB⟩⟩
    case round =>
     clear H'
     try clear c1
     try clear p2
     try clear c4
     try clear c4b0
     try clear c4b1
     try clear c6
     try clear c6b0
     try clear c6b1
     try clear c10
     try clear c13
     (try clear z13_0 z13_1 z13_10 z13_11 z13_2 z13_3 z13_4 z13_5 z13_6 z13_7 z13_8 z13_9)
     (try clear z5_0 z5_1 z5_10 z5_11 z5_2 z5_3 z5_4 z5_5 z5_6 z5_7 z5_8 z5_9)
     (try clear z7_0 z7_1 z7_10 z7_11 z7_2 z7_3 z7_4 z7_5 z7_6 z7_7 z7_8 z7_9)
     (try clear z9_0 z9_1 z9_10 z9_11 z9_2 z9_3 z9_4 z9_5 z9_6 z9_7 z9_8 z9_9)
     (try clear f13_0 f13_1 f13_10 f13_11 f13_2 f13_3 f13_4 f13_5 f13_6 f13_7 f13_8 f13_9)
     (try clear f5_0 f5_1 f5_10 f5_11 f5_2 f5_3 f5_4 f5_5 f5_6 f5_7 f5_8 f5_9)
     (try clear f7_0 f7_1 f7_10 f7_11 f7_2 f7_3 f7_4 f7_5 f7_6 f7_7 f7_8 f7_9)
     (try clear f9_0 f9_1 f9_10 f9_11 f9_2 f9_3 f9_4 f9_5 f9_6 f9_7 f9_8 f9_9)
     try clear p2
     obtain ⟨x3_2, x28_2, rfl, HA, HK2, HO_3, BK302, HB⟩ := hrel
     cases gk with
     | zero => exact absurd HA.out (by simp [impl_listsOk.l0])
     | succ k2 =>
      have H := HA.out
      clear HA
      simp only [impl_listsOk.l0] at H
      by_cases c14 : x28_2 < (l0_5.length : Int)
      ·
       rw [if_pos c14] at H
       have c14b0 : decide (x28_2 < (l0_5.length : Int)) = true := decide_eq_true c14
       clear c14
       by_cases c15 : 0 ≤ x28_2
       ·
        rw [if_pos c15] at H
        have c15b0 : decide (0 ≤ x28_2) = true := decide_eq_true c15
        clear c15
        by_cases c16 : x28_2 < (l0_5.length : Int)
        ·
         rw [if_pos c16] at H
         have c16b0 : decide (x28_2 < (l0_5.length : Int)) = true := decide_eq_true c16
         clear c16
         have HC17 := Aside0.mk H
         clear H
         have p307 : 0 ≤ (x28_2 : Int) := od_
         have q307 : x28_2 < (l0_5.length : Int) := od_
         obtain ⟨ad307, e307, hx307_0, hx307_1, hx307_2, hx307_3, hx307_4, hx307_5, hx307_6, hx307_7⟩ := at_T45 HR0_5.out x28_2 p307 q307
         cases e307
         replace hx307_0 := lb_ HB hx307_0
         replace hx307_1 := lb_ HB hx307_1
         replace hx307_2 := lb_ HB hx307_2
         replace hx307_3 := lb_ HB hx307_3
         replace hx307_4 := lb_ HB hx307_4
         replace hx307_5 := lb_ HB hx307_5
         replace hx307_6 := lb_ HB hx307_6
         replace hx307_7 := lb_ HB hx307_7
         replace p307 := eq_true p307
         replace q307 := eq_true q307
         go_upto_region 7 with (first | ((with_reducible refine gate_dst (N := 5) rfl ?_); (try (refine gate_guard (by rfl) ?_; dsimp only)); refine box_event ?hg (N := 5) ?hd (cs := #[.int .i64 0, .string (⟨#[]⟩ : ByteArray), .int .i64 0, .int .i64 0, .int .i64 0, .string (⟨#[]⟩ : ByteArray), .int .i64 0, .int .i64 0]) (t := 45) ?hr ?_; (case hd => rfl); (case hg => rfl); (case hr => first | (go_simp; done) | (go_simp; rfl)); intro gb308 hg w18 hbox hb; replace HO_3 := am_ (Kd.R_below (qR HO_3) hb); have BK308 := am_ (hbox); have GW308 := am_ ((gG_ hg (qB HB))); have IGW308 := gI_ GW308; have GE308 := am_ ((gG_ hg (qB HB))); have IGE308 := gI_ GE308; replace HB := am_ (below_step (qB HB) hb); have NB302_308 := am_ ((gN_ hg (qK BK302))); have NB308_302 := am_ ((gM_ hg (qK BK302))); replace BK302 := am_ (blk_below (qK BK302) hb); clear hb hbox hg; have hnb19 := NB308_302.out; have hnc19 := NB302_308.out; obtain ⟨z20_0, z20_1, z20_2, z20_3, z20_4, z20_5, z20_6, z20_7⟩ := cz8 BK308.out; obtain ⟨f20_0, f20_1, f20_2, f20_3, f20_4, f20_5, f20_6, f20_7⟩ := fz8 BK308.out))
         (try simp only [Act.put, List.setIfInBounds_toArray, List.set_cons_zero, List.set_cons_succ])
         go_cut [59] (fun v59 wc => ∃ (kq : Nat) (x59_16 : Bool), v59 = .bool x59_16 ∧ Aside0 (impl_listsOk.j2 kq x3_2 l0_5 (l0_5.length : Int) x28_2 x59_16 a0_0 a0_1 a0_2 l0_3 a0_4 l0_5 l0_6 a0_7 a0_8 a0_9 a0_10 a0_11 ((rd_T45 l0_5 x28_2).f0) ((rd_T45 l0_5 x28_2).f1) ((rd_T45 l0_5 x28_2).f2) ((rd_T45 l0_5 x28_2).f3) ((rd_T45 l0_5 x28_2).f4) ((rd_T45 l0_5 x28_2).f5) ((rd_T45 l0_5 x28_2).f6) ((rd_T45 l0_5 x28_2).f7) = some r) ∧ Aside0 (kq ≤ k2) ∧ Aside0 (Kd.R (Kd.int .i64) 3 wc w.heap.size (fun _ => True) u3 x3_2) ∧ Aside0 (wc.heap[gb302]? = some (.cells #[.int .i64 a0_0, .int .i64 a0_1, .int .i64 a0_2, (.slice A0_3 l0_3.length c0_3), .bool a0_4, (.slice (some ad307) l0_5.length c0_5), (.slice A0_6 l0_6.length c0_6), .int .i64 a0_7, .int .i64 a0_8, .int .i64 a0_9, .int .i64 a0_10, .int .i64 a0_11] 67 (0, 0))) ∧ Aside0 (wc.heap[gb308]? = some (.cells #[.int .i64 ((rd_T45 l0_5 x28_2).f0), .string ((rd_T45 l0_5 x28_2).f1), .int .i64 ((rd_T45 l0_5 x28_2).f2), .int .i64 ((rd_T45 l0_5 x28_2).f3), .int .i64 ((rd_T45 l0_5 x28_2).f4), .string ((rd_T45 l0_5 x28_2).f5), .int .i64 ((rd_T45 l0_5 x28_2).f6), .int .i64 ((rd_T45 l0_5 x28_2).f7)] 45 (0, 0))) ∧ Aside0 (Below w.heap.size w wc))
         case first =>
          have H := HC17.out
          clear HC17
          obtain ⟨t309, A21, H⟩ := bd_ H
          by_cases c22 : t309 = true
          ·
           subst c22
           rw [if_pos rfl] at H
           by_cases c23 : x28_2 > 0
           ·
            rw [if_pos c23] at H
            have c23b0 : decide (0 < x28_2) = true := decide_eq_true c23
            clear c23
            (first | rw [c23b0] | (simp only [i64_w, i32_w]; rw [c23b0]) | skip)
            obtain ⟨ji24, hji24⟩ : ∃ j_ : Int, (wrap64 (x28_2 - 1)) = j_ := ⟨_, rfl⟩
            replace H : (if 0 ≤ (ji24) then (if (ji24) < (l0_5.length : Int) then (if ((rd_T45 l0_5 x28_2).f0) ≤ ((rd_T45 l0_5 (ji24)).f0) then (impl_listsOk.j2 k2 x3_2 l0_5 (l0_5.length : Int) x28_2 true a0_0 a0_1 a0_2 l0_3 a0_4 l0_5 l0_6 a0_7 a0_8 a0_9 a0_10 a0_11 ((rd_T45 l0_5 x28_2).f0) ((rd_T45 l0_5 x28_2).f1) ((rd_T45 l0_5 x28_2).f2) ((rd_T45 l0_5 x28_2).f3) ((rd_T45 l0_5 x28_2).f4) ((rd_T45 l0_5 x28_2).f5) ((rd_T45 l0_5 x28_2).f6) ((rd_T45 l0_5 x28_2).f7)) else ((impl_LineAt.f l0_6 ((rd_T45 l0_5 x28_2).f0)).bind fun t311 => (impl_listsOk.j2 k2 x3_2 l0_5 (l0_5.length : Int) x28_2 (decide (t311 ≥ 0)) a0_0 a0_1 a0_2 l0_3 a0_4 l0_5 l0_6 a0_7 a0_8 a0_9 a0_10 a0_11 ((rd_T45 l0_5 x28_2).f0) ((rd_T45 l0_5 x28_2).f1) ((rd_T45 l0_5 x28_2).f2) ((rd_T45 l0_5 x28_2).f3) ((rd_T45 l0_5 x28_2).f4) ((rd_T45 l0_5 x28_2).f5) ((rd_T45 l0_5 x28_2).f6) ((rd_T45 l0_5 x28_2).f7)))) else (none)) else (none)) = some r := by first | (rw [hji24] at H; exact H) | (simp only [hji24] at H ⊢; exact H)
            (try rw [hji24] at A21)
            have hji24w : (IntKind.i64.wrap (x28_2 - 1)) = ji24 := (i64_w _).trans hji24
            by_cases c25 : 0 ≤ (ji24)
            ·
             rw [if_pos c25] at H
             have c25b0 : decide (0 ≤ (ji24)) = true := decide_eq_true c25
             clear c25
             by_cases c26 : (ji24) < (l0_5.length : Int)
             ·
              rw [if_pos c26] at H
              have c26b0 : decide ((ji24) < (l0_5.length : Int)) = true := decide_eq_true c26
              clear c26
              by_cases c27 : ((rd_T45 l0_5 x28_2).f0) ≤ ((rd_T45 l0_5 (ji24)).f0)
              ·
               rw [if_pos c27] at H
               have c27b0 : decide (((rd_T45 l0_5 x28_2).f0) ≤ ((rd_T45 l0_5 (ji24)).f0)) = true := decide_eq_true c27
               clear c27
               have H' := Aside0.mk H
               clear H
               try go_wp2
               have n0_ : Aside0 (Kd.R (Kd.int .i64) 3 ((((((((w18.setCell ⟨gb308, 0, none⟩ (.int .i64 ((rd_T45 l0_5 x28_2).f0))).setCell ⟨gb308, 1, none⟩ (.string ((rd_T45 l0_5 x28_2).f1))).setCell ⟨gb308, 2, none⟩ (.int .i64 ((rd_T45 l0_5 x28_2).f2))).setCell ⟨gb308, 3, none⟩ (.int .i64 ((rd_T45 l0_5 x28_2).f3))).setCell ⟨gb308, 4, none⟩ (.int .i64 ((rd_T45 l0_5 x28_2).f4))).setCell ⟨gb308, 5, none⟩ (.string ((rd_T45 l0_5 x28_2).f5))).setCell ⟨gb308, 6, none⟩ (.int .i64 ((rd_T45 l0_5 x28_2).f6))).setCell ⟨gb308, 7, none⟩ (.int .i64 ((rd_T45 l0_5 x28_2).f7))) w.heap.size (fun _ => True) u3 x3_2) := ⟨by (with_reducible repeat (first | apply Kd.R_alloc | apply Kd.R_drewN | apply Kd.R_drew)); exact Kd.R_mono (Go.Proofs.YtahfemlfdpbkkaaV.R_far8 (g := gb308) (Kd.R_types HO_3.out BK308.out (by decide)) (fun _ hk => hk.2)) (fun _ hk => trivial)⟩
               have n1_ : Aside0 (((((((((w18.setCell ⟨gb308, 0, none⟩ (.int .i64 ((rd_T45 l0_5 x28_2).f0))).setCell ⟨gb308, 1, none⟩ (.string ((rd_T45 l0_5 x28_2).f1))).setCell ⟨gb308, 2, none⟩ (.int .i64 ((rd_T45 l0_5 x28_2).f2))).setCell ⟨gb308, 3, none⟩ (.int .i64 ((rd_T45 l0_5 x28_2).f3))).setCell ⟨gb308, 4, none⟩ (.int .i64 ((rd_T45 l0_5 x28_2).f4))).setCell ⟨gb308, 5, none⟩ (.string ((rd_T45 l0_5 x28_2).f5))).setCell ⟨gb308, 6, none⟩ (.int .i64 ((rd_T45 l0_5 x28_2).f6))).setCell ⟨gb308, 7, none⟩ (.int .i64 ((rd_T45 l0_5 x28_2).f7))).heap[gb302]? = some (.cells #[.int .i64 a0_0, .int .i64 a0_1, .int .i64 a0_2, .slice A0_3 l0_3.length c0_3, .bool a0_4, .slice (some ad307) l0_5.length c0_5, .slice A0_6 l0_6.length c0_6, .int .i64 a0_7, .int .i64 a0_8, .int .i64 a0_9, .int .i64 a0_10, .int .i64 a0_11] 67 (0, 0))) := ⟨by (with_reducible repeat (first | refine blk_drewN ?_ _ | refine blk_drew ?_ | refine blk_alloc ?_ _)); refine Go.Proofs.YtahfemlfdpbkkaaV.blk_far8 ?_ NB302_308.out; (with_reducible repeat (first | refine blk_drewN ?_ _ | refine blk_drew ?_ | refine blk_alloc ?_ _)); exact BK302.out⟩
               have n2_ : Aside0 (((((((((w18.setCell ⟨gb308, 0, none⟩ (.int .i64 ((rd_T45 l0_5 x28_2).f0))).setCell ⟨gb308, 1, none⟩ (.string ((rd_T45 l0_5 x28_2).f1))).setCell ⟨gb308, 2, none⟩ (.int .i64 ((rd_T45 l0_5 x28_2).f2))).setCell ⟨gb308, 3, none⟩ (.int .i64 ((rd_T45 l0_5 x28_2).f3))).setCell ⟨gb308, 4, none⟩ (.int .i64 ((rd_T45 l0_5 x28_2).f4))).setCell ⟨gb308, 5, none⟩ (.string ((rd_T45 l0_5 x28_2).f5))).setCell ⟨gb308, 6, none⟩ (.int .i64 ((rd_T45 l0_5 x28_2).f6))).setCell ⟨gb308, 7, none⟩ (.int .i64 ((rd_T45 l0_5 x28_2).f7))).heap[gb308]? = some (.cells #[.int .i64 ((rd_T45 l0_5 x28_2).f0), .string ((rd_T45 l0_5 x28_2).f1), .int .i64 ((rd_T45 l0_5 x28_2).f2), .int .i64 ((rd_T45 l0_5 x28_2).f3), .int .i64 ((rd_T45 l0_5 x28_2).f4), .string ((rd_T45 l0_5 x28_2).f5), .int .i64 ((rd_T45 l0_5 x28_2).f6), .int .i64 ((rd_T45 l0_5 x28_2).f7)] 45 (0, 0))) := ⟨by (with_reducible repeat (first | refine blk_drewN ?_ _ | refine blk_drew ?_ | refine blk_alloc ?_ _)); refine Go.Proofs.YtahfemlfdpbkkaaV.blk_all8 (show _ = some (Go.Obj.cells #[.int .i64 0, .string (⟨#[]⟩ : ByteArray), .int .i64 0, .int .i64 0, .int .i64 0, .string (⟨#[]⟩ : ByteArray), .int .i64 0, .int .i64 0] _ (0, 0)) from ?_); (with_reducible repeat (first | refine blk_drewN ?_ _ | refine blk_drew ?_ | refine blk_alloc ?_ _)); exact BK308.out⟩
               have n3_ : Aside0 (Below w.heap.size w ((((((((w18.setCell ⟨gb308, 0, none⟩ (.int .i64 ((rd_T45 l0_5 x28_2).f0))).setCell ⟨gb308, 1, none⟩ (.string ((rd_T45 l0_5 x28_2).f1))).setCell ⟨gb308, 2, none⟩ (.int .i64 ((rd_T45 l0_5 x28_2).f2))).setCell ⟨gb308, 3, none⟩ (.int .i64 ((rd_T45 l0_5 x28_2).f3))).setCell ⟨gb308, 4, none⟩ (.int .i64 ((rd_T45 l0_5 x28_2).f4))).setCell ⟨gb308, 5, none⟩ (.string ((rd_T45 l0_5 x28_2).f5))).setCell ⟨gb308, 6, none⟩ (.int .i64 ((rd_T45 l0_5 x28_2).f6))).setCell ⟨gb308, 7, none⟩ (.int .i64 ((rd_T45 l0_5 x28_2).f7)))) := ⟨qB HB⟩
               (try clear HO_3)
               (try clear BK302)
               (try clear BK308)
               (try clear HB)
               generalize ((((((((w18.setCell ⟨gb308, 0, none⟩ (.int .i64 ((rd_T45 l0_5 x28_2).f0))).setCell ⟨gb308, 1, none⟩ (.string ((rd_T45 l0_5 x28_2).f1))).setCell ⟨gb308, 2, none⟩ (.int .i64 ((rd_T45 l0_5 x28_2).f2))).setCell ⟨gb308, 3, none⟩ (.int .i64 ((rd_T45 l0_5 x28_2).f3))).setCell ⟨gb308, 4, none⟩ (.int .i64 ((rd_T45 l0_5 x28_2).f4))).setCell ⟨gb308, 5, none⟩ (.string ((rd_T45 l0_5 x28_2).f5))).setCell ⟨gb308, 6, none⟩ (.int .i64 ((rd_T45 l0_5 x28_2).f6))).setCell ⟨gb308, 7, none⟩ (.int .i64 ((rd_T45 l0_5 x28_2).f7))) = w28 at n0_ n1_ n2_ n3_ ⊢
               have HO_3 := n0_
               have BK302 := n1_
               have BK308 := n2_
               have HB := n3_
               clear n0_ n1_ n2_ n3_
               replace HO_3 := am_ (Kd.R_drew HO_3.out)
               replace BK302 := am_ (blk_drew BK302.out)
               replace BK308 := am_ (blk_drew BK308.out)
               replace HB := am_ (below_drew1 HB.out)
               have p310 : 0 ≤ ((ji24) : Int) := od_
               have q310 : (ji24) < (l0_5.length : Int) := od_
               obtain ⟨ad310, e310, hx310_0, hx310_1, hx310_2, hx310_3, hx310_4, hx310_5, hx310_6, hx310_7⟩ := at_T45 HR0_5.out (ji24) p310 q310
               have hw310_7 := hx310_7
               have hw310_6 := hx310_6
               have hw310_5 := hx310_5
               have hw310_4 := hx310_4
               have hw310_3 := hx310_3
               have hw310_2 := hx310_2
               have hw310_1 := hx310_1
               have hw310_0 := hx310_0
               obtain rfl : ad307 = ad310 := (by injection e310)
               replace hx310_0 := lb_ HB hx310_0
               replace hx310_1 := lb_ HB hx310_1
               replace hx310_2 := lb_ HB hx310_2
               replace hx310_3 := lb_ HB hx310_3
               replace hx310_4 := lb_ HB hx310_4
               replace hx310_5 := lb_ HB hx310_5
               replace hx310_6 := lb_ HB hx310_6
               replace hx310_7 := lb_ HB hx310_7
               replace p310 := eq_true p310
               replace q310 := eq_true q310
               refine start_ (n := 27) (S := fun w' => w'.cell? ⟨gb308, 0, none⟩ = some (.int .i64 ((rd_T45 l0_5 x28_2).f0)) ∧ w'.cell? ⟨gb308, 1, none⟩ = some (.string ((rd_T45 l0_5 x28_2).f1)) ∧ w'.cell? ⟨gb308, 2, none⟩ = some (.int .i64 ((rd_T45 l0_5 x28_2).f2)) ∧ w'.cell? ⟨gb308, 3, none⟩ = some (.int .i64 ((rd_T45 l0_5 x28_2).f3)) ∧ w'.cell? ⟨gb308, 4, none⟩ = some (.int .i64 ((rd_T45 l0_5 x28_2).f4)) ∧ w'.cell? ⟨gb308, 5, none⟩ = some (.string ((rd_T45 l0_5 x28_2).f5)) ∧ w'.cell? ⟨gb308, 6, none⟩ = some (.int .i64 ((rd_T45 l0_5 x28_2).f6)) ∧ w'.cell? ⟨gb308, 7, none⟩ = some (.int .i64 ((rd_T45 l0_5 x28_2).f7)) ∧ w'.cell? ⟨gb302, 0, none⟩ = some (.int .i64 a0_0) ∧ w'.cell? ⟨gb302, 1, none⟩ = some (.int .i64 a0_1) ∧ w'.cell? ⟨gb302, 2, none⟩ = some (.int .i64 a0_2) ∧ w'.cell? ⟨gb302, 3, none⟩ = some (.slice A0_3 l0_3.length c0_3) ∧ w'.cell? ⟨gb302, 4, none⟩ = some (.bool a0_4) ∧ w'.cell? ⟨gb302, 5, none⟩ = some (.slice (some ad307) l0_5.length c0_5) ∧ w'.cell? ⟨gb302, 6, none⟩ = some (.slice A0_6 l0_6.length c0_6) ∧ w'.cell? ⟨gb302, 7, none⟩ = some (.int .i64 a0_7) ∧ w'.cell? ⟨gb302, 8, none⟩ = some (.int .i64 a0_8) ∧ w'.cell? ⟨gb302, 9, none⟩ = some (.int .i64 a0_9) ∧ w'.cell? ⟨gb302, 10, none⟩ = some (.int .i64 a0_10) ∧ w'.cell? ⟨gb302, 11, none⟩ = some (.int .i64 a0_11) ∧ w'.cell? (ad307.add (((ji24)).toNat * 8)) = some (.int .i64 ((rd_T45 l0_5 (ji24)).f0)) ∧ w'.cell? ⟨(ad307.add (((ji24)).toNat * 8)).block, (ad307.add (((ji24)).toNat * 8)).off + 1, none⟩ = some (.string ((rd_T45 l0_5 (ji24)).f1)) ∧ w'.cell? ⟨(ad307.add (((ji24)).toNat * 8)).block, (ad307.add (((ji24)).toNat * 8)).off + 2, none⟩ = some (.int .i64 ((rd_T45 l0_5 (ji24)).f2)) ∧ w'.cell? ⟨(ad307.add (((ji24)).toNat * 8)).block, (ad307.add (((ji24)).toNat * 8)).off + 3, none⟩ = some (.int .i64 ((rd_T45 l0_5 (ji24)).f3)) ∧ w'.cell? ⟨(ad307.add (((ji24)).toNat * 8)).block, (ad307.add (((ji24)).toNat * 8)).off + 4, none⟩ = some (.int .i64 ((rd_T45 l0_5 (ji24)).f4)) ∧ w'.cell? ⟨(ad307.add (((ji24)).toNat * 8)).block, (ad307.add (((ji24)).toNat * 8)).off + 5, none⟩ = some (.string ((rd_T45 l0_5 (ji24)).f5)) ∧ w'.cell? ⟨(ad307.add (((ji24)).toNat * 8)).block, (ad307.add (((ji24)).toNat * 8)).off + 6, none⟩ = some (.int .i64 ((rd_T45 l0_5 (ji24)).f6)) ∧ w'.cell? ⟨(ad307.add (((ji24)).toNat * 8)).block, (ad307.add (((ji24)).toNat * 8)).off + 7, none⟩ = some (.int .i64 ((rd_T45 l0_5 (ji24)).f7))) (ds := []) (rl [0,27]) (by kernel_rfl) rfl rfl (cw8 BK308.out (cw12 BK302.out ⟨(lb_ HB hw310_0 :), (lb_ HB hw310_1 :), (lb_ HB hw310_2 :), (lb_ HB hw310_3 :), (lb_ HB hw310_4 :), (lb_ HB hw310_5 :), (lb_ HB hw310_6 :), (lb_ HB hw310_7 :)⟩)) (fun hHeld => ?_); refine with_tabW impl_listsOk.tab7 impl_listsOk.bits7 (fun HT_ HW_ => ?_)
               generalize w28.drew = w29 at HO_3 BK302 BK308 HB hx310_0 hx310_1 hx310_2 hx310_3 hx310_4 hx310_5 hx310_6 hx310_7 hHeld ⊢
               refine take_ (i := 0) (N := some 33) (v := ?_) (a' := ?_) (rl [1,26]) rfl rfl (take_ofW HT_.out HW_.out (by kernel_rfl)) (fun _ _ _ h => h) (Or.inl ⟨by rfl, ?_⟩) hHeld ?_ ?_
               rotate_left
               ·
                rintro w' ⟨s0, s1, s2, s3, s4, s5, s6, s7, s8, s9, s10, s11, s12, s13, s14, s15, s16, s17, s18, s19, s20, s21, s22, s23, s24, s25, s26, s27⟩
                go_simp
                with_reducible rfl
               rotate_left
               ·
                exact ap_
               refine one_ (i := 1) (N := some 34) (rl [2,25]) rfl rfl (one_of HT_.out (by kernel_rfl)) (by decide) (fun K hK => ?_)
               refine goes_ Try.func79 (by kernel_rfl) rfl #[.agg #[.int .i64 ((rd_T45 l0_5 x28_2).f0), .string ((rd_T45 l0_5 x28_2).f1), .int .i64 ((rd_T45 l0_5 x28_2).f2), .int .i64 ((rd_T45 l0_5 x28_2).f3), .int .i64 ((rd_T45 l0_5 x28_2).f4), .string ((rd_T45 l0_5 x28_2).f5), .int .i64 ((rd_T45 l0_5 x28_2).f6), .int .i64 ((rd_T45 l0_5 x28_2).f7)]] (by rfl) rfl rfl la_ ?_
               with_reducible refine (impl_AskerOk.calls k2 ((rd_T45 l0_5 x28_2).f0) ((rd_T45 l0_5 x28_2).f1) ((rd_T45 l0_5 x28_2).f2) ((rd_T45 l0_5 x28_2).f3) ((rd_T45 l0_5 x28_2).f4) ((rd_T45 l0_5 x28_2).f5) ((rd_T45 l0_5 x28_2).f6) ((rd_T45 l0_5 x28_2).f7) true _ A21.out).mono ?_
               rintro e w30 ⟨rfl, hb⟩
               refine ⟨_, rfl, ?_⟩
               replace HO_3 := am_ (Kd.R_below (qR HO_3) hb)
               replace BK302 := am_ (blk_below (qK BK302) hb)
               replace BK308 := am_ (blk_below (qK BK308) hb)
               replace HB := am_ (below_step (qB HB) hb)
               (try clear hb)
               refine hK.out _ _ (cw8 BK308.out (cw12 BK302.out ⟨(lb_ HB hw310_0 :), (lb_ HB hw310_1 :), (lb_ HB hw310_2 :), (lb_ HB hw310_3 :), (lb_ HB hw310_4 :), (lb_ HB hw310_5 :), (lb_ HB hw310_6 :), (lb_ HB hw310_7 :)⟩)) (fun hHeld => ?_)
               clear hK K
               refine norm_ (a' := ?_) ?_ ?_
               rotate_left
               ·
                show Act.put _ (some 34) _ = _
                exact ap_
               refine pz_ (i := 2) (N := some 35) HT_ (rl [3,24]) rfl rfl ?_
               refine pz_ (i := 3) (N := some 36) HT_ (rl [4,23]) rfl rfl ?_
               refine pz_ (i := 4) (N := some 37) HT_ (rl [5,22]) rfl rfl ?_
               refine pz_ (i := 5) (N := some 38) HT_ (rl [6,21]) rfl rfl ?_
               refine pz_ (i := 6) (N := some 39) HT_ (rl [7,20]) rfl rfl ?_
               refine pz_ (i := 7) (N := some 40) HT_ (rl [8,19]) rfl rfl ?_
               refine pz_ (i := 9) (N := some 42) HT_ (rl [8,1,1,17]) rfl rfl ?_
               refine pz_ (i := 11) (N := some 44) HT_ (rl [8,1,1,1,1,15]) rfl rfl ?_
               refine pz_ (i := 12) (N := some 45) HT_ (rl [8,1,1,1,2,14]) rfl rfl ?_
               refine take_ (i := 8) (N := some 41) (v := ?_) (a' := ?_) (rl [10,1,2,14]) rfl rfl (take_ofW HT_.out HW_.out (by kernel_rfl)) (fun _ _ _ h => h) (Or.inl ⟨by rfl, ?_⟩) hHeld ?_ ?_
               rotate_left
               ·
                rintro w' ⟨s0, s1, s2, s3, s4, s5, s6, s7, s8, s9, s10, s11, s12, s13, s14, s15, s16, s17, s18, s19, s20, s21, s22, s23, s24, s25, s26, s27⟩
                go_simp
                with_reducible rfl
               rotate_left
               ·
                exact ap_
               refine take_ (i := 10) (N := some 43) (v := ?_) (a' := ?_) (rl [13,14]) rfl rfl (take_ofW HT_.out HW_.out (by kernel_rfl)) (fun _ _ _ h => h) (Or.inl ⟨by rfl, ?_⟩) hHeld ?_ ?_
               rotate_left
               ·
                rintro w' ⟨s0, s1, s2, s3, s4, s5, s6, s7, s8, s9, s10, s11, s12, s13, s14, s15, s16, s17, s18, s19, s20, s21, s22, s23, s24, s25, s26, s27⟩
                go_simp
                with_reducible rfl
               rotate_left
               ·
                exact ap_
               refine pz_ (i := 13) (N := some 46) HT_ (rl [14,13]) rfl rfl ?_
               refine pz_ (i := 14) (N := some 47) HT_ (rl [15,12]) rfl rfl ?_
               refine take_ (i := 15) (N := some 48) (v := ?_) (a' := ?_) (rl [16,11]) rfl rfl (take_ofW HT_.out HW_.out (by kernel_rfl)) (fun _ _ _ h => h) (Or.inl ⟨by rfl, ?_⟩) hHeld ?_ ?_
               rotate_left
               ·
                rintro w' ⟨s0, s1, s2, s3, s4, s5, s6, s7, s8, s9, s10, s11, s12, s13, s14, s15, s16, s17, s18, s19, s20, s21, s22, s23, s24, s25, s26, s27⟩
                go_simp
                with_reducible rfl
               rotate_left
               ·
                exact ap_
               refine pz_ (i := 16) (N := some 49) HT_ (rl [17,10]) rfl rfl ?_
               refine pz_ (i := 17) (N := some 50) HT_ (rl [18,9]) rfl rfl ?_
               refine pz_ (i := 18) (N := some 51) HT_ (rl [19,8]) rfl rfl ?_
               refine pz_ (i := 19) (N := some 52) HT_ (rl [20,7]) rfl rfl ?_
               refine pu_ (i := 20) (N := some 53) HT_ (rl [21,6]) rfl rfl ?_
               refine pu_ (i := 21) (N := some 54) HT_ (rl [22,5]) rfl rfl ?_
               refine pu_ (i := 22) (N := some 55) HT_ (rl [23,4]) rfl rfl ?_
               refine pu_ (i := 23) (N := some 56) HT_ (rl [24,3]) rfl rfl ?_
               refine pu_ (i := 24) (N := some 57) HT_ (rl [25,2]) rfl rfl ?_
               refine pu_ (i := 25) (N := some 58) HT_ (rl [26,1]) rfl rfl ?_
               refine pz_ (i := 26) (N := some 59) HT_ (rl [27]) rfl rfl ?_
               refine done_ (done_of HT_.out (by kernel_rfl)) ?_
               try go_wp2
               go_meet
               case rel => exact ⟨_, (true), eqq_, H', ⟨by have := HJ1.out; have := HK2.out; first | omega | exact Nat.le_refl _⟩, ⟨qR HO_3⟩, ⟨qK BK302⟩, ⟨qK BK308⟩, ⟨qB HB⟩⟩
              ·
               rw [if_neg c27] at H
               have c27b0 : decide (((rd_T45 l0_5 x28_2).f0) ≤ ((rd_T45 l0_5 (ji24)).f0)) = false := decide_eq_false c27
               clear c27
               obtain ⟨t311, A31, H⟩ := bd_ H
               have H' := Aside0.mk H
               clear H
               try go_wp2
               have n0_ : Aside0 (Kd.R (Kd.int .i64) 3 ((((((((w18.setCell ⟨gb308, 0, none⟩ (.int .i64 ((rd_T45 l0_5 x28_2).f0))).setCell ⟨gb308, 1, none⟩ (.string ((rd_T45 l0_5 x28_2).f1))).setCell ⟨gb308, 2, none⟩ (.int .i64 ((rd_T45 l0_5 x28_2).f2))).setCell ⟨gb308, 3, none⟩ (.int .i64 ((rd_T45 l0_5 x28_2).f3))).setCell ⟨gb308, 4, none⟩ (.int .i64 ((rd_T45 l0_5 x28_2).f4))).setCell ⟨gb308, 5, none⟩ (.string ((rd_T45 l0_5 x28_2).f5))).setCell ⟨gb308, 6, none⟩ (.int .i64 ((rd_T45 l0_5 x28_2).f6))).setCell ⟨gb308, 7, none⟩ (.int .i64 ((rd_T45 l0_5 x28_2).f7))) w.heap.size (fun _ => True) u3 x3_2) := ⟨by (with_reducible repeat (first | apply Kd.R_alloc | apply Kd.R_drewN | apply Kd.R_drew)); exact Kd.R_mono (Go.Proofs.YtahfemlfdpbkkaaV.R_far8 (g := gb308) (Kd.R_types HO_3.out BK308.out (by decide)) (fun _ hk => hk.2)) (fun _ hk => trivial)⟩
               have n1_ : Aside0 (((((((((w18.setCell ⟨gb308, 0, none⟩ (.int .i64 ((rd_T45 l0_5 x28_2).f0))).setCell ⟨gb308, 1, none⟩ (.string ((rd_T45 l0_5 x28_2).f1))).setCell ⟨gb308, 2, none⟩ (.int .i64 ((rd_T45 l0_5 x28_2).f2))).setCell ⟨gb308, 3, none⟩ (.int .i64 ((rd_T45 l0_5 x28_2).f3))).setCell ⟨gb308, 4, none⟩ (.int .i64 ((rd_T45 l0_5 x28_2).f4))).setCell ⟨gb308, 5, none⟩ (.string ((rd_T45 l0_5 x28_2).f5))).setCell ⟨gb308, 6, none⟩ (.int .i64 ((rd_T45 l0_5 x28_2).f6))).setCell ⟨gb308, 7, none⟩ (.int .i64 ((rd_T45 l0_5 x28_2).f7))).heap[gb302]? = some (.cells #[.int .i64 a0_0, .int .i64 a0_1, .int .i64 a0_2, .slice A0_3 l0_3.length c0_3, .bool a0_4, .slice (some ad307) l0_5.length c0_5, .slice A0_6 l0_6.length c0_6, .int .i64 a0_7, .int .i64 a0_8, .int .i64 a0_9, .int .i64 a0_10, .int .i64 a0_11] 67 (0, 0))) := ⟨by (with_reducible repeat (first | refine blk_drewN ?_ _ | refine blk_drew ?_ | refine blk_alloc ?_ _)); refine Go.Proofs.YtahfemlfdpbkkaaV.blk_far8 ?_ NB302_308.out; (with_reducible repeat (first | refine blk_drewN ?_ _ | refine blk_drew ?_ | refine blk_alloc ?_ _)); exact BK302.out⟩
               have n2_ : Aside0 (((((((((w18.setCell ⟨gb308, 0, none⟩ (.int .i64 ((rd_T45 l0_5 x28_2).f0))).setCell ⟨gb308, 1, none⟩ (.string ((rd_T45 l0_5 x28_2).f1))).setCell ⟨gb308, 2, none⟩ (.int .i64 ((rd_T45 l0_5 x28_2).f2))).setCell ⟨gb308, 3, none⟩ (.int .i64 ((rd_T45 l0_5 x28_2).f3))).setCell ⟨gb308, 4, none⟩ (.int .i64 ((rd_T45 l0_5 x28_2).f4))).setCell ⟨gb308, 5, none⟩ (.string ((rd_T45 l0_5 x28_2).f5))).setCell ⟨gb308, 6, none⟩ (.int .i64 ((rd_T45 l0_5 x28_2).f6))).setCell ⟨gb308, 7, none⟩ (.int .i64 ((rd_T45 l0_5 x28_2).f7))).heap[gb308]? = some (.cells #[.int .i64 ((rd_T45 l0_5 x28_2).f0), .string ((rd_T45 l0_5 x28_2).f1), .int .i64 ((rd_T45 l0_5 x28_2).f2), .int .i64 ((rd_T45 l0_5 x28_2).f3), .int .i64 ((rd_T45 l0_5 x28_2).f4), .string ((rd_T45 l0_5 x28_2).f5), .int .i64 ((rd_T45 l0_5 x28_2).f6), .int .i64 ((rd_T45 l0_5 x28_2).f7)] 45 (0, 0))) := ⟨by (with_reducible repeat (first | refine blk_drewN ?_ _ | refine blk_drew ?_ | refine blk_alloc ?_ _)); refine Go.Proofs.YtahfemlfdpbkkaaV.blk_all8 (show _ = some (Go.Obj.cells #[.int .i64 0, .string (⟨#[]⟩ : ByteArray), .int .i64 0, .int .i64 0, .int .i64 0, .string (⟨#[]⟩ : ByteArray), .int .i64 0, .int .i64 0] _ (0, 0)) from ?_); (with_reducible repeat (first | refine blk_drewN ?_ _ | refine blk_drew ?_ | refine blk_alloc ?_ _)); exact BK308.out⟩
               have n3_ : Aside0 (Below w.heap.size w ((((((((w18.setCell ⟨gb308, 0, none⟩ (.int .i64 ((rd_T45 l0_5 x28_2).f0))).setCell ⟨gb308, 1, none⟩ (.string ((rd_T45 l0_5 x28_2).f1))).setCell ⟨gb308, 2, none⟩ (.int .i64 ((rd_T45 l0_5 x28_2).f2))).setCell ⟨gb308, 3, none⟩ (.int .i64 ((rd_T45 l0_5 x28_2).f3))).setCell ⟨gb308, 4, none⟩ (.int .i64 ((rd_T45 l0_5 x28_2).f4))).setCell ⟨gb308, 5, none⟩ (.string ((rd_T45 l0_5 x28_2).f5))).setCell ⟨gb308, 6, none⟩ (.int .i64 ((rd_T45 l0_5 x28_2).f6))).setCell ⟨gb308, 7, none⟩ (.int .i64 ((rd_T45 l0_5 x28_2).f7)))) := ⟨qB HB⟩
               generalize ((((((((w18.setCell ⟨gb308, 0, none⟩ (.int .i64 ((rd_T45 l0_5 x28_2).f0))).setCell ⟨gb308, 1, none⟩ (.string ((rd_T45 l0_5 x28_2).f1))).setCell ⟨gb308, 2, none⟩ (.int .i64 ((rd_T45 l0_5 x28_2).f2))).setCell ⟨gb308, 3, none⟩ (.int .i64 ((rd_T45 l0_5 x28_2).f3))).setCell ⟨gb308, 4, none⟩ (.int .i64 ((rd_T45 l0_5 x28_2).f4))).setCell ⟨gb308, 5, none⟩ (.string ((rd_T45 l0_5 x28_2).f5))).setCell ⟨gb308, 6, none⟩ (.int .i64 ((rd_T45 l0_5 x28_2).f6))).setCell ⟨gb308, 7, none⟩ (.int .i64 ((rd_T45 l0_5 x28_2).f7))) = w32 at n0_ n1_ n2_ n3_ ⊢
               have HO_3 := n0_
               have BK302 := n1_
               have BK308 := n2_
               have HB := n3_
               clear n0_ n1_ n2_ n3_
               replace HO_3 := am_ (Kd.R_drew HO_3.out)
               replace BK302 := am_ (blk_drew BK302.out)
               replace BK308 := am_ (blk_drew BK308.out)
               replace HB := am_ (below_drew1 HB.out)
               have p310 : 0 ≤ ((ji24) : Int) := od_
               have q310 : (ji24) < (l0_5.length : Int) := od_
               obtain ⟨ad310, e310, hx310_0, hx310_1, hx310_2, hx310_3, hx310_4, hx310_5, hx310_6, hx310_7⟩ := at_T45 HR0_5.out (ji24) p310 q310
               have hw310_7 := hx310_7
               have hw310_6 := hx310_6
               have hw310_5 := hx310_5
               have hw310_4 := hx310_4
               have hw310_3 := hx310_3
               have hw310_2 := hx310_2
               have hw310_1 := hx310_1
               have hw310_0 := hx310_0
               obtain rfl : ad307 = ad310 := (by injection e310)
               replace hx310_0 := lb_ HB hx310_0
               replace hx310_1 := lb_ HB hx310_1
               replace hx310_2 := lb_ HB hx310_2
               replace hx310_3 := lb_ HB hx310_3
               replace hx310_4 := lb_ HB hx310_4
               replace hx310_5 := lb_ HB hx310_5
               replace hx310_6 := lb_ HB hx310_6
               replace hx310_7 := lb_ HB hx310_7
               replace p310 := eq_true p310
               replace q310 := eq_true q310
               refine start_ (n := 27) (S := fun w' => w'.cell? ⟨gb308, 0, none⟩ = some (.int .i64 ((rd_T45 l0_5 x28_2).f0)) ∧ w'.cell? ⟨gb308, 1, none⟩ = some (.string ((rd_T45 l0_5 x28_2).f1)) ∧ w'.cell? ⟨gb308, 2, none⟩ = some (.int .i64 ((rd_T45 l0_5 x28_2).f2)) ∧ w'.cell? ⟨gb308, 3, none⟩ = some (.int .i64 ((rd_T45 l0_5 x28_2).f3)) ∧ w'.cell? ⟨gb308, 4, none⟩ = some (.int .i64 ((rd_T45 l0_5 x28_2).f4)) ∧ w'.cell? ⟨gb308, 5, none⟩ = some (.string ((rd_T45 l0_5 x28_2).f5)) ∧ w'.cell? ⟨gb308, 6, none⟩ = some (.int .i64 ((rd_T45 l0_5 x28_2).f6)) ∧ w'.cell? ⟨gb308, 7, none⟩ = some (.int .i64 ((rd_T45 l0_5 x28_2).f7)) ∧ w'.cell? ⟨gb302, 0, none⟩ = some (.int .i64 a0_0) ∧ w'.cell? ⟨gb302, 1, none⟩ = some (.int .i64 a0_1) ∧ w'.cell? ⟨gb302, 2, none⟩ = some (.int .i64 a0_2) ∧ w'.cell? ⟨gb302, 3, none⟩ = some (.slice A0_3 l0_3.length c0_3) ∧ w'.cell? ⟨gb302, 4, none⟩ = some (.bool a0_4) ∧ w'.cell? ⟨gb302, 5, none⟩ = some (.slice (some ad307) l0_5.length c0_5) ∧ w'.cell? ⟨gb302, 6, none⟩ = some (.slice A0_6 l0_6.length c0_6) ∧ w'.cell? ⟨gb302, 7, none⟩ = some (.int .i64 a0_7) ∧ w'.cell? ⟨gb302, 8, none⟩ = some (.int .i64 a0_8) ∧ w'.cell? ⟨gb302, 9, none⟩ = some (.int .i64 a0_9) ∧ w'.cell? ⟨gb302, 10, none⟩ = some (.int .i64 a0_10) ∧ w'.cell? ⟨gb302, 11, none⟩ = some (.int .i64 a0_11) ∧ w'.cell? (ad307.add (((ji24)).toNat * 8)) = some (.int .i64 ((rd_T45 l0_5 (ji24)).f0)) ∧ w'.cell? ⟨(ad307.add (((ji24)).toNat * 8)).block, (ad307.add (((ji24)).toNat * 8)).off + 1, none⟩ = some (.string ((rd_T45 l0_5 (ji24)).f1)) ∧ w'.cell? ⟨(ad307.add (((ji24)).toNat * 8)).block, (ad307.add (((ji24)).toNat * 8)).off + 2, none⟩ = some (.int .i64 ((rd_T45 l0_5 (ji24)).f2)) ∧ w'.cell? ⟨(ad307.add (((ji24)).toNat * 8)).block, (ad307.add (((ji24)).toNat * 8)).off + 3, none⟩ = some (.int .i64 ((rd_T45 l0_5 (ji24)).f3)) ∧ w'.cell? ⟨(ad307.add (((ji24)).toNat * 8)).block, (ad307.add (((ji24)).toNat * 8)).off + 4, none⟩ = some (.int .i64 ((rd_T45 l0_5 (ji24)).f4)) ∧ w'.cell? ⟨(ad307.add (((ji24)).toNat * 8)).block, (ad307.add (((ji24)).toNat * 8)).off + 5, none⟩ = some (.string ((rd_T45 l0_5 (ji24)).f5)) ∧ w'.cell? ⟨(ad307.add (((ji24)).toNat * 8)).block, (ad307.add (((ji24)).toNat * 8)).off + 6, none⟩ = some (.int .i64 ((rd_T45 l0_5 (ji24)).f6)) ∧ w'.cell? ⟨(ad307.add (((ji24)).toNat * 8)).block, (ad307.add (((ji24)).toNat * 8)).off + 7, none⟩ = some (.int .i64 ((rd_T45 l0_5 (ji24)).f7))) (ds := []) (rl [0,27]) (by kernel_rfl) rfl rfl (cw8 BK308.out (cw12 BK302.out ⟨(lb_ HB hw310_0 :), (lb_ HB hw310_1 :), (lb_ HB hw310_2 :), (lb_ HB hw310_3 :), (lb_ HB hw310_4 :), (lb_ HB hw310_5 :), (lb_ HB hw310_6 :), (lb_ HB hw310_7 :)⟩)) (fun hHeld => ?_); refine with_tabW impl_listsOk.tab7 impl_listsOk.bits7 (fun HT_ HW_ => ?_)
               generalize w32.drew = w33 at HO_3 BK302 BK308 HB hx310_0 hx310_1 hx310_2 hx310_3 hx310_4 hx310_5 hx310_6 hx310_7 hHeld ⊢
               refine take_ (i := 0) (N := some 33) (v := ?_) (a' := ?_) (rl [1,26]) rfl rfl (take_ofW HT_.out HW_.out (by kernel_rfl)) (fun _ _ _ h => h) (Or.inl ⟨by rfl, ?_⟩) hHeld ?_ ?_
               rotate_left
               ·
                rintro w' ⟨s0, s1, s2, s3, s4, s5, s6, s7, s8, s9, s10, s11, s12, s13, s14, s15, s16, s17, s18, s19, s20, s21, s22, s23, s24, s25, s26, s27⟩
                go_simp
                with_reducible rfl
               rotate_left
               ·
                exact ap_
               refine one_ (i := 1) (N := some 34) (rl [2,25]) rfl rfl (one_of HT_.out (by kernel_rfl)) (by decide) (fun K hK => ?_)
               refine goes_ Try.func79 (by kernel_rfl) rfl #[.agg #[.int .i64 ((rd_T45 l0_5 x28_2).f0), .string ((rd_T45 l0_5 x28_2).f1), .int .i64 ((rd_T45 l0_5 x28_2).f2), .int .i64 ((rd_T45 l0_5 x28_2).f3), .int .i64 ((rd_T45 l0_5 x28_2).f4), .string ((rd_T45 l0_5 x28_2).f5), .int .i64 ((rd_T45 l0_5 x28_2).f6), .int .i64 ((rd_T45 l0_5 x28_2).f7)]] (by rfl) rfl rfl la_ ?_
               with_reducible refine (impl_AskerOk.calls k2 ((rd_T45 l0_5 x28_2).f0) ((rd_T45 l0_5 x28_2).f1) ((rd_T45 l0_5 x28_2).f2) ((rd_T45 l0_5 x28_2).f3) ((rd_T45 l0_5 x28_2).f4) ((rd_T45 l0_5 x28_2).f5) ((rd_T45 l0_5 x28_2).f6) ((rd_T45 l0_5 x28_2).f7) true _ A21.out).mono ?_
               rintro e w34 ⟨rfl, hb⟩
               refine ⟨_, rfl, ?_⟩
               replace HO_3 := am_ (Kd.R_below (qR HO_3) hb)
               replace BK302 := am_ (blk_below (qK BK302) hb)
               replace BK308 := am_ (blk_below (qK BK308) hb)
               replace HB := am_ (below_step (qB HB) hb)
               (try clear hb)
               refine hK.out _ _ (cw8 BK308.out (cw12 BK302.out ⟨(lb_ HB hw310_0 :), (lb_ HB hw310_1 :), (lb_ HB hw310_2 :), (lb_ HB hw310_3 :), (lb_ HB hw310_4 :), (lb_ HB hw310_5 :), (lb_ HB hw310_6 :), (lb_ HB hw310_7 :)⟩)) (fun hHeld => ?_)
               clear hK K
               refine norm_ (a' := ?_) ?_ ?_
               rotate_left
               ·
                show Act.put _ (some 34) _ = _
                exact ap_
               refine pz_ (i := 2) (N := some 35) HT_ (rl [3,24]) rfl rfl ?_
               refine pz_ (i := 3) (N := some 36) HT_ (rl [4,23]) rfl rfl ?_
               refine pz_ (i := 4) (N := some 37) HT_ (rl [5,22]) rfl rfl ?_
               refine pz_ (i := 5) (N := some 38) HT_ (rl [6,21]) rfl rfl ?_
               refine pz_ (i := 6) (N := some 39) HT_ (rl [7,20]) rfl rfl ?_
               refine pz_ (i := 7) (N := some 40) HT_ (rl [8,19]) rfl rfl ?_
               refine pz_ (i := 9) (N := some 42) HT_ (rl [8,1,1,17]) rfl rfl ?_
               refine pz_ (i := 11) (N := some 44) HT_ (rl [8,1,1,1,1,15]) rfl rfl ?_
               refine pz_ (i := 12) (N := some 45) HT_ (rl [8,1,1,1,2,14]) rfl rfl ?_
               refine take_ (i := 8) (N := some 41) (v := ?_) (a' := ?_) (rl [10,1,2,14]) rfl rfl (take_ofW HT_.out HW_.out (by kernel_rfl)) (fun _ _ _ h => h) (Or.inl ⟨by rfl, ?_⟩) hHeld ?_ ?_
               rotate_left
               ·
                rintro w' ⟨s0, s1, s2, s3, s4, s5, s6, s7, s8, s9, s10, s11, s12, s13, s14, s15, s16, s17, s18, s19, s20, s21, s22, s23, s24, s25, s26, s27⟩
                go_simp
                with_reducible rfl
               rotate_left
               ·
                exact ap_
               refine take_ (i := 10) (N := some 43) (v := ?_) (a' := ?_) (rl [13,14]) rfl rfl (take_ofW HT_.out HW_.out (by kernel_rfl)) (fun _ _ _ h => h) (Or.inl ⟨by rfl, ?_⟩) hHeld ?_ ?_
               rotate_left
               ·
                rintro w' ⟨s0, s1, s2, s3, s4, s5, s6, s7, s8, s9, s10, s11, s12, s13, s14, s15, s16, s17, s18, s19, s20, s21, s22, s23, s24, s25, s26, s27⟩
                go_simp
                with_reducible rfl
               rotate_left
               ·
                exact ap_
               refine pz_ (i := 13) (N := some 46) HT_ (rl [14,13]) rfl rfl ?_
               refine pz_ (i := 14) (N := some 47) HT_ (rl [15,12]) rfl rfl ?_
               refine take_ (i := 15) (N := some 48) (v := ?_) (a' := ?_) (rl [16,11]) rfl rfl (take_ofW HT_.out HW_.out (by kernel_rfl)) (fun _ _ _ h => h) (Or.inl ⟨by rfl, ?_⟩) hHeld ?_ ?_
               rotate_left
               ·
                rintro w' ⟨s0, s1, s2, s3, s4, s5, s6, s7, s8, s9, s10, s11, s12, s13, s14, s15, s16, s17, s18, s19, s20, s21, s22, s23, s24, s25, s26, s27⟩
                go_simp
                with_reducible rfl
               rotate_left
               ·
                exact ap_
               refine pz_ (i := 16) (N := some 49) HT_ (rl [17,10]) rfl rfl ?_
               refine pz_ (i := 17) (N := some 50) HT_ (rl [18,9]) rfl rfl ?_
               refine pz_ (i := 18) (N := some 51) HT_ (rl [19,8]) rfl rfl ?_
               refine pz_ (i := 19) (N := some 52) HT_ (rl [20,7]) rfl rfl ?_
               refine pz_ (i := 20) (N := some 53) HT_ (rl [21,6]) rfl rfl ?_
               refine pz_ (i := 22) (N := some 55) HT_ (rl [21,1,1,4]) rfl rfl ?_
               refine take_ (i := 21) (N := some 54) (v := ?_) (a' := ?_) (rl [23,4]) rfl rfl (take_ofW HT_.out HW_.out (by kernel_rfl)) (fun _ _ _ h => h) (Or.inl ⟨by rfl, ?_⟩) hHeld ?_ ?_
               rotate_left
               ·
                rintro w' ⟨s0, s1, s2, s3, s4, s5, s6, s7, s8, s9, s10, s11, s12, s13, s14, s15, s16, s17, s18, s19, s20, s21, s22, s23, s24, s25, s26, s27⟩
                go_simp
                with_reducible rfl
               rotate_left
               ·
                exact ap_
               refine take_ (i := 23) (N := some 56) (v := ?_) (a' := ?_) (rl [24,3]) rfl rfl (take_ofW HT_.out HW_.out (by kernel_rfl)) (fun _ _ _ h => h) (Or.inl ⟨by rfl, ?_⟩) hHeld ?_ ?_
               rotate_left
               ·
                rintro w' ⟨s0, s1, s2, s3, s4, s5, s6, s7, s8, s9, s10, s11, s12, s13, s14, s15, s16, s17, s18, s19, s20, s21, s22, s23, s24, s25, s26, s27⟩
                go_simp
                with_reducible rfl
               rotate_left
               ·
                exact ap_
               refine one_ (i := 24) (N := some 57) (rl [25,2]) rfl rfl (one_of HT_.out (by kernel_rfl)) (by decide) (fun K hK => ?_)
               refine goes_ Try.func162 (by kernel_rfl) rfl #[.slice A0_6 l0_6.length c0_6, .int .i64 ((rd_T45 l0_5 x28_2).f0)] (by rfl) rfl rfl la_ ?_
               with_reducible refine (impl_LineAt.calls _ _ l0_6 ((rd_T45 l0_5 x28_2).f0) t311 _ ?side1 ?side2 A31.out).mono ?_
               (case side1 => exact qC (Kd.C_below HR0_6.out HB.out))
               (case side2 => exact HC0_6.out)
               rintro e w35 ⟨rfl, hb⟩
               refine ⟨_, rfl, ?_⟩
               replace HO_3 := am_ (Kd.R_below (qR HO_3) hb)
               replace BK302 := am_ (blk_below (qK BK302) hb)
               replace BK308 := am_ (blk_below (qK BK308) hb)
               replace HB := am_ (below_step (qB HB) hb)
               (try clear hb)
               refine hK.out _ _ (cw8 BK308.out (cw12 BK302.out ⟨(lb_ HB hw310_0 :), (lb_ HB hw310_1 :), (lb_ HB hw310_2 :), (lb_ HB hw310_3 :), (lb_ HB hw310_4 :), (lb_ HB hw310_5 :), (lb_ HB hw310_6 :), (lb_ HB hw310_7 :)⟩)) (fun hHeld => ?_)
               clear hK K
               refine norm_ (a' := ?_) ?_ ?_
               rotate_left
               ·
                show Act.put _ (some 57) _ = _
                exact ap_
               refine pz_ (i := 25) (N := some 58) HT_ (rl [26,1]) rfl rfl ?_
               refine pz_ (i := 26) (N := some 59) HT_ (rl [27]) rfl rfl ?_
               refine done_ (done_of HT_.out (by kernel_rfl)) ?_
               try go_wp2
               go_meet
               case rel => exact ⟨_, (decide (t311 ≥ 0)), eqq_, H', ⟨by have := HJ1.out; have := HK2.out; first | omega | exact Nat.le_refl _⟩, ⟨qR HO_3⟩, ⟨qK BK302⟩, ⟨qK BK308⟩, ⟨qB HB⟩⟩
             ·
              rw [if_neg c26] at H
              exact absurd H (by simp)
            ·
             rw [if_neg c25] at H
             exact absurd H (by simp)
           ·
            rw [if_neg c23] at H
            have c23b0 : decide (0 < x28_2) = false := decide_eq_false c23
            clear c23
            (first | rw [c23b0] | (simp only [i64_w, i32_w]; rw [c23b0]) | skip)
            obtain ⟨t312, A36, H⟩ := bd_ H
            have H' := Aside0.mk H
            clear H
            try go_wp2
            have n0_ : Aside0 (Kd.R (Kd.int .i64) 3 ((((((((w18.setCell ⟨gb308, 0, none⟩ (.int .i64 ((rd_T45 l0_5 x28_2).f0))).setCell ⟨gb308, 1, none⟩ (.string ((rd_T45 l0_5 x28_2).f1))).setCell ⟨gb308, 2, none⟩ (.int .i64 ((rd_T45 l0_5 x28_2).f2))).setCell ⟨gb308, 3, none⟩ (.int .i64 ((rd_T45 l0_5 x28_2).f3))).setCell ⟨gb308, 4, none⟩ (.int .i64 ((rd_T45 l0_5 x28_2).f4))).setCell ⟨gb308, 5, none⟩ (.string ((rd_T45 l0_5 x28_2).f5))).setCell ⟨gb308, 6, none⟩ (.int .i64 ((rd_T45 l0_5 x28_2).f6))).setCell ⟨gb308, 7, none⟩ (.int .i64 ((rd_T45 l0_5 x28_2).f7))) w.heap.size (fun _ => True) u3 x3_2) := ⟨by (with_reducible repeat (first | apply Kd.R_alloc | apply Kd.R_drewN | apply Kd.R_drew)); exact Kd.R_mono (Go.Proofs.YtahfemlfdpbkkaaV.R_far8 (g := gb308) (Kd.R_types HO_3.out BK308.out (by decide)) (fun _ hk => hk.2)) (fun _ hk => trivial)⟩
            have n1_ : Aside0 (((((((((w18.setCell ⟨gb308, 0, none⟩ (.int .i64 ((rd_T45 l0_5 x28_2).f0))).setCell ⟨gb308, 1, none⟩ (.string ((rd_T45 l0_5 x28_2).f1))).setCell ⟨gb308, 2, none⟩ (.int .i64 ((rd_T45 l0_5 x28_2).f2))).setCell ⟨gb308, 3, none⟩ (.int .i64 ((rd_T45 l0_5 x28_2).f3))).setCell ⟨gb308, 4, none⟩ (.int .i64 ((rd_T45 l0_5 x28_2).f4))).setCell ⟨gb308, 5, none⟩ (.string ((rd_T45 l0_5 x28_2).f5))).setCell ⟨gb308, 6, none⟩ (.int .i64 ((rd_T45 l0_5 x28_2).f6))).setCell ⟨gb308, 7, none⟩ (.int .i64 ((rd_T45 l0_5 x28_2).f7))).heap[gb302]? = some (.cells #[.int .i64 a0_0, .int .i64 a0_1, .int .i64 a0_2, .slice A0_3 l0_3.length c0_3, .bool a0_4, .slice (some ad307) l0_5.length c0_5, .slice A0_6 l0_6.length c0_6, .int .i64 a0_7, .int .i64 a0_8, .int .i64 a0_9, .int .i64 a0_10, .int .i64 a0_11] 67 (0, 0))) := ⟨by (with_reducible repeat (first | refine blk_drewN ?_ _ | refine blk_drew ?_ | refine blk_alloc ?_ _)); refine Go.Proofs.YtahfemlfdpbkkaaV.blk_far8 ?_ NB302_308.out; (with_reducible repeat (first | refine blk_drewN ?_ _ | refine blk_drew ?_ | refine blk_alloc ?_ _)); exact BK302.out⟩
            have n2_ : Aside0 (((((((((w18.setCell ⟨gb308, 0, none⟩ (.int .i64 ((rd_T45 l0_5 x28_2).f0))).setCell ⟨gb308, 1, none⟩ (.string ((rd_T45 l0_5 x28_2).f1))).setCell ⟨gb308, 2, none⟩ (.int .i64 ((rd_T45 l0_5 x28_2).f2))).setCell ⟨gb308, 3, none⟩ (.int .i64 ((rd_T45 l0_5 x28_2).f3))).setCell ⟨gb308, 4, none⟩ (.int .i64 ((rd_T45 l0_5 x28_2).f4))).setCell ⟨gb308, 5, none⟩ (.string ((rd_T45 l0_5 x28_2).f5))).setCell ⟨gb308, 6, none⟩ (.int .i64 ((rd_T45 l0_5 x28_2).f6))).setCell ⟨gb308, 7, none⟩ (.int .i64 ((rd_T45 l0_5 x28_2).f7))).heap[gb308]? = some (.cells #[.int .i64 ((rd_T45 l0_5 x28_2).f0), .string ((rd_T45 l0_5 x28_2).f1), .int .i64 ((rd_T45 l0_5 x28_2).f2), .int .i64 ((rd_T45 l0_5 x28_2).f3), .int .i64 ((rd_T45 l0_5 x28_2).f4), .string ((rd_T45 l0_5 x28_2).f5), .int .i64 ((rd_T45 l0_5 x28_2).f6), .int .i64 ((rd_T45 l0_5 x28_2).f7)] 45 (0, 0))) := ⟨by (with_reducible repeat (first | refine blk_drewN ?_ _ | refine blk_drew ?_ | refine blk_alloc ?_ _)); refine Go.Proofs.YtahfemlfdpbkkaaV.blk_all8 (show _ = some (Go.Obj.cells #[.int .i64 0, .string (⟨#[]⟩ : ByteArray), .int .i64 0, .int .i64 0, .int .i64 0, .string (⟨#[]⟩ : ByteArray), .int .i64 0, .int .i64 0] _ (0, 0)) from ?_); (with_reducible repeat (first | refine blk_drewN ?_ _ | refine blk_drew ?_ | refine blk_alloc ?_ _)); exact BK308.out⟩
            have n3_ : Aside0 (Below w.heap.size w ((((((((w18.setCell ⟨gb308, 0, none⟩ (.int .i64 ((rd_T45 l0_5 x28_2).f0))).setCell ⟨gb308, 1, none⟩ (.string ((rd_T45 l0_5 x28_2).f1))).setCell ⟨gb308, 2, none⟩ (.int .i64 ((rd_T45 l0_5 x28_2).f2))).setCell ⟨gb308, 3, none⟩ (.int .i64 ((rd_T45 l0_5 x28_2).f3))).setCell ⟨gb308, 4, none⟩ (.int .i64 ((rd_T45 l0_5 x28_2).f4))).setCell ⟨gb308, 5, none⟩ (.string ((rd_T45 l0_5 x28_2).f5))).setCell ⟨gb308, 6, none⟩ (.int .i64 ((rd_T45 l0_5 x28_2).f6))).setCell ⟨gb308, 7, none⟩ (.int .i64 ((rd_T45 l0_5 x28_2).f7)))) := ⟨qB HB⟩
            generalize ((((((((w18.setCell ⟨gb308, 0, none⟩ (.int .i64 ((rd_T45 l0_5 x28_2).f0))).setCell ⟨gb308, 1, none⟩ (.string ((rd_T45 l0_5 x28_2).f1))).setCell ⟨gb308, 2, none⟩ (.int .i64 ((rd_T45 l0_5 x28_2).f2))).setCell ⟨gb308, 3, none⟩ (.int .i64 ((rd_T45 l0_5 x28_2).f3))).setCell ⟨gb308, 4, none⟩ (.int .i64 ((rd_T45 l0_5 x28_2).f4))).setCell ⟨gb308, 5, none⟩ (.string ((rd_T45 l0_5 x28_2).f5))).setCell ⟨gb308, 6, none⟩ (.int .i64 ((rd_T45 l0_5 x28_2).f6))).setCell ⟨gb308, 7, none⟩ (.int .i64 ((rd_T45 l0_5 x28_2).f7))) = w37 at n0_ n1_ n2_ n3_ ⊢
            have HO_3 := n0_
            have BK302 := n1_
            have BK308 := n2_
            have HB := n3_
            clear n0_ n1_ n2_ n3_
            replace HO_3 := am_ (Kd.R_drew HO_3.out)
            replace BK302 := am_ (blk_drew BK302.out)
            replace BK308 := am_ (blk_drew BK308.out)
            replace HB := am_ (below_drew1 HB.out)
            refine start_ (n := 27) (S := fun w' => w'.cell? ⟨gb308, 0, none⟩ = some (.int .i64 ((rd_T45 l0_5 x28_2).f0)) ∧ w'.cell? ⟨gb308, 1, none⟩ = some (.string ((rd_T45 l0_5 x28_2).f1)) ∧ w'.cell? ⟨gb308, 2, none⟩ = some (.int .i64 ((rd_T45 l0_5 x28_2).f2)) ∧ w'.cell? ⟨gb308, 3, none⟩ = some (.int .i64 ((rd_T45 l0_5 x28_2).f3)) ∧ w'.cell? ⟨gb308, 4, none⟩ = some (.int .i64 ((rd_T45 l0_5 x28_2).f4)) ∧ w'.cell? ⟨gb308, 5, none⟩ = some (.string ((rd_T45 l0_5 x28_2).f5)) ∧ w'.cell? ⟨gb308, 6, none⟩ = some (.int .i64 ((rd_T45 l0_5 x28_2).f6)) ∧ w'.cell? ⟨gb308, 7, none⟩ = some (.int .i64 ((rd_T45 l0_5 x28_2).f7)) ∧ w'.cell? ⟨gb302, 0, none⟩ = some (.int .i64 a0_0) ∧ w'.cell? ⟨gb302, 1, none⟩ = some (.int .i64 a0_1) ∧ w'.cell? ⟨gb302, 2, none⟩ = some (.int .i64 a0_2) ∧ w'.cell? ⟨gb302, 3, none⟩ = some (.slice A0_3 l0_3.length c0_3) ∧ w'.cell? ⟨gb302, 4, none⟩ = some (.bool a0_4) ∧ w'.cell? ⟨gb302, 5, none⟩ = some (.slice (some ad307) l0_5.length c0_5) ∧ w'.cell? ⟨gb302, 6, none⟩ = some (.slice A0_6 l0_6.length c0_6) ∧ w'.cell? ⟨gb302, 7, none⟩ = some (.int .i64 a0_7) ∧ w'.cell? ⟨gb302, 8, none⟩ = some (.int .i64 a0_8) ∧ w'.cell? ⟨gb302, 9, none⟩ = some (.int .i64 a0_9) ∧ w'.cell? ⟨gb302, 10, none⟩ = some (.int .i64 a0_10) ∧ w'.cell? ⟨gb302, 11, none⟩ = some (.int .i64 a0_11)) (ds := []) (rl [0,27]) (by kernel_rfl) rfl rfl (cw8 BK308.out (cz12 BK302.out)) (fun hHeld => ?_); refine with_tabW impl_listsOk.tab7 impl_listsOk.bits7 (fun HT_ HW_ => ?_)
            generalize w37.drew = w38 at HO_3 BK302 BK308 HB hHeld ⊢
            refine take_ (i := 0) (N := some 33) (v := ?_) (a' := ?_) (rl [1,26]) rfl rfl (take_ofW HT_.out HW_.out (by kernel_rfl)) (fun _ _ _ h => h) (Or.inl ⟨by rfl, ?_⟩) hHeld ?_ ?_
            rotate_left
            ·
             rintro w' ⟨s0, s1, s2, s3, s4, s5, s6, s7, s8, s9, s10, s11, s12, s13, s14, s15, s16, s17, s18, s19⟩
             go_simp
             with_reducible rfl
            rotate_left
            ·
             exact ap_
            refine one_ (i := 1) (N := some 34) (rl [2,25]) rfl rfl (one_of HT_.out (by kernel_rfl)) (by decide) (fun K hK => ?_)
            refine goes_ Try.func79 (by kernel_rfl) rfl #[.agg #[.int .i64 ((rd_T45 l0_5 x28_2).f0), .string ((rd_T45 l0_5 x28_2).f1), .int .i64 ((rd_T45 l0_5 x28_2).f2), .int .i64 ((rd_T45 l0_5 x28_2).f3), .int .i64 ((rd_T45 l0_5 x28_2).f4), .string ((rd_T45 l0_5 x28_2).f5), .int .i64 ((rd_T45 l0_5 x28_2).f6), .int .i64 ((rd_T45 l0_5 x28_2).f7)]] (by rfl) rfl rfl la_ ?_
            with_reducible refine (impl_AskerOk.calls k2 ((rd_T45 l0_5 x28_2).f0) ((rd_T45 l0_5 x28_2).f1) ((rd_T45 l0_5 x28_2).f2) ((rd_T45 l0_5 x28_2).f3) ((rd_T45 l0_5 x28_2).f4) ((rd_T45 l0_5 x28_2).f5) ((rd_T45 l0_5 x28_2).f6) ((rd_T45 l0_5 x28_2).f7) true _ A21.out).mono ?_
            rintro e w39 ⟨rfl, hb⟩
            refine ⟨_, rfl, ?_⟩
            replace HO_3 := am_ (Kd.R_below (qR HO_3) hb)
            replace BK302 := am_ (blk_below (qK BK302) hb)
            replace BK308 := am_ (blk_below (qK BK308) hb)
            replace HB := am_ (below_step (qB HB) hb)
            (try clear hb)
            refine hK.out _ _ (cw8 BK308.out (cz12 BK302.out)) (fun hHeld => ?_)
            clear hK K
            refine norm_ (a' := ?_) ?_ ?_
            rotate_left
            ·
             show Act.put _ (some 34) _ = _
             exact ap_
            refine pz_ (i := 2) (N := some 35) HT_ (rl [3,24]) rfl rfl ?_
            refine pz_ (i := 3) (N := some 36) HT_ (rl [4,23]) rfl rfl ?_
            refine pz_ (i := 4) (N := some 37) HT_ (rl [5,22]) rfl rfl ?_
            refine pz_ (i := 5) (N := some 38) HT_ (rl [6,21]) rfl rfl ?_
            refine pz_ (i := 6) (N := some 39) HT_ (rl [7,20]) rfl rfl ?_
            refine pu_ (i := 7) (N := some 40) HT_ (rl [8,19]) rfl rfl ?_
            refine pu_ (i := 8) (N := some 41) HT_ (rl [9,18]) rfl rfl ?_
            refine pu_ (i := 9) (N := some 42) HT_ (rl [10,17]) rfl rfl ?_
            refine pu_ (i := 10) (N := some 43) HT_ (rl [11,16]) rfl rfl ?_
            refine pu_ (i := 11) (N := some 44) HT_ (rl [12,15]) rfl rfl ?_
            refine pu_ (i := 12) (N := some 45) HT_ (rl [13,14]) rfl rfl ?_
            refine pu_ (i := 13) (N := some 46) HT_ (rl [14,13]) rfl rfl ?_
            refine pu_ (i := 14) (N := some 47) HT_ (rl [15,12]) rfl rfl ?_
            refine pu_ (i := 15) (N := some 48) HT_ (rl [16,11]) rfl rfl ?_
            refine pu_ (i := 16) (N := some 49) HT_ (rl [17,10]) rfl rfl ?_
            refine pz_ (i := 17) (N := some 50) HT_ (rl [18,9]) rfl rfl ?_
            refine pz_ (i := 18) (N := some 51) HT_ (rl [19,8]) rfl rfl ?_
            refine pz_ (i := 19) (N := some 52) HT_ (rl [20,7]) rfl rfl ?_
            refine pz_ (i := 20) (N := some 53) HT_ (rl [21,6]) rfl rfl ?_
            refine pz_ (i := 22) (N := some 55) HT_ (rl [21,1,1,4]) rfl rfl ?_
            refine take_ (i := 21) (N := some 54) (v := ?_) (a' := ?_) (rl [23,4]) rfl rfl (take_ofW HT_.out HW_.out (by kernel_rfl)) (fun _ _ _ h => h) (Or.inl ⟨by rfl, ?_⟩) hHeld ?_ ?_
            rotate_left
            ·
             rintro w' ⟨s0, s1, s2, s3, s4, s5, s6, s7, s8, s9, s10, s11, s12, s13, s14, s15, s16, s17, s18, s19⟩
             go_simp
             with_reducible rfl
            rotate_left
            ·
             exact ap_
            refine take_ (i := 23) (N := some 56) (v := ?_) (a' := ?_) (rl [24,3]) rfl rfl (take_ofW HT_.out HW_.out (by kernel_rfl)) (fun _ _ _ h => h) (Or.inl ⟨by rfl, ?_⟩) hHeld ?_ ?_
            rotate_left
            ·
             rintro w' ⟨s0, s1, s2, s3, s4, s5, s6, s7, s8, s9, s10, s11, s12, s13, s14, s15, s16, s17, s18, s19⟩
             go_simp
             with_reducible rfl
            rotate_left
            ·
             exact ap_
            refine one_ (i := 24) (N := some 57) (rl [25,2]) rfl rfl (one_of HT_.out (by kernel_rfl)) (by decide) (fun K hK => ?_)
            refine goes_ Try.func162 (by kernel_rfl) rfl #[.slice A0_6 l0_6.length c0_6, .int .i64 ((rd_T45 l0_5 x28_2).f0)] (by rfl) rfl rfl la_ ?_
            with_reducible refine (impl_LineAt.calls _ _ l0_6 ((rd_T45 l0_5 x28_2).f0) t312 _ ?side1 ?side2 A36.out).mono ?_
            (case side1 => exact qC (Kd.C_below HR0_6.out HB.out))
            (case side2 => exact HC0_6.out)
            rintro e w40 ⟨rfl, hb⟩
            refine ⟨_, rfl, ?_⟩
            replace HO_3 := am_ (Kd.R_below (qR HO_3) hb)
            replace BK302 := am_ (blk_below (qK BK302) hb)
            replace BK308 := am_ (blk_below (qK BK308) hb)
            replace HB := am_ (below_step (qB HB) hb)
            (try clear hb)
            refine hK.out _ _ (cw8 BK308.out (cz12 BK302.out)) (fun hHeld => ?_)
            clear hK K
            refine norm_ (a' := ?_) ?_ ?_
            rotate_left
            ·
             show Act.put _ (some 57) _ = _
             exact ap_
            refine pz_ (i := 25) (N := some 58) HT_ (rl [26,1]) rfl rfl ?_
            refine pz_ (i := 26) (N := some 59) HT_ (rl [27]) rfl rfl ?_
            refine done_ (done_of HT_.out (by kernel_rfl)) ?_
            try go_wp2
            go_meet
            case rel => exact ⟨_, (decide (t312 ≥ 0)), eqq_, H', ⟨by have := HJ1.out; have := HK2.out; first | omega | exact Nat.le_refl _⟩, ⟨qR HO_3⟩, ⟨qK BK302⟩, ⟨qK BK308⟩, ⟨qB HB⟩⟩
          ·
           replace c22 := Bool.eq_false_iff.mpr c22
           subst c22
           rw [if_neg (show ¬ (false = true) by decide)] at H
           have H' := Aside0.mk H
           clear H
           try go_wp2
           have n0_ : Aside0 (Kd.R (Kd.int .i64) 3 ((((((((w18.setCell ⟨gb308, 0, none⟩ (.int .i64 ((rd_T45 l0_5 x28_2).f0))).setCell ⟨gb308, 1, none⟩ (.string ((rd_T45 l0_5 x28_2).f1))).setCell ⟨gb308, 2, none⟩ (.int .i64 ((rd_T45 l0_5 x28_2).f2))).setCell ⟨gb308, 3, none⟩ (.int .i64 ((rd_T45 l0_5 x28_2).f3))).setCell ⟨gb308, 4, none⟩ (.int .i64 ((rd_T45 l0_5 x28_2).f4))).setCell ⟨gb308, 5, none⟩ (.string ((rd_T45 l0_5 x28_2).f5))).setCell ⟨gb308, 6, none⟩ (.int .i64 ((rd_T45 l0_5 x28_2).f6))).setCell ⟨gb308, 7, none⟩ (.int .i64 ((rd_T45 l0_5 x28_2).f7))) w.heap.size (fun _ => True) u3 x3_2) := ⟨by (with_reducible repeat (first | apply Kd.R_alloc | apply Kd.R_drewN | apply Kd.R_drew)); exact Kd.R_mono (Go.Proofs.YtahfemlfdpbkkaaV.R_far8 (g := gb308) (Kd.R_types HO_3.out BK308.out (by decide)) (fun _ hk => hk.2)) (fun _ hk => trivial)⟩
           have n1_ : Aside0 (((((((((w18.setCell ⟨gb308, 0, none⟩ (.int .i64 ((rd_T45 l0_5 x28_2).f0))).setCell ⟨gb308, 1, none⟩ (.string ((rd_T45 l0_5 x28_2).f1))).setCell ⟨gb308, 2, none⟩ (.int .i64 ((rd_T45 l0_5 x28_2).f2))).setCell ⟨gb308, 3, none⟩ (.int .i64 ((rd_T45 l0_5 x28_2).f3))).setCell ⟨gb308, 4, none⟩ (.int .i64 ((rd_T45 l0_5 x28_2).f4))).setCell ⟨gb308, 5, none⟩ (.string ((rd_T45 l0_5 x28_2).f5))).setCell ⟨gb308, 6, none⟩ (.int .i64 ((rd_T45 l0_5 x28_2).f6))).setCell ⟨gb308, 7, none⟩ (.int .i64 ((rd_T45 l0_5 x28_2).f7))).heap[gb302]? = some (.cells #[.int .i64 a0_0, .int .i64 a0_1, .int .i64 a0_2, .slice A0_3 l0_3.length c0_3, .bool a0_4, .slice (some ad307) l0_5.length c0_5, .slice A0_6 l0_6.length c0_6, .int .i64 a0_7, .int .i64 a0_8, .int .i64 a0_9, .int .i64 a0_10, .int .i64 a0_11] 67 (0, 0))) := ⟨by (with_reducible repeat (first | refine blk_drewN ?_ _ | refine blk_drew ?_ | refine blk_alloc ?_ _)); refine Go.Proofs.YtahfemlfdpbkkaaV.blk_far8 ?_ NB302_308.out; (with_reducible repeat (first | refine blk_drewN ?_ _ | refine blk_drew ?_ | refine blk_alloc ?_ _)); exact BK302.out⟩
           have n2_ : Aside0 (((((((((w18.setCell ⟨gb308, 0, none⟩ (.int .i64 ((rd_T45 l0_5 x28_2).f0))).setCell ⟨gb308, 1, none⟩ (.string ((rd_T45 l0_5 x28_2).f1))).setCell ⟨gb308, 2, none⟩ (.int .i64 ((rd_T45 l0_5 x28_2).f2))).setCell ⟨gb308, 3, none⟩ (.int .i64 ((rd_T45 l0_5 x28_2).f3))).setCell ⟨gb308, 4, none⟩ (.int .i64 ((rd_T45 l0_5 x28_2).f4))).setCell ⟨gb308, 5, none⟩ (.string ((rd_T45 l0_5 x28_2).f5))).setCell ⟨gb308, 6, none⟩ (.int .i64 ((rd_T45 l0_5 x28_2).f6))).setCell ⟨gb308, 7, none⟩ (.int .i64 ((rd_T45 l0_5 x28_2).f7))).heap[gb308]? = some (.cells #[.int .i64 ((rd_T45 l0_5 x28_2).f0), .string ((rd_T45 l0_5 x28_2).f1), .int .i64 ((rd_T45 l0_5 x28_2).f2), .int .i64 ((rd_T45 l0_5 x28_2).f3), .int .i64 ((rd_T45 l0_5 x28_2).f4), .string ((rd_T45 l0_5 x28_2).f5), .int .i64 ((rd_T45 l0_5 x28_2).f6), .int .i64 ((rd_T45 l0_5 x28_2).f7)] 45 (0, 0))) := ⟨by (with_reducible repeat (first | refine blk_drewN ?_ _ | refine blk_drew ?_ | refine blk_alloc ?_ _)); refine Go.Proofs.YtahfemlfdpbkkaaV.blk_all8 (show _ = some (Go.Obj.cells #[.int .i64 0, .string (⟨#[]⟩ : ByteArray), .int .i64 0, .int .i64 0, .int .i64 0, .string (⟨#[]⟩ : ByteArray), .int .i64 0, .int .i64 0] _ (0, 0)) from ?_); (with_reducible repeat (first | refine blk_drewN ?_ _ | refine blk_drew ?_ | refine blk_alloc ?_ _)); exact BK308.out⟩
           have n3_ : Aside0 (Below w.heap.size w ((((((((w18.setCell ⟨gb308, 0, none⟩ (.int .i64 ((rd_T45 l0_5 x28_2).f0))).setCell ⟨gb308, 1, none⟩ (.string ((rd_T45 l0_5 x28_2).f1))).setCell ⟨gb308, 2, none⟩ (.int .i64 ((rd_T45 l0_5 x28_2).f2))).setCell ⟨gb308, 3, none⟩ (.int .i64 ((rd_T45 l0_5 x28_2).f3))).setCell ⟨gb308, 4, none⟩ (.int .i64 ((rd_T45 l0_5 x28_2).f4))).setCell ⟨gb308, 5, none⟩ (.string ((rd_T45 l0_5 x28_2).f5))).setCell ⟨gb308, 6, none⟩ (.int .i64 ((rd_T45 l0_5 x28_2).f6))).setCell ⟨gb308, 7, none⟩ (.int .i64 ((rd_T45 l0_5 x28_2).f7)))) := ⟨qB HB⟩
           generalize ((((((((w18.setCell ⟨gb308, 0, none⟩ (.int .i64 ((rd_T45 l0_5 x28_2).f0))).setCell ⟨gb308, 1, none⟩ (.string ((rd_T45 l0_5 x28_2).f1))).setCell ⟨gb308, 2, none⟩ (.int .i64 ((rd_T45 l0_5 x28_2).f2))).setCell ⟨gb308, 3, none⟩ (.int .i64 ((rd_T45 l0_5 x28_2).f3))).setCell ⟨gb308, 4, none⟩ (.int .i64 ((rd_T45 l0_5 x28_2).f4))).setCell ⟨gb308, 5, none⟩ (.string ((rd_T45 l0_5 x28_2).f5))).setCell ⟨gb308, 6, none⟩ (.int .i64 ((rd_T45 l0_5 x28_2).f6))).setCell ⟨gb308, 7, none⟩ (.int .i64 ((rd_T45 l0_5 x28_2).f7))) = w41 at n0_ n1_ n2_ n3_ ⊢
           have HO_3 := n0_
           have BK302 := n1_
           have BK308 := n2_
           have HB := n3_
           clear n0_ n1_ n2_ n3_
           replace HO_3 := am_ (Kd.R_drew HO_3.out)
           replace BK302 := am_ (blk_drew BK302.out)
           replace BK308 := am_ (blk_drew BK308.out)
           replace HB := am_ (below_drew1 HB.out)
           refine start_ (n := 27) (S := fun w' => w'.cell? ⟨gb308, 0, none⟩ = some (.int .i64 ((rd_T45 l0_5 x28_2).f0)) ∧ w'.cell? ⟨gb308, 1, none⟩ = some (.string ((rd_T45 l0_5 x28_2).f1)) ∧ w'.cell? ⟨gb308, 2, none⟩ = some (.int .i64 ((rd_T45 l0_5 x28_2).f2)) ∧ w'.cell? ⟨gb308, 3, none⟩ = some (.int .i64 ((rd_T45 l0_5 x28_2).f3)) ∧ w'.cell? ⟨gb308, 4, none⟩ = some (.int .i64 ((rd_T45 l0_5 x28_2).f4)) ∧ w'.cell? ⟨gb308, 5, none⟩ = some (.string ((rd_T45 l0_5 x28_2).f5)) ∧ w'.cell? ⟨gb308, 6, none⟩ = some (.int .i64 ((rd_T45 l0_5 x28_2).f6)) ∧ w'.cell? ⟨gb308, 7, none⟩ = some (.int .i64 ((rd_T45 l0_5 x28_2).f7))) (ds := []) (rl [0,27]) (by kernel_rfl) rfl rfl (cz8 BK308.out) (fun hHeld => ?_); refine with_tabW impl_listsOk.tab7 impl_listsOk.bits7 (fun HT_ HW_ => ?_)
           generalize w41.drew = w42 at HO_3 BK302 BK308 HB hHeld ⊢
           refine take_ (i := 0) (N := some 33) (v := ?_) (a' := ?_) (rl [1,26]) rfl rfl (take_ofW HT_.out HW_.out (by kernel_rfl)) (fun _ _ _ h => h) (Or.inl ⟨by rfl, ?_⟩) hHeld ?_ ?_
           rotate_left
           ·
            rintro w' ⟨s0, s1, s2, s3, s4, s5, s6, s7⟩
            go_simp
            with_reducible rfl
           rotate_left
           ·
            exact ap_
           refine one_ (i := 1) (N := some 34) (rl [2,25]) rfl rfl (one_of HT_.out (by kernel_rfl)) (by decide) (fun K hK => ?_)
           refine goes_ Try.func79 (by kernel_rfl) rfl #[.agg #[.int .i64 ((rd_T45 l0_5 x28_2).f0), .string ((rd_T45 l0_5 x28_2).f1), .int .i64 ((rd_T45 l0_5 x28_2).f2), .int .i64 ((rd_T45 l0_5 x28_2).f3), .int .i64 ((rd_T45 l0_5 x28_2).f4), .string ((rd_T45 l0_5 x28_2).f5), .int .i64 ((rd_T45 l0_5 x28_2).f6), .int .i64 ((rd_T45 l0_5 x28_2).f7)]] (by rfl) rfl rfl la_ ?_
           with_reducible refine (impl_AskerOk.calls k2 ((rd_T45 l0_5 x28_2).f0) ((rd_T45 l0_5 x28_2).f1) ((rd_T45 l0_5 x28_2).f2) ((rd_T45 l0_5 x28_2).f3) ((rd_T45 l0_5 x28_2).f4) ((rd_T45 l0_5 x28_2).f5) ((rd_T45 l0_5 x28_2).f6) ((rd_T45 l0_5 x28_2).f7) false _ A21.out).mono ?_
           rintro e w43 ⟨rfl, hb⟩
           refine ⟨_, rfl, ?_⟩
           replace HO_3 := am_ (Kd.R_below (qR HO_3) hb)
           replace BK302 := am_ (blk_below (qK BK302) hb)
           replace BK308 := am_ (blk_below (qK BK308) hb)
           replace HB := am_ (below_step (qB HB) hb)
           (try clear hb)
           refine hK.out _ _ (cz8 BK308.out) (fun hHeld => ?_)
           clear hK K
           refine norm_ (a' := ?_) ?_ ?_
           rotate_left
           ·
            show Act.put _ (some 34) _ = _
            exact ap_
           refine pz_ (i := 2) (N := some 35) HT_ (rl [3,24]) rfl rfl ?_
           refine pz_ (i := 3) (N := some 36) HT_ (rl [4,23]) rfl rfl ?_
           refine pu_ (i := 4) (N := some 37) HT_ (rl [5,22]) rfl rfl ?_
           refine pu_ (i := 5) (N := some 38) HT_ (rl [6,21]) rfl rfl ?_
           refine pu_ (i := 6) (N := some 39) HT_ (rl [7,20]) rfl rfl ?_
           refine pu_ (i := 7) (N := some 40) HT_ (rl [8,19]) rfl rfl ?_
           refine pu_ (i := 8) (N := some 41) HT_ (rl [9,18]) rfl rfl ?_
           refine pu_ (i := 9) (N := some 42) HT_ (rl [10,17]) rfl rfl ?_
           refine pu_ (i := 10) (N := some 43) HT_ (rl [11,16]) rfl rfl ?_
           refine pu_ (i := 11) (N := some 44) HT_ (rl [12,15]) rfl rfl ?_
           refine pu_ (i := 12) (N := some 45) HT_ (rl [13,14]) rfl rfl ?_
           refine pu_ (i := 13) (N := some 46) HT_ (rl [14,13]) rfl rfl ?_
           refine pu_ (i := 14) (N := some 47) HT_ (rl [15,12]) rfl rfl ?_
           refine pu_ (i := 15) (N := some 48) HT_ (rl [16,11]) rfl rfl ?_
           refine pu_ (i := 16) (N := some 49) HT_ (rl [17,10]) rfl rfl ?_
           refine pu_ (i := 17) (N := some 50) HT_ (rl [18,9]) rfl rfl ?_
           refine pz_ (i := 18) (N := some 51) HT_ (rl [19,8]) rfl rfl ?_
           refine pz_ (i := 19) (N := some 52) HT_ (rl [20,7]) rfl rfl ?_
           refine pu_ (i := 20) (N := some 53) HT_ (rl [21,6]) rfl rfl ?_
           refine pu_ (i := 21) (N := some 54) HT_ (rl [22,5]) rfl rfl ?_
           refine pu_ (i := 22) (N := some 55) HT_ (rl [23,4]) rfl rfl ?_
           refine pu_ (i := 23) (N := some 56) HT_ (rl [24,3]) rfl rfl ?_
           refine pu_ (i := 24) (N := some 57) HT_ (rl [25,2]) rfl rfl ?_
           refine pu_ (i := 25) (N := some 58) HT_ (rl [26,1]) rfl rfl ?_
           refine pz_ (i := 26) (N := some 59) HT_ (rl [27]) rfl rfl ?_
           refine done_ (done_of HT_.out (by kernel_rfl)) ?_
           try go_wp2
           go_meet
           case rel => exact ⟨_, (true), eqq_, H', ⟨by have := HJ1.out; have := HK2.out; first | omega | exact Nat.le_refl _⟩, ⟨qR HO_3⟩, ⟨qK BK302⟩, ⟨qK BK308⟩, ⟨qB HB⟩⟩
         case rest =>
          clear HC17
          try clear c1
          try clear c2
          try clear p2
          try clear c7
          try clear c16
          try clear c22
          try clear c23
          try clear c23b0
          try clear c25
          try clear c26
          obtain ⟨kq, x59_16, rfl, HA, HJ16, HO_3, BK302, BK308, HB⟩ := hcut
          cases kq with
          | zero => exact absurd HA.out (by simp [impl_listsOk.j2])
          | succ kj16 =>
           have H := HA.out
           clear HA
           simp only [impl_listsOk.j2] at H
           by_cases c44 : x59_16 = true
           ·
            subst c44
            rw [if_pos rfl] at H
            obtain rfl := Option.some.inj H
            go_wp2
            go_ret
            exact ⟨by first | rfl | (simp [errW_none, errW_some] <;> rfl) | (simp [*, errW_none, errW_some] <;> rfl), qB HB⟩
           ·
            replace c44 := Bool.eq_false_iff.mpr c44
            subst c44
            rw [if_neg (show ¬ (false = true) by decide)] at H
            by_cases c45 : ((rd_T45 l0_5 x28_2).f2) = 2
            ·
             rw [if_pos c45] at H
             have c45b0 : (((rd_T45 l0_5 x28_2).f2) == 2) = true := beq_iff_eq.mpr c45
             have c45b1 : (((rd_T45 l0_5 x28_2).f2) != 2) = false := bne_eq_false_iff_eq.mpr c45
             clear c45
             by_cases c46 : ((rd_T45 l0_5 x28_2).f3) ≥ a0_7
             ·
              rw [if_pos c46] at H
              have c46b0 : decide (a0_7 ≤ ((rd_T45 l0_5 x28_2).f3)) = true := decide_eq_true c46
              clear c46
              obtain rfl := Option.some.inj H
              have hnb47 := NB308_302.out
              have hnc47 := NB302_308.out
              obtain ⟨z48_0, z48_1, z48_2, z48_3, z48_4, z48_5, z48_6, z48_7⟩ := cz8 BK308.out
              obtain ⟨f48_0, f48_1, f48_2, f48_3, f48_4, f48_5, f48_6, f48_7⟩ := fz8 BK308.out
              obtain ⟨z49_0, z49_1, z49_2, z49_3, z49_4, z49_5, z49_6, z49_7, z49_8, z49_9, z49_10, z49_11⟩ := cz12 BK302.out
              obtain ⟨f49_0, f49_1, f49_2, f49_3, f49_4, f49_5, f49_6, f49_7, f49_8, f49_9, f49_10, f49_11⟩ := fz12 BK302.out
              go_wp2
              go_ret
              exact ⟨by first | rfl | (simp [errW_none, errW_some] <;> rfl) | (simp [*, errW_none, errW_some] <;> rfl), qB HB⟩
             ·
              rw [if_neg c46] at H
              have c46b0 : decide (a0_7 ≤ ((rd_T45 l0_5 x28_2).f3)) = false := decide_eq_false c46
              clear c46
              obtain ⟨t313, A50, H⟩ := bd_ H
              have HC51 := Aside0.mk H
              clear H
              have hnb52 := NB308_302.out
              have hnc52 := NB302_308.out
              obtain ⟨z53_0, z53_1, z53_2, z53_3, z53_4, z53_5, z53_6, z53_7⟩ := cz8 BK308.out
              obtain ⟨f53_0, f53_1, f53_2, f53_3, f53_4, f53_5, f53_6, f53_7⟩ := fz8 BK308.out
              obtain ⟨z54_0, z54_1, z54_2, z54_3, z54_4, z54_5, z54_6, z54_7, z54_8, z54_9, z54_10, z54_11⟩ := cz12 BK302.out
              obtain ⟨f54_0, f54_1, f54_2, f54_3, f54_4, f54_5, f54_6, f54_7, f54_8, f54_9, f54_10, f54_11⟩ := fz12 BK302.out
              obtain ⟨Ao55, co55, eo55⟩ := Kd.R_slice HO_3.out
              subst eo55
              go_upto_if 73 with (first | (go_at_call 163; (with_reducible refine (slices_Contains_int.calls kj16 _ _ x3_2 ((rd_T45 l0_5 x28_2).f3) t313 _ ?side1 ?side2 A50.out).mono ?_); (case side1 => exact qC ((Kd.R_reads' HO_3.out).2.2)); (case side2 => exact (Kd.R_reads' HO_3.out).2.1); rintro e w' ⟨rfl, ⟨nd, rfl⟩⟩))
              (try simp only [Act.put, List.setIfInBounds_toArray, List.set_cons_zero, List.set_cons_succ])
              (try (rw [drewN_self wc]; generalize hq_ : World.drewN wc _ = wc; have n0_ : Aside0 (Kd.R (Kd.int .i64) 3 wc w.heap.size (fun _ => True) (.slice Ao55 x3_2.length co55) x3_2) := ⟨by rw [← hq_]; exact (qR HO_3)⟩; have n1_ : Aside0 (wc.heap[gb302]? = some (.cells #[.int .i64 a0_0, .int .i64 a0_1, .int .i64 a0_2, .slice A0_3 l0_3.length c0_3, .bool a0_4, .slice (some ad307) l0_5.length c0_5, .slice A0_6 l0_6.length c0_6, .int .i64 a0_7, .int .i64 a0_8, .int .i64 a0_9, .int .i64 a0_10, .int .i64 a0_11] 67 (0, 0))) := ⟨by rw [← hq_]; exact (qK BK302)⟩; have n2_ : Aside0 (wc.heap[gb308]? = some (.cells #[.int .i64 ((rd_T45 l0_5 x28_2).f0), .string ((rd_T45 l0_5 x28_2).f1), .int .i64 ((rd_T45 l0_5 x28_2).f2), .int .i64 ((rd_T45 l0_5 x28_2).f3), .int .i64 ((rd_T45 l0_5 x28_2).f4), .string ((rd_T45 l0_5 x28_2).f5), .int .i64 ((rd_T45 l0_5 x28_2).f6), .int .i64 ((rd_T45 l0_5 x28_2).f7)] 45 (0, 0))) := ⟨by rw [← hq_]; exact (qK BK308)⟩; have n3_ : Aside0 (Below w.heap.size w wc) := ⟨by rw [← hq_]; exact (qB HB)⟩; clear HO_3 BK302 BK308 HB hq_; have HO_3 := n0_; have BK302 := n1_; have BK308 := n2_; have HB := n3_; clear n0_ n1_ n2_ n3_))
              have H := HC51.out
              clear HC51
              by_cases c56 : t313 = true
              ·
               subst c56
               rw [if_pos rfl] at H
               obtain rfl := Option.some.inj H
               go_wp2
               go_ret
               exact ⟨by first | rfl | (simp [errW_none, errW_some] <;> rfl) | (simp [*, errW_none, errW_some] <;> rfl), qB HB⟩
              ·
               replace c56 := Bool.eq_false_iff.mpr c56
               subst c56
               rw [if_neg (show ¬ (false = true) by decide)] at H
               by_cases c57 : x3_2.length < 17592186044416
               ·
                rw [if_pos c57] at H
                have LMc57 := Aside0.mk c57
                clear c57
                obtain ⟨y314, hy314⟩ : ∃ y_ : List Int, y_ = (x3_2 ++ [((rd_T45 l0_5 x28_2).f3)]) := ⟨_, rfl⟩
                rw [← hy314] at H
                have Ny314 := Aside0.mk hy314
                clear hy314
                have H' := Aside0.mk H
                clear H
                have hnb58 := NB308_302.out
                have hnc58 := NB302_308.out
                obtain ⟨z59_0, z59_1, z59_2, z59_3, z59_4, z59_5, z59_6, z59_7⟩ := cz8 BK308.out
                obtain ⟨f59_0, f59_1, f59_2, f59_3, f59_4, f59_5, f59_6, f59_7⟩ := fz8 BK308.out
                go_wp2_with (first | ((with_reducible refine gate_builtin (b := .append) (xs := #[.tmp 74, .tmp 77]) rfl ?_); (try (refine gate_guard (by rfl) ?_; dsimp only)); at_builtin; refine Kd.R_append (Kd.int .i64) (w0 := w) w.heap.size rfl (.tmp 74) (.tmp 77) 93 3 (.int .i64 0) 8 rfl Try.underlying93 info3 rfl (by decide) (by omega) (.slice Ao55 x3_2.length co55) x3_2 ((rd_T45 l0_5 x28_2).f3) [.int .i64 ((rd_T45 l0_5 x28_2).f3)] (fun _ => True) (fun _ => False) rfl rfl ?aP (fun _ hk => hk.elim) ?aF ?aO ?aB ?aS ?aL ?_; (case aP => exact rfl); (case aB => exact (qB HB)); (case aF => exact (fun _ _ => trivial)); (case aO => exact (qR HO_3)); (case aS => exact (below_size (qB HB))); (case aL => have := LMc57.out; omega); intro v315 w60 ho hb hg hat; rw [← Ny314.out] at ho; replace BK302 := am_ (blk_grown (qK BK302) hg (Kd.R_ne HO_3.out BK302.out (by decide))); replace BK308 := am_ (blk_grown (qK BK308) hg (Kd.R_ne HO_3.out BK308.out (by decide))); replace HB := am_ (hb); have HO316 := am_ (ho); clear HO_3; clear ho hb hg hat))
                go_roundg kj16
                case measure => have := HJ1.out; have := HK2.out; have := HJ16.out; omega
                case rel => exact ⟨(y314), (wrap64 (x28_2 + 1)), eqq_, H', ⟨by have := HJ1.out; have := HK2.out; have := HJ16.out; omega⟩, ⟨qR HO316⟩, ⟨qK BK302⟩, ⟨qB HB⟩⟩
               ·
                rw [if_neg c57] at H
                exact absurd H (by simp)
            ·
             rw [if_neg c45] at H
             have c45b0 : (((rd_T45 l0_5 x28_2).f2) == 2) = false := beq_eq_false_iff_ne.mpr c45
             have c45b1 : (((rd_T45 l0_5 x28_2).f2) != 2) = true := bne_iff_ne.mpr c45
             have H' := Aside0.mk H
             clear H
             have hnb61 := NB308_302.out
             have hnc61 := NB302_308.out
             obtain ⟨z62_0, z62_1, z62_2, z62_3, z62_4, z62_5, z62_6, z62_7⟩ := cz8 BK308.out
             obtain ⟨f62_0, f62_1, f62_2, f62_3, f62_4, f62_5, f62_6, f62_7⟩ := fz8 BK308.out
             go_wp2
             go_roundg kj16
             case measure => have := HJ1.out; have := HK2.out; have := HJ16.out; omega
             case rel => exact ⟨(x3_2), (wrap64 (x28_2 + 1)), eqq_, H', ⟨by have := HJ1.out; have := HK2.out; have := HJ16.out; omega⟩, ⟨qR HO_3⟩, ⟨qK BK302⟩, ⟨qB HB⟩⟩
        ·
         rw [if_neg c16] at H
         exact absurd H (by simp)
       ·
        rw [if_neg c15] at H
        exact absurd H (by simp)
      ·
       rw [if_neg c14] at H
       have c14b0 : decide (x28_2 < (l0_5.length : Int)) = false := decide_eq_false c14
       clear c14
       have H' := Aside0.mk H
       clear H
       obtain ⟨z63_0, z63_1, z63_2, z63_3, z63_4, z63_5, z63_6, z63_7, z63_8, z63_9, z63_10, z63_11⟩ := cz12 BK302.out
       obtain ⟨f63_0, f63_1, f63_2, f63_3, f63_4, f63_5, f63_6, f63_7, f63_8, f63_9, f63_10, f63_11⟩ := fz12 BK302.out
       go_wp2
       go_loopg [83] k2 (fun kq v83 w' => ∃ (x83_3 : Int), v83 = .int .i64 x83_3 ∧ Aside0 (impl_listsOk.l1 kq l0_6 (l0_6.length : Int) x83_3 a0_0 a0_1 a0_2 l0_3 a0_4 l0_5 l0_6 a0_7 a0_8 a0_9 a0_10 a0_11 = some r) ∧ Aside0 (kq ≤ k2) ∧ Aside0 (w'.heap[gb302]? = some (.cells #[.int .i64 a0_0, .int .i64 a0_1, .int .i64 a0_2, (.slice A0_3 l0_3.length c0_3), .bool a0_4, (.slice A0_5 l0_5.length c0_5), (.slice A0_6 l0_6.length c0_6), .int .i64 a0_7, .int .i64 a0_8, .int .i64 a0_9, .int .i64 a0_10, .int .i64 a0_11] 67 (0, 0))) ∧ Aside0 (Below w.heap.size w w'))
       case atStart => exact ⟨(0), eqq_, H', ⟨Nat.le_refl _⟩, ⟨qK BK302⟩, ⟨qB HB⟩⟩
       case round =>
        clear H'
        try clear c1
        try clear c2
        try clear p2
        try clear c4
        try clear c5
        try clear c6
        try clear p6
        try clear c7
        try clear c14
        try clear c14b0
        try clear c15
        try clear c16
        try clear c22
        try clear c23
        try clear c23b0
        try clear c25
        try clear c26
        try clear c44
        try clear c45
        try clear c45b0
        try clear c45b1
        try clear c46
        try clear c46b0
        try clear c47
        try clear c52
        try clear c56
        try clear c57
        try clear c58
        try clear c61
        (try clear z48_0 z48_1 z48_2 z48_3 z48_4 z48_5 z48_6 z48_7)
        (try clear z49_0 z49_1 z49_10 z49_11 z49_2 z49_3 z49_4 z49_5 z49_6 z49_7 z49_8 z49_9)
        (try clear z53_0 z53_1 z53_2 z53_3 z53_4 z53_5 z53_6 z53_7)
        (try clear z54_0 z54_1 z54_10 z54_11 z54_2 z54_3 z54_4 z54_5 z54_6 z54_7 z54_8 z54_9)
        (try clear z59_0 z59_1 z59_2 z59_3 z59_4 z59_5 z59_6 z59_7)
        (try clear z62_0 z62_1 z62_2 z62_3 z62_4 z62_5 z62_6 z62_7)
        (try clear z63_0 z63_1 z63_10 z63_11 z63_2 z63_3 z63_4 z63_5 z63_6 z63_7 z63_8 z63_9)
        (try clear f48_0 f48_1 f48_2 f48_3 f48_4 f48_5 f48_6 f48_7)
        (try clear f49_0 f49_1 f49_10 f49_11 f49_2 f49_3 f49_4 f49_5 f49_6 f49_7 f49_8 f49_9)
        (try clear f53_0 f53_1 f53_2 f53_3 f53_4 f53_5 f53_6 f53_7)
        (try clear f54_0 f54_1 f54_10 f54_11 f54_2 f54_3 f54_4 f54_5 f54_6 f54_7 f54_8 f54_9)
        (try clear f59_0 f59_1 f59_2 f59_3 f59_4 f59_5 f59_6 f59_7)
        (try clear f62_0 f62_1 f62_2 f62_3 f62_4 f62_5 f62_6 f62_7)
        (try clear f63_0 f63_1 f63_10 f63_11 f63_2 f63_3 f63_4 f63_5 f63_6 f63_7 f63_8 f63_9)
        try clear p2
        obtain ⟨x83_3, rfl, HA, HK3, BK302, HB⟩ := hrel
        cases gk with
        | zero => exact absurd HA.out (by simp [impl_listsOk.l1])
        | succ k3 =>
         have H := HA.out
         clear HA
         simp only [impl_listsOk.l1] at H
         by_cases c64 : x83_3 < (l0_6.length : Int)
         ·
          rw [if_pos c64] at H
          have c64b0 : decide (x83_3 < (l0_6.length : Int)) = true := decide_eq_true c64
          clear c64
          by_cases c65 : 0 ≤ x83_3
          ·
           rw [if_pos c65] at H
           have c65b0 : decide (0 ≤ x83_3) = true := decide_eq_true c65
           clear c65
           by_cases c66 : x83_3 < (l0_6.length : Int)
           ·
            rw [if_pos c66] at H
            have c66b0 : decide (x83_3 < (l0_6.length : Int)) = true := decide_eq_true c66
            clear c66
            obtain ⟨t319, A67, H⟩ := bd_ H
            by_cases c68 : t319 = true
            ·
             subst c68
             rw [if_pos rfl] at H
             by_cases c69 : x83_3 > 0
             ·
              rw [if_pos c69] at H
              have c69b0 : decide (0 < x83_3) = true := decide_eq_true c69
              clear c69
              obtain ⟨ji70, hji70⟩ : ∃ j_ : Int, (wrap64 (x83_3 - 1)) = j_ := ⟨_, rfl⟩
              replace H : (if 0 ≤ (ji70) then (if (ji70) < (l0_6.length : Int) then (if ((rd_T46 l0_6 x83_3).f0) ≤ ((rd_T46 l0_6 (ji70)).f0) then (some false) else (impl_listsOk.l1 k3 l0_6 (l0_6.length : Int) (wrap64 (x83_3 + 1)) a0_0 a0_1 a0_2 l0_3 a0_4 l0_5 l0_6 a0_7 a0_8 a0_9 a0_10 a0_11)) else (none)) else (none)) = some r := by first | (rw [hji70] at H; exact H) | (simp only [hji70] at H ⊢; exact H)
              (try rw [hji70] at A67)
              have hji70w : (IntKind.i64.wrap (x83_3 - 1)) = ji70 := (i64_w _).trans hji70
              by_cases c71 : 0 ≤ (ji70)
              ·
               rw [if_pos c71] at H
               have c71b0 : decide (0 ≤ (ji70)) = true := decide_eq_true c71
               clear c71
               by_cases c72 : (ji70) < (l0_6.length : Int)
               ·
                rw [if_pos c72] at H
                have c72b0 : decide ((ji70) < (l0_6.length : Int)) = true := decide_eq_true c72
                clear c72
                have HC73 := Aside0.mk H
                clear H
                have p317 : 0 ≤ (x83_3 : Int) := od_
                have q317 : x83_3 < (l0_6.length : Int) := od_
                obtain ⟨ad317, e317, hx317_0, hx317_1, hx317_2, hx317_3, hx317_4, hx317_5, hx317_6⟩ := at_T46 HR0_6.out x83_3 p317 q317
                cases e317
                replace hx317_0 := lb_ HB hx317_0
                replace hx317_1 := lb_ HB hx317_1
                replace hx317_2 := lb_ HB hx317_2
                replace hx317_3 := lb_ HB hx317_3
                replace hx317_4 := lb_ HB hx317_4
                replace hx317_5 := lb_ HB hx317_5
                replace hx317_6 := lb_ HB hx317_6
                replace p317 := eq_true p317
                replace q317 := eq_true q317
                try go_wp2_with (first | ((with_reducible refine gate_dst (N := 7) rfl ?_); (try (refine gate_guard (by rfl) ?_; dsimp only)); refine box_event ?hg (N := 7) ?hd (cs := #[.int .i64 0, .string (⟨#[]⟩ : ByteArray), .int .i64 0, .int .i64 0, .int .i64 0, .int .i64 0, .int .i64 0]) (t := 46) ?hr ?_; (case hd => rfl); (case hg => rfl); (case hr => first | (go_simp; done) | (go_simp; rfl)); intro gb318 hg w74 hbox hb; have BK318 := am_ (hbox); have GW318 := am_ ((gG_ hg (qB HB))); have IGW318 := gI_ GW318; have GE318 := am_ ((gG_ hg (qB HB))); have IGE318 := gI_ GE318; replace HB := am_ (below_step (qB HB) hb); have NB302_318 := am_ ((gN_ hg (qK BK302))); have NB318_302 := am_ ((gM_ hg (qK BK302))); replace BK302 := am_ (blk_below (qK BK302) hb); clear hb hbox hg; have hnb75 := NB318_302.out; have hnc75 := NB302_318.out; obtain ⟨z76_0, z76_1, z76_2, z76_3, z76_4, z76_5, z76_6⟩ := cz7 BK318.out; obtain ⟨f76_0, f76_1, f76_2, f76_3, f76_4, f76_5, f76_6⟩ := fz7 BK318.out))
                have n0_ : Aside0 ((((((((w74.setCell ⟨gb318, 0, none⟩ (.int .i64 ((rd_T46 l0_6 x83_3).f0))).setCell ⟨gb318, 1, none⟩ (.string ((rd_T46 l0_6 x83_3).f1))).setCell ⟨gb318, 2, none⟩ (.int .i64 ((rd_T46 l0_6 x83_3).f2))).setCell ⟨gb318, 3, none⟩ (.int .i64 ((rd_T46 l0_6 x83_3).f3))).setCell ⟨gb318, 4, none⟩ (.int .i64 ((rd_T46 l0_6 x83_3).f4))).setCell ⟨gb318, 5, none⟩ (.int .i64 ((rd_T46 l0_6 x83_3).f5))).setCell ⟨gb318, 6, none⟩ (.int .i64 ((rd_T46 l0_6 x83_3).f6))).heap[gb302]? = some (.cells #[.int .i64 a0_0, .int .i64 a0_1, .int .i64 a0_2, .slice A0_3 l0_3.length c0_3, .bool a0_4, .slice A0_5 l0_5.length c0_5, .slice (some ad317) l0_6.length c0_6, .int .i64 a0_7, .int .i64 a0_8, .int .i64 a0_9, .int .i64 a0_10, .int .i64 a0_11] 67 (0, 0))) := ⟨by (with_reducible repeat (first | refine blk_drewN ?_ _ | refine blk_drew ?_ | refine blk_alloc ?_ _)); refine Go.Proofs.YtahfemlfdpbkkaaV.blk_far7 ?_ NB302_318.out; (with_reducible repeat (first | refine blk_drewN ?_ _ | refine blk_drew ?_ | refine blk_alloc ?_ _)); exact BK302.out⟩
                have n1_ : Aside0 ((((((((w74.setCell ⟨gb318, 0, none⟩ (.int .i64 ((rd_T46 l0_6 x83_3).f0))).setCell ⟨gb318, 1, none⟩ (.string ((rd_T46 l0_6 x83_3).f1))).setCell ⟨gb318, 2, none⟩ (.int .i64 ((rd_T46 l0_6 x83_3).f2))).setCell ⟨gb318, 3, none⟩ (.int .i64 ((rd_T46 l0_6 x83_3).f3))).setCell ⟨gb318, 4, none⟩ (.int .i64 ((rd_T46 l0_6 x83_3).f4))).setCell ⟨gb318, 5, none⟩ (.int .i64 ((rd_T46 l0_6 x83_3).f5))).setCell ⟨gb318, 6, none⟩ (.int .i64 ((rd_T46 l0_6 x83_3).f6))).heap[gb318]? = some (.cells #[.int .i64 ((rd_T46 l0_6 x83_3).f0), .string ((rd_T46 l0_6 x83_3).f1), .int .i64 ((rd_T46 l0_6 x83_3).f2), .int .i64 ((rd_T46 l0_6 x83_3).f3), .int .i64 ((rd_T46 l0_6 x83_3).f4), .int .i64 ((rd_T46 l0_6 x83_3).f5), .int .i64 ((rd_T46 l0_6 x83_3).f6)] 46 (0, 0))) := ⟨by (with_reducible repeat (first | refine blk_drewN ?_ _ | refine blk_drew ?_ | refine blk_alloc ?_ _)); refine Go.Proofs.YtahfemlfdpbkkaaV.blk_all7 (show _ = some (Go.Obj.cells #[.int .i64 0, .string (⟨#[]⟩ : ByteArray), .int .i64 0, .int .i64 0, .int .i64 0, .int .i64 0, .int .i64 0] _ (0, 0)) from ?_); (with_reducible repeat (first | refine blk_drewN ?_ _ | refine blk_drew ?_ | refine blk_alloc ?_ _)); exact BK318.out⟩
                have n2_ : Aside0 (Below w.heap.size w (((((((w74.setCell ⟨gb318, 0, none⟩ (.int .i64 ((rd_T46 l0_6 x83_3).f0))).setCell ⟨gb318, 1, none⟩ (.string ((rd_T46 l0_6 x83_3).f1))).setCell ⟨gb318, 2, none⟩ (.int .i64 ((rd_T46 l0_6 x83_3).f2))).setCell ⟨gb318, 3, none⟩ (.int .i64 ((rd_T46 l0_6 x83_3).f3))).setCell ⟨gb318, 4, none⟩ (.int .i64 ((rd_T46 l0_6 x83_3).f4))).setCell ⟨gb318, 5, none⟩ (.int .i64 ((rd_T46 l0_6 x83_3).f5))).setCell ⟨gb318, 6, none⟩ (.int .i64 ((rd_T46 l0_6 x83_3).f6)))) := ⟨qB HB⟩
                (try clear BK302)
                (try clear BK318)
                (try clear HB)
                generalize (((((((w74.setCell ⟨gb318, 0, none⟩ (.int .i64 ((rd_T46 l0_6 x83_3).f0))).setCell ⟨gb318, 1, none⟩ (.string ((rd_T46 l0_6 x83_3).f1))).setCell ⟨gb318, 2, none⟩ (.int .i64 ((rd_T46 l0_6 x83_3).f2))).setCell ⟨gb318, 3, none⟩ (.int .i64 ((rd_T46 l0_6 x83_3).f3))).setCell ⟨gb318, 4, none⟩ (.int .i64 ((rd_T46 l0_6 x83_3).f4))).setCell ⟨gb318, 5, none⟩ (.int .i64 ((rd_T46 l0_6 x83_3).f5))).setCell ⟨gb318, 6, none⟩ (.int .i64 ((rd_T46 l0_6 x83_3).f6))) = w77 at n0_ n1_ n2_ ⊢
                have BK302 := n0_
                have BK318 := n1_
                have HB := n2_
                clear n0_ n1_ n2_
                replace BK302 := am_ (blk_drew BK302.out)
                replace BK318 := am_ (blk_drew BK318.out)
                replace HB := am_ (below_drew1 HB.out)
                have p320 : 0 ≤ ((ji70) : Int) := od_
                have q320 : (ji70) < (l0_6.length : Int) := od_
                obtain ⟨ad320, e320, hx320_0, hx320_1, hx320_2, hx320_3, hx320_4, hx320_5, hx320_6⟩ := at_T46 HR0_6.out (ji70) p320 q320
                have hw320_6 := hx320_6
                have hw320_5 := hx320_5
                have hw320_4 := hx320_4
                have hw320_3 := hx320_3
                have hw320_2 := hx320_2
                have hw320_1 := hx320_1
                have hw320_0 := hx320_0
                obtain rfl : ad317 = ad320 := (by injection e320)
                replace hx320_0 := lb_ HB hx320_0
                replace hx320_1 := lb_ HB hx320_1
                replace hx320_2 := lb_ HB hx320_2
                replace hx320_3 := lb_ HB hx320_3
                replace hx320_4 := lb_ HB hx320_4
                replace hx320_5 := lb_ HB hx320_5
                replace hx320_6 := lb_ HB hx320_6
                replace p320 := eq_true p320
                replace q320 := eq_true q320
                refine start_ (n := 19) (S := fun w' => w'.cell? ⟨gb318, 0, none⟩ = some (.int .i64 ((rd_T46 l0_6 x83_3).f0)) ∧ w'.cell? ⟨gb318, 1, none⟩ = some (.string ((rd_T46 l0_6 x83_3).f1)) ∧ w'.cell? ⟨gb318, 2, none⟩ = some (.int .i64 ((rd_T46 l0_6 x83_3).f2)) ∧ w'.cell? ⟨gb318, 3, none⟩ = some (.int .i64 ((rd_T46 l0_6 x83_3).f3)) ∧ w'.cell? ⟨gb318, 4, none⟩ = some (.int .i64 ((rd_T46 l0_6 x83_3).f4)) ∧ w'.cell? ⟨gb318, 5, none⟩ = some (.int .i64 ((rd_T46 l0_6 x83_3).f5)) ∧ w'.cell? ⟨gb318, 6, none⟩ = some (.int .i64 ((rd_T46 l0_6 x83_3).f6)) ∧ w'.cell? ⟨gb302, 0, none⟩ = some (.int .i64 a0_0) ∧ w'.cell? ⟨gb302, 1, none⟩ = some (.int .i64 a0_1) ∧ w'.cell? ⟨gb302, 2, none⟩ = some (.int .i64 a0_2) ∧ w'.cell? ⟨gb302, 3, none⟩ = some (.slice A0_3 l0_3.length c0_3) ∧ w'.cell? ⟨gb302, 4, none⟩ = some (.bool a0_4) ∧ w'.cell? ⟨gb302, 5, none⟩ = some (.slice A0_5 l0_5.length c0_5) ∧ w'.cell? ⟨gb302, 6, none⟩ = some (.slice (some ad317) l0_6.length c0_6) ∧ w'.cell? ⟨gb302, 7, none⟩ = some (.int .i64 a0_7) ∧ w'.cell? ⟨gb302, 8, none⟩ = some (.int .i64 a0_8) ∧ w'.cell? ⟨gb302, 9, none⟩ = some (.int .i64 a0_9) ∧ w'.cell? ⟨gb302, 10, none⟩ = some (.int .i64 a0_10) ∧ w'.cell? ⟨gb302, 11, none⟩ = some (.int .i64 a0_11) ∧ w'.cell? (ad317.add (((ji70)).toNat * 7)) = some (.int .i64 ((rd_T46 l0_6 (ji70)).f0)) ∧ w'.cell? ⟨(ad317.add (((ji70)).toNat * 7)).block, (ad317.add (((ji70)).toNat * 7)).off + 1, none⟩ = some (.string ((rd_T46 l0_6 (ji70)).f1)) ∧ w'.cell? ⟨(ad317.add (((ji70)).toNat * 7)).block, (ad317.add (((ji70)).toNat * 7)).off + 2, none⟩ = some (.int .i64 ((rd_T46 l0_6 (ji70)).f2)) ∧ w'.cell? ⟨(ad317.add (((ji70)).toNat * 7)).block, (ad317.add (((ji70)).toNat * 7)).off + 3, none⟩ = some (.int .i64 ((rd_T46 l0_6 (ji70)).f3)) ∧ w'.cell? ⟨(ad317.add (((ji70)).toNat * 7)).block, (ad317.add (((ji70)).toNat * 7)).off + 4, none⟩ = some (.int .i64 ((rd_T46 l0_6 (ji70)).f4)) ∧ w'.cell? ⟨(ad317.add (((ji70)).toNat * 7)).block, (ad317.add (((ji70)).toNat * 7)).off + 5, none⟩ = some (.int .i64 ((rd_T46 l0_6 (ji70)).f5)) ∧ w'.cell? ⟨(ad317.add (((ji70)).toNat * 7)).block, (ad317.add (((ji70)).toNat * 7)).off + 6, none⟩ = some (.int .i64 ((rd_T46 l0_6 (ji70)).f6))) (ds := []) (rl [0,19]) (by kernel_rfl) rfl rfl (cw7 BK318.out (cw12 BK302.out ⟨(lb_ HB hw320_0 :), (lb_ HB hw320_1 :), (lb_ HB hw320_2 :), (lb_ HB hw320_3 :), (lb_ HB hw320_4 :), (lb_ HB hw320_5 :), (lb_ HB hw320_6 :)⟩)) (fun hHeld => ?_); refine with_tabW impl_listsOk.tab17 impl_listsOk.bits17 (fun HT_ HW_ => ?_)
                generalize w77.drew = w78 at BK302 BK318 HB hx320_0 hx320_1 hx320_2 hx320_3 hx320_4 hx320_5 hx320_6 hHeld ⊢
                refine take_ (i := 0) (N := some 88) (v := ?_) (a' := ?_) (rl [1,18]) rfl rfl (take_ofW HT_.out HW_.out (by kernel_rfl)) (fun _ _ _ h => h) (Or.inl ⟨by rfl, ?_⟩) hHeld ?_ ?_
                rotate_left
                ·
                 rintro w' ⟨s0, s1, s2, s3, s4, s5, s6, s7, s8, s9, s10, s11, s12, s13, s14, s15, s16, s17, s18, s19, s20, s21, s22, s23, s24, s25⟩
                 go_simp
                 with_reducible rfl
                rotate_left
                ·
                 exact ap_
                refine one_ (i := 1) (N := some 89) (rl [2,17]) rfl rfl (one_of HT_.out (by kernel_rfl)) (by decide) (fun K hK => ?_)
                refine goes_ Try.func84 (by kernel_rfl) rfl #[.agg #[.int .i64 ((rd_T46 l0_6 x83_3).f0), .string ((rd_T46 l0_6 x83_3).f1), .int .i64 ((rd_T46 l0_6 x83_3).f2), .int .i64 ((rd_T46 l0_6 x83_3).f3), .int .i64 ((rd_T46 l0_6 x83_3).f4), .int .i64 ((rd_T46 l0_6 x83_3).f5), .int .i64 ((rd_T46 l0_6 x83_3).f6)]] (by rfl) rfl rfl la_ ?_
                with_reducible refine (impl_LineOk.calls k3 ((rd_T46 l0_6 x83_3).f0) ((rd_T46 l0_6 x83_3).f1) ((rd_T46 l0_6 x83_3).f2) ((rd_T46 l0_6 x83_3).f3) ((rd_T46 l0_6 x83_3).f4) ((rd_T46 l0_6 x83_3).f5) ((rd_T46 l0_6 x83_3).f6) true _ A67.out).mono ?_
                rintro e w79 ⟨rfl, hb⟩
                refine ⟨_, rfl, ?_⟩
                replace BK302 := am_ (blk_below (qK BK302) hb)
                replace BK318 := am_ (blk_below (qK BK318) hb)
                replace HB := am_ (below_step (qB HB) hb)
                (try clear hb)
                refine hK.out _ _ (cw7 BK318.out (cw12 BK302.out ⟨(lb_ HB hw320_0 :), (lb_ HB hw320_1 :), (lb_ HB hw320_2 :), (lb_ HB hw320_3 :), (lb_ HB hw320_4 :), (lb_ HB hw320_5 :), (lb_ HB hw320_6 :)⟩)) (fun hHeld => ?_)
                clear hK K
                refine norm_ (a' := ?_) ?_ ?_
                rotate_left
                ·
                 show Act.put _ (some 89) _ = _
                 exact ap_
                refine pz_ (i := 2) (N := some 90) HT_ (rl [3,16]) rfl rfl ?_
                refine pz_ (i := 3) (N := some 91) HT_ (rl [4,15]) rfl rfl ?_
                refine pz_ (i := 4) (N := some 92) HT_ (rl [5,14]) rfl rfl ?_
                refine pz_ (i := 5) (N := some 93) HT_ (rl [6,13]) rfl rfl ?_
                refine pz_ (i := 6) (N := some 94) HT_ (rl [7,12]) rfl rfl ?_
                refine pz_ (i := 7) (N := some 95) HT_ (rl [8,11]) rfl rfl ?_
                refine pz_ (i := 9) (N := some 97) HT_ (rl [8,1,1,9]) rfl rfl ?_
                refine pz_ (i := 11) (N := some 99) HT_ (rl [8,1,1,1,1,7]) rfl rfl ?_
                refine pz_ (i := 12) (N := some 100) HT_ (rl [8,1,1,1,2,6]) rfl rfl ?_
                refine take_ (i := 8) (N := some 96) (v := ?_) (a' := ?_) (rl [10,1,2,6]) rfl rfl (take_ofW HT_.out HW_.out (by kernel_rfl)) (fun _ _ _ h => h) (Or.inl ⟨by rfl, ?_⟩) hHeld ?_ ?_
                rotate_left
                ·
                 rintro w' ⟨s0, s1, s2, s3, s4, s5, s6, s7, s8, s9, s10, s11, s12, s13, s14, s15, s16, s17, s18, s19, s20, s21, s22, s23, s24, s25⟩
                 go_simp
                 with_reducible rfl
                rotate_left
                ·
                 exact ap_
                refine take_ (i := 10) (N := some 98) (v := ?_) (a' := ?_) (rl [13,6]) rfl rfl (take_ofW HT_.out HW_.out (by kernel_rfl)) (fun _ _ _ h => h) (Or.inl ⟨by rfl, ?_⟩) hHeld ?_ ?_
                rotate_left
                ·
                 rintro w' ⟨s0, s1, s2, s3, s4, s5, s6, s7, s8, s9, s10, s11, s12, s13, s14, s15, s16, s17, s18, s19, s20, s21, s22, s23, s24, s25⟩
                 go_simp
                 with_reducible rfl
                rotate_left
                ·
                 exact ap_
                refine pz_ (i := 13) (N := some 101) HT_ (rl [14,5]) rfl rfl ?_
                refine pz_ (i := 14) (N := some 102) HT_ (rl [15,4]) rfl rfl ?_
                refine take_ (i := 15) (N := some 103) (v := ?_) (a' := ?_) (rl [16,3]) rfl rfl (take_ofW HT_.out HW_.out (by kernel_rfl)) (fun _ _ _ h => h) (Or.inl ⟨by rfl, ?_⟩) hHeld ?_ ?_
                rotate_left
                ·
                 rintro w' ⟨s0, s1, s2, s3, s4, s5, s6, s7, s8, s9, s10, s11, s12, s13, s14, s15, s16, s17, s18, s19, s20, s21, s22, s23, s24, s25⟩
                 go_simp
                 with_reducible rfl
                rotate_left
                ·
                 exact ap_
                refine pz_ (i := 16) (N := some 104) HT_ (rl [17,2]) rfl rfl ?_
                refine pz_ (i := 17) (N := some 105) HT_ (rl [18,1]) rfl rfl ?_
                refine pz_ (i := 18) (N := some 106) HT_ (rl [19]) rfl rfl ?_
                refine done_ (done_of HT_.out (by kernel_rfl)) ?_
                go_upto_if 106 with (fail)
                have H := HC73.out
                clear HC73
                by_cases c80 : ((rd_T46 l0_6 x83_3).f0) ≤ ((rd_T46 l0_6 (ji70)).f0)
                ·
                 rw [if_pos c80] at H
                 have c80b0 : decide (((rd_T46 l0_6 x83_3).f0) ≤ ((rd_T46 l0_6 (ji70)).f0)) = true := decide_eq_true c80
                 clear c80
                 (first | rw [c80b0] | (simp only [i64_w, i32_w]; rw [c80b0]) | skip)
                 obtain rfl := Option.some.inj H
                 go_wp2
                 go_ret
                 exact ⟨by first | rfl | (simp [errW_none, errW_some] <;> rfl) | (simp only [← hji70]; first | rfl | (simp [errW_none, errW_some] <;> rfl)) | (simp [*, errW_none, errW_some] <;> rfl), qB HB⟩
                ·
                 rw [if_neg c80] at H
                 have c80b0 : decide (((rd_T46 l0_6 x83_3).f0) ≤ ((rd_T46 l0_6 (ji70)).f0)) = false := decide_eq_false c80
                 clear c80
                 (first | rw [c80b0] | (simp only [i64_w, i32_w]; rw [c80b0]) | skip)
                 have H' := Aside0.mk H
                 clear H
                 go_wp2
                 go_roundg k3
                 case measure => have := HJ1.out; have := HK2.out; have := HK3.out; omega
                 case rel => exact ⟨(wrap64 (x83_3 + 1)), eqq_, H', ⟨by have := HJ1.out; have := HK2.out; have := HK3.out; omega⟩, ⟨qK BK302⟩, ⟨qB HB⟩⟩
               ·
                rw [if_neg c72] at H
                exact absurd H (by simp)
              ·
               rw [if_neg c71] at H
               exact absurd H (by simp)
             ·
              rw [if_neg c69] at H
              have c69b0 : decide (0 < x83_3) = false := decide_eq_false c69
              clear c69
              have H' := Aside0.mk H
              clear H
              have p317 : 0 ≤ (x83_3 : Int) := od_
              have q317 : x83_3 < (l0_6.length : Int) := od_
              obtain ⟨ad317, e317, hx317_0, hx317_1, hx317_2, hx317_3, hx317_4, hx317_5, hx317_6⟩ := at_T46 HR0_6.out x83_3 p317 q317
              cases e317
              replace hx317_0 := lb_ HB hx317_0
              replace hx317_1 := lb_ HB hx317_1
              replace hx317_2 := lb_ HB hx317_2
              replace hx317_3 := lb_ HB hx317_3
              replace hx317_4 := lb_ HB hx317_4
              replace hx317_5 := lb_ HB hx317_5
              replace hx317_6 := lb_ HB hx317_6
              replace p317 := eq_true p317
              replace q317 := eq_true q317
              try go_wp2_with (first | ((with_reducible refine gate_dst (N := 7) rfl ?_); (try (refine gate_guard (by rfl) ?_; dsimp only)); refine box_event ?hg (N := 7) ?hd (cs := #[.int .i64 0, .string (⟨#[]⟩ : ByteArray), .int .i64 0, .int .i64 0, .int .i64 0, .int .i64 0, .int .i64 0]) (t := 46) ?hr ?_; (case hd => rfl); (case hg => rfl); (case hr => first | (go_simp; done) | (go_simp; rfl)); intro gb318 hg w81 hbox hb; have BK318 := am_ (hbox); have GW318 := am_ ((gG_ hg (qB HB))); have IGW318 := gI_ GW318; have GE318 := am_ ((gG_ hg (qB HB))); have IGE318 := gI_ GE318; replace HB := am_ (below_step (qB HB) hb); have NB302_318 := am_ ((gN_ hg (qK BK302))); have NB318_302 := am_ ((gM_ hg (qK BK302))); replace BK302 := am_ (blk_below (qK BK302) hb); clear hb hbox hg; have hnb82 := NB318_302.out; have hnc82 := NB302_318.out; obtain ⟨z83_0, z83_1, z83_2, z83_3, z83_4, z83_5, z83_6⟩ := cz7 BK318.out; obtain ⟨f83_0, f83_1, f83_2, f83_3, f83_4, f83_5, f83_6⟩ := fz7 BK318.out))
              have n0_ : Aside0 ((((((((w81.setCell ⟨gb318, 0, none⟩ (.int .i64 ((rd_T46 l0_6 x83_3).f0))).setCell ⟨gb318, 1, none⟩ (.string ((rd_T46 l0_6 x83_3).f1))).setCell ⟨gb318, 2, none⟩ (.int .i64 ((rd_T46 l0_6 x83_3).f2))).setCell ⟨gb318, 3, none⟩ (.int .i64 ((rd_T46 l0_6 x83_3).f3))).setCell ⟨gb318, 4, none⟩ (.int .i64 ((rd_T46 l0_6 x83_3).f4))).setCell ⟨gb318, 5, none⟩ (.int .i64 ((rd_T46 l0_6 x83_3).f5))).setCell ⟨gb318, 6, none⟩ (.int .i64 ((rd_T46 l0_6 x83_3).f6))).heap[gb302]? = some (.cells #[.int .i64 a0_0, .int .i64 a0_1, .int .i64 a0_2, .slice A0_3 l0_3.length c0_3, .bool a0_4, .slice A0_5 l0_5.length c0_5, .slice (some ad317) l0_6.length c0_6, .int .i64 a0_7, .int .i64 a0_8, .int .i64 a0_9, .int .i64 a0_10, .int .i64 a0_11] 67 (0, 0))) := ⟨by (with_reducible repeat (first | refine blk_drewN ?_ _ | refine blk_drew ?_ | refine blk_alloc ?_ _)); refine Go.Proofs.YtahfemlfdpbkkaaV.blk_far7 ?_ NB302_318.out; (with_reducible repeat (first | refine blk_drewN ?_ _ | refine blk_drew ?_ | refine blk_alloc ?_ _)); exact BK302.out⟩
              have n1_ : Aside0 ((((((((w81.setCell ⟨gb318, 0, none⟩ (.int .i64 ((rd_T46 l0_6 x83_3).f0))).setCell ⟨gb318, 1, none⟩ (.string ((rd_T46 l0_6 x83_3).f1))).setCell ⟨gb318, 2, none⟩ (.int .i64 ((rd_T46 l0_6 x83_3).f2))).setCell ⟨gb318, 3, none⟩ (.int .i64 ((rd_T46 l0_6 x83_3).f3))).setCell ⟨gb318, 4, none⟩ (.int .i64 ((rd_T46 l0_6 x83_3).f4))).setCell ⟨gb318, 5, none⟩ (.int .i64 ((rd_T46 l0_6 x83_3).f5))).setCell ⟨gb318, 6, none⟩ (.int .i64 ((rd_T46 l0_6 x83_3).f6))).heap[gb318]? = some (.cells #[.int .i64 ((rd_T46 l0_6 x83_3).f0), .string ((rd_T46 l0_6 x83_3).f1), .int .i64 ((rd_T46 l0_6 x83_3).f2), .int .i64 ((rd_T46 l0_6 x83_3).f3), .int .i64 ((rd_T46 l0_6 x83_3).f4), .int .i64 ((rd_T46 l0_6 x83_3).f5), .int .i64 ((rd_T46 l0_6 x83_3).f6)] 46 (0, 0))) := ⟨by (with_reducible repeat (first | refine blk_drewN ?_ _ | refine blk_drew ?_ | refine blk_alloc ?_ _)); refine Go.Proofs.YtahfemlfdpbkkaaV.blk_all7 (show _ = some (Go.Obj.cells #[.int .i64 0, .string (⟨#[]⟩ : ByteArray), .int .i64 0, .int .i64 0, .int .i64 0, .int .i64 0, .int .i64 0] _ (0, 0)) from ?_); (with_reducible repeat (first | refine blk_drewN ?_ _ | refine blk_drew ?_ | refine blk_alloc ?_ _)); exact BK318.out⟩
              have n2_ : Aside0 (Below w.heap.size w (((((((w81.setCell ⟨gb318, 0, none⟩ (.int .i64 ((rd_T46 l0_6 x83_3).f0))).setCell ⟨gb318, 1, none⟩ (.string ((rd_T46 l0_6 x83_3).f1))).setCell ⟨gb318, 2, none⟩ (.int .i64 ((rd_T46 l0_6 x83_3).f2))).setCell ⟨gb318, 3, none⟩ (.int .i64 ((rd_T46 l0_6 x83_3).f3))).setCell ⟨gb318, 4, none⟩ (.int .i64 ((rd_T46 l0_6 x83_3).f4))).setCell ⟨gb318, 5, none⟩ (.int .i64 ((rd_T46 l0_6 x83_3).f5))).setCell ⟨gb318, 6, none⟩ (.int .i64 ((rd_T46 l0_6 x83_3).f6)))) := ⟨qB HB⟩
              (try clear BK302)
              (try clear BK318)
              (try clear HB)
              generalize (((((((w81.setCell ⟨gb318, 0, none⟩ (.int .i64 ((rd_T46 l0_6 x83_3).f0))).setCell ⟨gb318, 1, none⟩ (.string ((rd_T46 l0_6 x83_3).f1))).setCell ⟨gb318, 2, none⟩ (.int .i64 ((rd_T46 l0_6 x83_3).f2))).setCell ⟨gb318, 3, none⟩ (.int .i64 ((rd_T46 l0_6 x83_3).f3))).setCell ⟨gb318, 4, none⟩ (.int .i64 ((rd_T46 l0_6 x83_3).f4))).setCell ⟨gb318, 5, none⟩ (.int .i64 ((rd_T46 l0_6 x83_3).f5))).setCell ⟨gb318, 6, none⟩ (.int .i64 ((rd_T46 l0_6 x83_3).f6))) = w84 at n0_ n1_ n2_ ⊢
              have BK302 := n0_
              have BK318 := n1_
              have HB := n2_
              clear n0_ n1_ n2_
              replace BK302 := am_ (blk_drew BK302.out)
              replace BK318 := am_ (blk_drew BK318.out)
              replace HB := am_ (below_drew1 HB.out)
              refine start_ (n := 19) (S := fun w' => w'.cell? ⟨gb318, 0, none⟩ = some (.int .i64 ((rd_T46 l0_6 x83_3).f0)) ∧ w'.cell? ⟨gb318, 1, none⟩ = some (.string ((rd_T46 l0_6 x83_3).f1)) ∧ w'.cell? ⟨gb318, 2, none⟩ = some (.int .i64 ((rd_T46 l0_6 x83_3).f2)) ∧ w'.cell? ⟨gb318, 3, none⟩ = some (.int .i64 ((rd_T46 l0_6 x83_3).f3)) ∧ w'.cell? ⟨gb318, 4, none⟩ = some (.int .i64 ((rd_T46 l0_6 x83_3).f4)) ∧ w'.cell? ⟨gb318, 5, none⟩ = some (.int .i64 ((rd_T46 l0_6 x83_3).f5)) ∧ w'.cell? ⟨gb318, 6, none⟩ = some (.int .i64 ((rd_T46 l0_6 x83_3).f6))) (ds := []) (rl [0,19]) (by kernel_rfl) rfl rfl (cz7 BK318.out) (fun hHeld => ?_); refine with_tabW impl_listsOk.tab17 impl_listsOk.bits17 (fun HT_ HW_ => ?_)
              generalize w84.drew = w85 at BK302 BK318 HB hHeld ⊢
              refine take_ (i := 0) (N := some 88) (v := ?_) (a' := ?_) (rl [1,18]) rfl rfl (take_ofW HT_.out HW_.out (by kernel_rfl)) (fun _ _ _ h => h) (Or.inl ⟨by rfl, ?_⟩) hHeld ?_ ?_
              rotate_left
              ·
               rintro w' ⟨s0, s1, s2, s3, s4, s5, s6⟩
               go_simp
               with_reducible rfl
              rotate_left
              ·
               exact ap_
              refine one_ (i := 1) (N := some 89) (rl [2,17]) rfl rfl (one_of HT_.out (by kernel_rfl)) (by decide) (fun K hK => ?_)
              refine goes_ Try.func84 (by kernel_rfl) rfl #[.agg #[.int .i64 ((rd_T46 l0_6 x83_3).f0), .string ((rd_T46 l0_6 x83_3).f1), .int .i64 ((rd_T46 l0_6 x83_3).f2), .int .i64 ((rd_T46 l0_6 x83_3).f3), .int .i64 ((rd_T46 l0_6 x83_3).f4), .int .i64 ((rd_T46 l0_6 x83_3).f5), .int .i64 ((rd_T46 l0_6 x83_3).f6)]] (by rfl) rfl rfl la_ ?_
              with_reducible refine (impl_LineOk.calls k3 ((rd_T46 l0_6 x83_3).f0) ((rd_T46 l0_6 x83_3).f1) ((rd_T46 l0_6 x83_3).f2) ((rd_T46 l0_6 x83_3).f3) ((rd_T46 l0_6 x83_3).f4) ((rd_T46 l0_6 x83_3).f5) ((rd_T46 l0_6 x83_3).f6) true _ A67.out).mono ?_
              rintro e w86 ⟨rfl, hb⟩
              refine ⟨_, rfl, ?_⟩
              replace BK302 := am_ (blk_below (qK BK302) hb)
              replace BK318 := am_ (blk_below (qK BK318) hb)
              replace HB := am_ (below_step (qB HB) hb)
              (try clear hb)
              refine hK.out _ _ (cz7 BK318.out) (fun hHeld => ?_)
              clear hK K
              refine norm_ (a' := ?_) ?_ ?_
              rotate_left
              ·
               show Act.put _ (some 89) _ = _
               exact ap_
              refine pz_ (i := 2) (N := some 90) HT_ (rl [3,16]) rfl rfl ?_
              refine pz_ (i := 3) (N := some 91) HT_ (rl [4,15]) rfl rfl ?_
              refine pz_ (i := 4) (N := some 92) HT_ (rl [5,14]) rfl rfl ?_
              refine pz_ (i := 5) (N := some 93) HT_ (rl [6,13]) rfl rfl ?_
              refine pz_ (i := 6) (N := some 94) HT_ (rl [7,12]) rfl rfl ?_
              refine pu_ (i := 7) (N := some 95) HT_ (rl [8,11]) rfl rfl ?_
              refine pu_ (i := 8) (N := some 96) HT_ (rl [9,10]) rfl rfl ?_
              refine pu_ (i := 9) (N := some 97) HT_ (rl [10,9]) rfl rfl ?_
              refine pu_ (i := 10) (N := some 98) HT_ (rl [11,8]) rfl rfl ?_
              refine pu_ (i := 11) (N := some 99) HT_ (rl [12,7]) rfl rfl ?_
              refine pu_ (i := 12) (N := some 100) HT_ (rl [13,6]) rfl rfl ?_
              refine pu_ (i := 13) (N := some 101) HT_ (rl [14,5]) rfl rfl ?_
              refine pu_ (i := 14) (N := some 102) HT_ (rl [15,4]) rfl rfl ?_
              refine pu_ (i := 15) (N := some 103) HT_ (rl [16,3]) rfl rfl ?_
              refine pu_ (i := 16) (N := some 104) HT_ (rl [17,2]) rfl rfl ?_
              refine pz_ (i := 17) (N := some 105) HT_ (rl [18,1]) rfl rfl ?_
              refine pz_ (i := 18) (N := some 106) HT_ (rl [19]) rfl rfl ?_
              refine done_ (done_of HT_.out (by kernel_rfl)) ?_
              try go_wp2
              go_roundg k3
              case measure => have := HJ1.out; have := HK2.out; have := HK3.out; omega
              case rel => exact ⟨(wrap64 (x83_3 + 1)), eqq_, H', ⟨by have := HJ1.out; have := HK2.out; have := HK3.out; omega⟩, ⟨qK BK302⟩, ⟨qB HB⟩⟩
            ·
             replace c68 := Bool.eq_false_iff.mpr c68
             subst c68
             rw [if_neg (show ¬ (false = true) by decide)] at H
             obtain rfl := Option.some.inj H
             have p317 : 0 ≤ (x83_3 : Int) := od_
             have q317 : x83_3 < (l0_6.length : Int) := od_
             obtain ⟨ad317, e317, hx317_0, hx317_1, hx317_2, hx317_3, hx317_4, hx317_5, hx317_6⟩ := at_T46 HR0_6.out x83_3 p317 q317
             cases e317
             replace hx317_0 := lb_ HB hx317_0
             replace hx317_1 := lb_ HB hx317_1
             replace hx317_2 := lb_ HB hx317_2
             replace hx317_3 := lb_ HB hx317_3
             replace hx317_4 := lb_ HB hx317_4
             replace hx317_5 := lb_ HB hx317_5
             replace hx317_6 := lb_ HB hx317_6
             replace p317 := eq_true p317
             replace q317 := eq_true q317
             try go_wp2_with (first | ((with_reducible refine gate_dst (N := 7) rfl ?_); (try (refine gate_guard (by rfl) ?_; dsimp only)); refine box_event ?hg (N := 7) ?hd (cs := #[.int .i64 0, .string (⟨#[]⟩ : ByteArray), .int .i64 0, .int .i64 0, .int .i64 0, .int .i64 0, .int .i64 0]) (t := 46) ?hr ?_; (case hd => rfl); (case hg => rfl); (case hr => first | (go_simp; done) | (go_simp; rfl)); intro gb318 hg w87 hbox hb; have BK318 := am_ (hbox); have GW318 := am_ ((gG_ hg (qB HB))); have IGW318 := gI_ GW318; have GE318 := am_ ((gG_ hg (qB HB))); have IGE318 := gI_ GE318; replace HB := am_ (below_step (qB HB) hb); have NB302_318 := am_ ((gN_ hg (qK BK302))); have NB318_302 := am_ ((gM_ hg (qK BK302))); replace BK302 := am_ (blk_below (qK BK302) hb); clear hb hbox hg; have hnb88 := NB318_302.out; have hnc88 := NB302_318.out; obtain ⟨z89_0, z89_1, z89_2, z89_3, z89_4, z89_5, z89_6⟩ := cz7 BK318.out; obtain ⟨f89_0, f89_1, f89_2, f89_3, f89_4, f89_5, f89_6⟩ := fz7 BK318.out))
             have n0_ : Aside0 ((((((((w87.setCell ⟨gb318, 0, none⟩ (.int .i64 ((rd_T46 l0_6 x83_3).f0))).setCell ⟨gb318, 1, none⟩ (.string ((rd_T46 l0_6 x83_3).f1))).setCell ⟨gb318, 2, none⟩ (.int .i64 ((rd_T46 l0_6 x83_3).f2))).setCell ⟨gb318, 3, none⟩ (.int .i64 ((rd_T46 l0_6 x83_3).f3))).setCell ⟨gb318, 4, none⟩ (.int .i64 ((rd_T46 l0_6 x83_3).f4))).setCell ⟨gb318, 5, none⟩ (.int .i64 ((rd_T46 l0_6 x83_3).f5))).setCell ⟨gb318, 6, none⟩ (.int .i64 ((rd_T46 l0_6 x83_3).f6))).heap[gb302]? = some (.cells #[.int .i64 a0_0, .int .i64 a0_1, .int .i64 a0_2, .slice A0_3 l0_3.length c0_3, .bool a0_4, .slice A0_5 l0_5.length c0_5, .slice (some ad317) l0_6.length c0_6, .int .i64 a0_7, .int .i64 a0_8, .int .i64 a0_9, .int .i64 a0_10, .int .i64 a0_11] 67 (0, 0))) := ⟨by (with_reducible repeat (first | refine blk_drewN ?_ _ | refine blk_drew ?_ | refine blk_alloc ?_ _)); refine Go.Proofs.YtahfemlfdpbkkaaV.blk_far7 ?_ NB302_318.out; (with_reducible repeat (first | refine blk_drewN ?_ _ | refine blk_drew ?_ | refine blk_alloc ?_ _)); exact BK302.out⟩
             have n1_ : Aside0 ((((((((w87.setCell ⟨gb318, 0, none⟩ (.int .i64 ((rd_T46 l0_6 x83_3).f0))).setCell ⟨gb318, 1, none⟩ (.string ((rd_T46 l0_6 x83_3).f1))).setCell ⟨gb318, 2, none⟩ (.int .i64 ((rd_T46 l0_6 x83_3).f2))).setCell ⟨gb318, 3, none⟩ (.int .i64 ((rd_T46 l0_6 x83_3).f3))).setCell ⟨gb318, 4, none⟩ (.int .i64 ((rd_T46 l0_6 x83_3).f4))).setCell ⟨gb318, 5, none⟩ (.int .i64 ((rd_T46 l0_6 x83_3).f5))).setCell ⟨gb318, 6, none⟩ (.int .i64 ((rd_T46 l0_6 x83_3).f6))).heap[gb318]? = some (.cells #[.int .i64 ((rd_T46 l0_6 x83_3).f0), .string ((rd_T46 l0_6 x83_3).f1), .int .i64 ((rd_T46 l0_6 x83_3).f2), .int .i64 ((rd_T46 l0_6 x83_3).f3), .int .i64 ((rd_T46 l0_6 x83_3).f4), .int .i64 ((rd_T46 l0_6 x83_3).f5), .int .i64 ((rd_T46 l0_6 x83_3).f6)] 46 (0, 0))) := ⟨by (with_reducible repeat (first | refine blk_drewN ?_ _ | refine blk_drew ?_ | refine blk_alloc ?_ _)); refine Go.Proofs.YtahfemlfdpbkkaaV.blk_all7 (show _ = some (Go.Obj.cells #[.int .i64 0, .string (⟨#[]⟩ : ByteArray), .int .i64 0, .int .i64 0, .int .i64 0, .int .i64 0, .int .i64 0] _ (0, 0)) from ?_); (with_reducible repeat (first | refine blk_drewN ?_ _ | refine blk_drew ?_ | refine blk_alloc ?_ _)); exact BK318.out⟩
             have n2_ : Aside0 (Below w.heap.size w (((((((w87.setCell ⟨gb318, 0, none⟩ (.int .i64 ((rd_T46 l0_6 x83_3).f0))).setCell ⟨gb318, 1, none⟩ (.string ((rd_T46 l0_6 x83_3).f1))).setCell ⟨gb318, 2, none⟩ (.int .i64 ((rd_T46 l0_6 x83_3).f2))).setCell ⟨gb318, 3, none⟩ (.int .i64 ((rd_T46 l0_6 x83_3).f3))).setCell ⟨gb318, 4, none⟩ (.int .i64 ((rd_T46 l0_6 x83_3).f4))).setCell ⟨gb318, 5, none⟩ (.int .i64 ((rd_T46 l0_6 x83_3).f5))).setCell ⟨gb318, 6, none⟩ (.int .i64 ((rd_T46 l0_6 x83_3).f6)))) := ⟨qB HB⟩
             (try clear BK302)
             (try clear BK318)
             (try clear HB)
             generalize (((((((w87.setCell ⟨gb318, 0, none⟩ (.int .i64 ((rd_T46 l0_6 x83_3).f0))).setCell ⟨gb318, 1, none⟩ (.string ((rd_T46 l0_6 x83_3).f1))).setCell ⟨gb318, 2, none⟩ (.int .i64 ((rd_T46 l0_6 x83_3).f2))).setCell ⟨gb318, 3, none⟩ (.int .i64 ((rd_T46 l0_6 x83_3).f3))).setCell ⟨gb318, 4, none⟩ (.int .i64 ((rd_T46 l0_6 x83_3).f4))).setCell ⟨gb318, 5, none⟩ (.int .i64 ((rd_T46 l0_6 x83_3).f5))).setCell ⟨gb318, 6, none⟩ (.int .i64 ((rd_T46 l0_6 x83_3).f6))) = w90 at n0_ n1_ n2_ ⊢
             have BK302 := n0_
             have BK318 := n1_
             have HB := n2_
             clear n0_ n1_ n2_
             replace BK302 := am_ (blk_drew BK302.out)
             replace BK318 := am_ (blk_drew BK318.out)
             replace HB := am_ (below_drew1 HB.out)
             refine start_ (n := 19) (S := fun w' => w'.cell? ⟨gb318, 0, none⟩ = some (.int .i64 ((rd_T46 l0_6 x83_3).f0)) ∧ w'.cell? ⟨gb318, 1, none⟩ = some (.string ((rd_T46 l0_6 x83_3).f1)) ∧ w'.cell? ⟨gb318, 2, none⟩ = some (.int .i64 ((rd_T46 l0_6 x83_3).f2)) ∧ w'.cell? ⟨gb318, 3, none⟩ = some (.int .i64 ((rd_T46 l0_6 x83_3).f3)) ∧ w'.cell? ⟨gb318, 4, none⟩ = some (.int .i64 ((rd_T46 l0_6 x83_3).f4)) ∧ w'.cell? ⟨gb318, 5, none⟩ = some (.int .i64 ((rd_T46 l0_6 x83_3).f5)) ∧ w'.cell? ⟨gb318, 6, none⟩ = some (.int .i64 ((rd_T46 l0_6 x83_3).f6))) (ds := []) (rl [0,19]) (by kernel_rfl) rfl rfl (cz7 BK318.out) (fun hHeld => ?_); refine with_tabW impl_listsOk.tab17 impl_listsOk.bits17 (fun HT_ HW_ => ?_)
             generalize w90.drew = w91 at BK302 BK318 HB hHeld ⊢
             refine take_ (i := 0) (N := some 88) (v := ?_) (a' := ?_) (rl [1,18]) rfl rfl (take_ofW HT_.out HW_.out (by kernel_rfl)) (fun _ _ _ h => h) (Or.inl ⟨by rfl, ?_⟩) hHeld ?_ ?_
             rotate_left
             ·
              rintro w' ⟨s0, s1, s2, s3, s4, s5, s6⟩
              go_simp
              with_reducible rfl
             rotate_left
             ·
              exact ap_
             refine one_ (i := 1) (N := some 89) (rl [2,17]) rfl rfl (one_of HT_.out (by kernel_rfl)) (by decide) (fun K hK => ?_)
             refine goes_ Try.func84 (by kernel_rfl) rfl #[.agg #[.int .i64 ((rd_T46 l0_6 x83_3).f0), .string ((rd_T46 l0_6 x83_3).f1), .int .i64 ((rd_T46 l0_6 x83_3).f2), .int .i64 ((rd_T46 l0_6 x83_3).f3), .int .i64 ((rd_T46 l0_6 x83_3).f4), .int .i64 ((rd_T46 l0_6 x83_3).f5), .int .i64 ((rd_T46 l0_6 x83_3).f6)]] (by rfl) rfl rfl la_ ?_
             with_reducible refine (impl_LineOk.calls k3 ((rd_T46 l0_6 x83_3).f0) ((rd_T46 l0_6 x83_3).f1) ((rd_T46 l0_6 x83_3).f2) ((rd_T46 l0_6 x83_3).f3) ((rd_T46 l0_6 x83_3).f4) ((rd_T46 l0_6 x83_3).f5) ((rd_T46 l0_6 x83_3).f6) false _ A67.out).mono ?_
             rintro e w92 ⟨rfl, hb⟩
             refine ⟨_, rfl, ?_⟩
             replace BK302 := am_ (blk_below (qK BK302) hb)
             replace BK318 := am_ (blk_below (qK BK318) hb)
             replace HB := am_ (below_step (qB HB) hb)
             (try clear hb)
             refine hK.out _ _ (cz7 BK318.out) (fun hHeld => ?_)
             clear hK K
             refine norm_ (a' := ?_) ?_ ?_
             rotate_left
             ·
              show Act.put _ (some 89) _ = _
              exact ap_
             refine pz_ (i := 2) (N := some 90) HT_ (rl [3,16]) rfl rfl ?_
             refine pz_ (i := 3) (N := some 91) HT_ (rl [4,15]) rfl rfl ?_
             refine pu_ (i := 4) (N := some 92) HT_ (rl [5,14]) rfl rfl ?_
             refine pu_ (i := 5) (N := some 93) HT_ (rl [6,13]) rfl rfl ?_
             refine pu_ (i := 6) (N := some 94) HT_ (rl [7,12]) rfl rfl ?_
             refine pu_ (i := 7) (N := some 95) HT_ (rl [8,11]) rfl rfl ?_
             refine pu_ (i := 8) (N := some 96) HT_ (rl [9,10]) rfl rfl ?_
             refine pu_ (i := 9) (N := some 97) HT_ (rl [10,9]) rfl rfl ?_
             refine pu_ (i := 10) (N := some 98) HT_ (rl [11,8]) rfl rfl ?_
             refine pu_ (i := 11) (N := some 99) HT_ (rl [12,7]) rfl rfl ?_
             refine pu_ (i := 12) (N := some 100) HT_ (rl [13,6]) rfl rfl ?_
             refine pu_ (i := 13) (N := some 101) HT_ (rl [14,5]) rfl rfl ?_
             refine pu_ (i := 14) (N := some 102) HT_ (rl [15,4]) rfl rfl ?_
             refine pu_ (i := 15) (N := some 103) HT_ (rl [16,3]) rfl rfl ?_
             refine pu_ (i := 16) (N := some 104) HT_ (rl [17,2]) rfl rfl ?_
             refine pu_ (i := 17) (N := some 105) HT_ (rl [18,1]) rfl rfl ?_
             refine pz_ (i := 18) (N := some 106) HT_ (rl [19]) rfl rfl ?_
             refine done_ (done_of HT_.out (by kernel_rfl)) ?_
             try go_wp2
             go_ret
             exact ⟨by first | rfl | (simp [errW_none, errW_some] <;> rfl) | (simp [*, errW_none, errW_some] <;> rfl), qB HB⟩
           ·
            rw [if_neg c66] at H
            exact absurd H (by simp)
          ·
           rw [if_neg c65] at H
           exact absurd H (by simp)
         ·
          rw [if_neg c64] at H
          have c64b0 : decide (x83_3 < (l0_6.length : Int)) = false := decide_eq_false c64
          clear c64
          obtain rfl := Option.some.inj H
          go_wp2
          go_ret
          exact ⟨by first | rfl | (simp [errW_none, errW_some] <;> rfl) | (simp [*, errW_none, errW_some] <;> rfl), qB HB⟩

end Go.Proofs.Ytahfemlfdpbkkaa.PFnExactHouseOk
