-- Written by a program of this session (myprint.py, over the kit's print): contracts of FnExactTell
import Derived.Test.YtahfemlfdpbkkaaPFnExactTellx0
import Derived.Test.YtahfemlfdpbkkaaPFnExactTellx2
import Derived.Test.YtahfemlfdpbkkaaPFnExactTellx4
import Derived.Test.YtahfemlfdpbkkaaPFnExactTellx6
import Derived.Test.YtahfemlfdpbkkaaPFnExactTellx7
import Derived.Test.YtahfemlfdpbkkaaPFnExactTellx8
namespace Go.Proofs.Ytahfemlfdpbkkaa.PFnExactTell
open Go.RowKit Go.Proofs.YtahfemlfdpbkkaaW.PrintWords Go.Proofs.YtahfemlfdpbkkaaW.PrintLast Go.Proofs.YtahfemlfdpbkkaaW.PrintMore Go.Proofs.YtahfemlfdpbkkaaV
attribute [local go_sem] max2_int min2_int max_two min_two max_three min_three max_four min_four   -- for this text's walks alone
set_option linter.unusedVariables false
set_option linter.unusedSimpArgs false

/-! ### laws_FnExactTell: function 3 -/
def laws_FnExactTell.j0 : Nat → Bool → Int → Int → Int → Bool → List Int → List Int → Int → Int → Int → ByteArray → Int → Int → Int → Int → Bool → List Int → List Int → Int → Int → Int → Int → Int → Bool → List Int → List Int → Int → Int → Option (Bool)
 | 0, _, _, _, _, _, _, _, _, _, _, _, _, _, _, _, _, _, _, _, _, _, _, _, _, _, _, _, _ => none
 | k + 1, x53, x287000, x287001, x287002, x287003, x287004, x287005, x287006, x287007, x288000, x288001, x288002, x318000, x318001, x318002, x318003, x318004, x318005, x318006, x318007, x347000, x347001, x347002, x347003, x347004, x347005, x347006, x347007 => if x53 = true then (some false) else ((laws_markSock.f k x347000 x347001 x347002 x347003 x347004 x347005 x347006 x347007 1).bind fun bt365 => ((laws_heldSock.f k x347000 x347001 x347002 x347003 bt365.2.1 bt365.2.2 x347006 x347007 1).bind fun t368 => (if t368 < 0 then (some false) else (if t368 = bt365.1 then ((laws_toSock.f k x287000 x287001 x287002 x287003 x287004 x287005 x287006 x287007).bind fun bt369 => ((laws_toFrame.f x288000 x288001 x288002).bind fun bt381 => ((impl_Tell.f k bt369.1 bt369.2.1 bt369.2.2.1 bt369.2.2.2.1 bt369.2.2.2.2.1 bt369.2.2.2.2.2.1 bt369.2.2.2.2.2.2.1 bt369.2.2.2.2.2.2.2 bt381.1 bt381.2.1 bt381.2.2).bind fun bt384 => ((laws_eqSock.f k bt384.1 bt384.2.1 bt384.2.2.1 bt384.2.2.2.1 bt384.2.2.2.2.1 bt384.2.2.2.2.2.1 bt384.2.2.2.2.2.2.1 bt384.2.2.2.2.2.2.2 x318000 x318001 x318002 x318003 x318004 x318005 x318006 x318007).bind fun t397 => (if t397 = true then ((laws_heldSock.f k x347000 x347001 x347002 x347003 bt365.2.1 bt365.2.2 x347006 x347007 1).bind fun t398 => (if t398 < 0 then (some false) else (if t398 = bt365.1 then (some true) else (some false)))) else (some false)))))) else (some false)))))
def laws_FnExactTell.f (k : Nat) (a0_0 : Int) (a0_1 : Int) (a0_2 : Int) (a0_3 : Bool) (l0_4 : List Int) (l0_5 : List Int) (a0_6 : Int) (a0_7 : Int) (a1_0 : Int) (a1_1 : ByteArray) (a1_2 : Int) : Option (Bool) := (laws_szSock.f a0_0 a0_1 a0_2 a0_3 l0_4 l0_5 a0_6 a0_7 1048576).bind fun t288 => (if t288 < 0 then (some true) else ((laws_szFrame.f a1_0 a1_1 a1_2 t288).bind fun t289 => (if t289 < 0 then (some true) else ((laws_toSock.f k a0_0 a0_1 a0_2 a0_3 l0_4 l0_5 a0_6 a0_7).bind fun bt290 => ((laws_toFrame.f a1_0 a1_1 a1_2).bind fun bt302 => ((spec_Tell.f k bt290.1 bt290.2.1 bt290.2.2.1 bt290.2.2.2.1 bt290.2.2.2.2.1 bt290.2.2.2.2.2.1 bt290.2.2.2.2.2.2.1 bt290.2.2.2.2.2.2.2 bt302.1 bt302.2.1 bt302.2.2).bind fun bt305 => ((laws_toSock.f k a0_0 a0_1 a0_2 a0_3 l0_4 l0_5 a0_6 a0_7).bind fun bt318 => ((laws_toFrame.f a1_0 a1_1 a1_2).bind fun bt331 => ((impl_Tell.f k bt318.1 bt318.2.1 bt318.2.2.1 bt318.2.2.2.1 bt318.2.2.2.2.1 bt318.2.2.2.2.2.1 bt318.2.2.2.2.2.2.1 bt318.2.2.2.2.2.2.2 bt331.1 bt331.2.1 bt331.2.2).bind fun bt334 => ((laws_eqSock.f k bt334.1 bt334.2.1 bt334.2.2.1 bt334.2.2.2.1 bt334.2.2.2.2.1 bt334.2.2.2.2.2.1 bt334.2.2.2.2.2.2.1 bt334.2.2.2.2.2.2.2 bt305.1 bt305.2.1 bt305.2.2.1 bt305.2.2.2.1 bt305.2.2.2.2.1 bt305.2.2.2.2.2.1 bt305.2.2.2.2.2.2.1 bt305.2.2.2.2.2.2.2).bind fun t347 => (if t347 = true then ((laws_toSock.f k a0_0 a0_1 a0_2 a0_3 l0_4 l0_5 a0_6 a0_7).bind fun bt348 => ((laws_eqSock.f k bt318.1 bt318.2.1 bt318.2.2.1 bt318.2.2.2.1 bt318.2.2.2.2.1 bt318.2.2.2.2.2.1 bt318.2.2.2.2.2.2.1 bt318.2.2.2.2.2.2.2 bt348.1 bt348.2.1 bt348.2.2.1 bt348.2.2.2.1 bt348.2.2.2.2.1 bt348.2.2.2.2.2.1 bt348.2.2.2.2.2.2.1 bt348.2.2.2.2.2.2.2).bind fun t360 => (if t360 = true then ((laws_markSock.f k bt318.1 bt318.2.1 bt318.2.2.1 bt318.2.2.2.1 bt318.2.2.2.2.1 bt318.2.2.2.2.2.1 bt318.2.2.2.2.2.2.1 bt318.2.2.2.2.2.2.2 1).bind fun bt361 => (if bt361.1 < 0 then (laws_FnExactTell.j0 k true a0_0 a0_1 a0_2 a0_3 l0_4 l0_5 a0_6 a0_7 a1_0 a1_1 a1_2 bt305.1 bt305.2.1 bt305.2.2.1 bt305.2.2.2.1 bt305.2.2.2.2.1 bt305.2.2.2.2.2.1 bt305.2.2.2.2.2.2.1 bt305.2.2.2.2.2.2.2 bt334.1 bt334.2.1 bt334.2.2.1 bt334.2.2.2.1 bt334.2.2.2.2.1 bt334.2.2.2.2.2.1 bt334.2.2.2.2.2.2.1 bt334.2.2.2.2.2.2.2) else ((laws_eqSock.f k bt334.1 bt334.2.1 bt334.2.2.1 bt334.2.2.2.1 bt334.2.2.2.2.1 bt334.2.2.2.2.2.1 bt334.2.2.2.2.2.2.1 bt334.2.2.2.2.2.2.2 bt305.1 bt305.2.1 bt305.2.2.1 bt305.2.2.2.1 bt305.2.2.2.2.1 bt305.2.2.2.2.2.1 bt305.2.2.2.2.2.2.1 bt305.2.2.2.2.2.2.2).bind fun t364 => (laws_FnExactTell.j0 k (!t364) a0_0 a0_1 a0_2 a0_3 l0_4 l0_5 a0_6 a0_7 a1_0 a1_1 a1_2 bt305.1 bt305.2.1 bt305.2.2.1 bt305.2.2.2.1 bt305.2.2.2.2.1 bt305.2.2.2.2.2.1 bt305.2.2.2.2.2.2.1 bt305.2.2.2.2.2.2.2 bt334.1 bt334.2.1 bt334.2.2.1 bt334.2.2.2.1 bt334.2.2.2.2.1 bt334.2.2.2.2.2.1 bt334.2.2.2.2.2.2.1 bt334.2.2.2.2.2.2.2)))) else (some false)))) else (some false))))))))))))
theorem laws_FnExactTell.mono_l : ∀ k, (∀ y0 y1 y2 y3 y4 y5 y6 y7 y8 y9 y10 y11 y12 y13 y14 y15 y16 y17 y18 y19 y20 y21 y22 y23 y24 y25 y26 y27, LeO (laws_FnExactTell.j0 k y0 y1 y2 y3 y4 y5 y6 y7 y8 y9 y10 y11 y12 y13 y14 y15 y16 y17 y18 y19 y20 y21 y22 y23 y24 y25 y26 y27) (laws_FnExactTell.j0 (k + 1) y0 y1 y2 y3 y4 y5 y6 y7 y8 y9 y10 y11 y12 y13 y14 y15 y16 y17 y18 y19 y20 y21 y22 y23 y24 y25 y26 y27))
 | 0 => fun _ _ _ _ _ _ _ _ _ _ _ _ _ _ _ _ _ _ _ _ _ _ _ _ _ _ _ _ r h => by simp [laws_FnExactTell.j0] at h
 | k + 1 => by
  have ih0 := laws_FnExactTell.mono_l k
  ·
   intro y0 y1 y2 y3 y4 y5 y6 y7 y8 y9 y10 y11 y12 y13 y14 y15 y16 y17 y18 y19 y20 y21 y22 y23 y24 y25 y26 y27
   unfold laws_FnExactTell.j0
   repeat' first
   | (with_reducible exact ih0 _ _ _ _ _ _ _ _ _ _ _ _ _ _ _ _ _ _ _ _ _ _ _ _ _ _ _ _)
   | (with_reducible exact impl_Tell.mono _ _ _ _ _ _ _ _ _ _ _ _)
   | (with_reducible exact laws_eqSock.mono _ _ _ _ _ _ _ _ _ _ _ _ _ _ _ _ _)
   | (with_reducible exact laws_heldSock.mono _ _ _ _ _ _ _ _ _ _)
   | (with_reducible exact laws_markSock.mono _ _ _ _ _ _ _ _ _ _)
   | (with_reducible exact laws_toSock.mono _ _ _ _ _ _ _ _ _)
   | (with_reducible exact spec_Tell.mono _ _ _ _ _ _ _ _ _ _ _ _)
   | (with_reducible exact LeO.refl _)
   | (with_reducible exact LeO.none _)
   | (with_reducible refine LeO.ite ?_ ?_)
   | (with_reducible refine LeO.bind ?_ (fun _ => ?_))
   | exact ih0 _ _ _ _ _ _ _ _ _ _ _ _ _ _ _ _ _ _ _ _ _ _ _ _ _ _ _ _
   | exact impl_Tell.mono _ _ _ _ _ _ _ _ _ _ _ _
   | exact laws_eqSock.mono _ _ _ _ _ _ _ _ _ _ _ _ _ _ _ _ _
   | exact laws_heldSock.mono _ _ _ _ _ _ _ _ _ _
   | exact laws_markSock.mono _ _ _ _ _ _ _ _ _ _
   | exact laws_toSock.mono _ _ _ _ _ _ _ _ _
   | exact spec_Tell.mono _ _ _ _ _ _ _ _ _ _ _ _
   | exact LeO.none _
   | refine LeO.ite ?_ ?_
   | refine LeO.bind ?_ (fun _ => ?_)
theorem laws_FnExactTell.mono : ∀ a0 a1 a2 a3 a4 a5 a6 a7 a8 a9 a10 k, LeO (laws_FnExactTell.f k a0 a1 a2 a3 a4 a5 a6 a7 a8 a9 a10) (laws_FnExactTell.f (k + 1) a0 a1 a2 a3 a4 a5 a6 a7 a8 a9 a10) := by
 intro a0 a1 a2 a3 a4 a5 a6 a7 a8 a9 a10 k
 have ih0 := laws_FnExactTell.mono_l k
 unfold laws_FnExactTell.f
 repeat' first
   | (with_reducible exact ih0 _ _ _ _ _ _ _ _ _ _ _ _ _ _ _ _ _ _ _ _ _ _ _ _ _ _ _ _)
   | (with_reducible exact impl_Tell.mono _ _ _ _ _ _ _ _ _ _ _ _)
   | (with_reducible exact laws_eqSock.mono _ _ _ _ _ _ _ _ _ _ _ _ _ _ _ _ _)
   | (with_reducible exact laws_heldSock.mono _ _ _ _ _ _ _ _ _ _)
   | (with_reducible exact laws_markSock.mono _ _ _ _ _ _ _ _ _ _)
   | (with_reducible exact laws_toSock.mono _ _ _ _ _ _ _ _ _)
   | (with_reducible exact spec_Tell.mono _ _ _ _ _ _ _ _ _ _ _ _)
   | (with_reducible exact LeO.refl _)
   | (with_reducible exact LeO.none _)
   | (with_reducible refine LeO.ite ?_ ?_)
   | (with_reducible refine LeO.bind ?_ (fun _ => ?_))
   | exact ih0 _ _ _ _ _ _ _ _ _ _ _ _ _ _ _ _ _ _ _ _ _ _ _ _ _ _ _ _
   | exact impl_Tell.mono _ _ _ _ _ _ _ _ _ _ _ _
   | exact laws_eqSock.mono _ _ _ _ _ _ _ _ _ _ _ _ _ _ _ _ _
   | exact laws_heldSock.mono _ _ _ _ _ _ _ _ _ _
   | exact laws_markSock.mono _ _ _ _ _ _ _ _ _ _
   | exact laws_toSock.mono _ _ _ _ _ _ _ _ _
   | exact spec_Tell.mono _ _ _ _ _ _ _ _ _ _ _ _
   | exact LeO.none _
   | refine LeO.ite ?_ ?_
   | refine LeO.bind ?_ (fun _ => ?_)
def laws_FnExactTell.T8 : Bool × List (List Nat × List Nat) := (true, [([], []), ([0], [0]), ([], []), ([2, 1], [2]), ([1, 3, 3], [1, 3]), ([], []), ([5, 4, 4, 0, 1, 2, 3, 4, 5], [4, 5])])
def laws_FnExactTell.B8 : List Nat := [0, 1, 0, 7, 15, 0, 63]
theorem laws_FnExactTell.tab8 : rtab .any (opsOf Try.f3 8) = laws_FnExactTell.T8 := by kernel_rfl
theorem laws_FnExactTell.bits8 : waitsOk laws_FnExactTell.T8.2 laws_FnExactTell.B8 = true := by kernel_rfl
def laws_FnExactTell.T10 : Bool × List (List Nat × List Nat) := (true, [([], []), ([], []), ([1], [1]), ([0, 2, 2], [0, 2]), ([], []), ([4, 3, 3, 0, 1, 2, 3, 4], [3, 4])])
def laws_FnExactTell.B10 : List Nat := [0, 0, 2, 7, 0, 31]
theorem laws_FnExactTell.tab10 : rtab .any (opsOf Try.f3 10) = laws_FnExactTell.T10 := by kernel_rfl
theorem laws_FnExactTell.bits10 : waitsOk laws_FnExactTell.T10.2 laws_FnExactTell.B10 = true := by kernel_rfl
def laws_FnExactTell.T27 : Bool × List (List Nat × List Nat) := (true, [([], []), ([0], [0]), ([], []), ([2, 1], [2]), ([1, 3, 3], [1, 3]), ([], []), ([5, 4, 4, 0, 1, 2, 3, 4, 5], [4, 5])])
def laws_FnExactTell.B27 : List Nat := [0, 1, 0, 7, 15, 0, 63]
theorem laws_FnExactTell.tab27 : rtab .any (opsOf Try.f3 27) = laws_FnExactTell.T27 := by kernel_rfl
theorem laws_FnExactTell.bits27 : waitsOk laws_FnExactTell.T27.2 laws_FnExactTell.B27 = true := by kernel_rfl
set_option maxHeartbeats 8000000 in
set_option maxRecDepth 100000 in
theorem laws_FnExactTell.calls (k : Nat) (a0_0 : Int) (a0_1 : Int) (a0_2 : Int) (a0_3 : Bool) (A0_4 : Option Addr) (c0_4 : Nat) (l0_4 : List Int) (A0_5 : Option Addr) (c0_5 : Nat) (l0_5 : List Int) (a0_6 : Int) (a0_7 : Int) (a1_0 : Int) (a1_1 : ByteArray) (a1_2 : Int) (r : Bool) (w : World) (hr0_4 : Kd.C (Kd.int .u8) w A0_4 l0_4.length l0_4) (hc0_4 : l0_4.length ≤ c0_4) (hr0_5 : Kd.C (Kd.int .u8) w A0_5 l0_5.length l0_5) (hc0_5 : l0_5.length ≤ c0_5) (hr_ : Aside0 (r = true)) (h : laws_FnExactTell.f k a0_0 a0_1 a0_2 a0_3 l0_4 l0_5 a0_6 a0_7 a1_0 a1_1 a1_2 = some r) :
  Calls Try.prog 3 #[.agg #[.int .i64 a0_0, .int .i64 a0_1, .int .i64 a0_2, .bool a0_3, .slice A0_4 l0_4.length c0_4, .slice A0_5 l0_5.length c0_5, .int .i64 a0_6, .int .i64 a0_7], .agg #[.int .i64 a1_0, .string a1_1, .int .i64 a1_2]] w fun e w' => e = .returned (.bool r) ∧ Below w.heap.size w w' := by
 have hu24 := Try.underlying24
 have hu26 := Try.underlying26
 have hu29 := Try.underlying29
 have HR0_4 := Aside0.mk hr0_4
 have HC0_4 := Aside0.mk hc0_4
 clear hr0_4 hc0_4
 have HR0_5 := Aside0.mk hr0_5
 have HC0_5 := Aside0.mk hc0_5
 clear hr0_5 hc0_5
 have HB := Aside0.mk (Below.refl w.heap.size w)
 have H : ((laws_szSock.f a0_0 a0_1 a0_2 a0_3 l0_4 l0_5 a0_6 a0_7 1048576).bind fun t288 => (if t288 < 0 then (some true) else ((laws_szFrame.f a1_0 a1_1 a1_2 t288).bind fun t289 => (if t289 < 0 then (some true) else ((laws_toSock.f k a0_0 a0_1 a0_2 a0_3 l0_4 l0_5 a0_6 a0_7).bind fun bt290 => ((laws_toFrame.f a1_0 a1_1 a1_2).bind fun bt302 => ((spec_Tell.f k bt290.1 bt290.2.1 bt290.2.2.1 bt290.2.2.2.1 bt290.2.2.2.2.1 bt290.2.2.2.2.2.1 bt290.2.2.2.2.2.2.1 bt290.2.2.2.2.2.2.2 bt302.1 bt302.2.1 bt302.2.2).bind fun bt305 => ((laws_toSock.f k a0_0 a0_1 a0_2 a0_3 l0_4 l0_5 a0_6 a0_7).bind fun bt318 => ((laws_toFrame.f a1_0 a1_1 a1_2).bind fun bt331 => ((impl_Tell.f k bt318.1 bt318.2.1 bt318.2.2.1 bt318.2.2.2.1 bt318.2.2.2.2.1 bt318.2.2.2.2.2.1 bt318.2.2.2.2.2.2.1 bt318.2.2.2.2.2.2.2 bt331.1 bt331.2.1 bt331.2.2).bind fun bt334 => ((laws_eqSock.f k bt334.1 bt334.2.1 bt334.2.2.1 bt334.2.2.2.1 bt334.2.2.2.2.1 bt334.2.2.2.2.2.1 bt334.2.2.2.2.2.2.1 bt334.2.2.2.2.2.2.2 bt305.1 bt305.2.1 bt305.2.2.1 bt305.2.2.2.1 bt305.2.2.2.2.1 bt305.2.2.2.2.2.1 bt305.2.2.2.2.2.2.1 bt305.2.2.2.2.2.2.2).bind fun t347 => (if t347 = true then ((laws_toSock.f k a0_0 a0_1 a0_2 a0_3 l0_4 l0_5 a0_6 a0_7).bind fun bt348 => ((laws_eqSock.f k bt318.1 bt318.2.1 bt318.2.2.1 bt318.2.2.2.1 bt318.2.2.2.2.1 bt318.2.2.2.2.2.1 bt318.2.2.2.2.2.2.1 bt318.2.2.2.2.2.2.2 bt348.1 bt348.2.1 bt348.2.2.1 bt348.2.2.2.1 bt348.2.2.2.2.1 bt348.2.2.2.2.2.1 bt348.2.2.2.2.2.2.1 bt348.2.2.2.2.2.2.2).bind fun t360 => (if t360 = true then ((laws_markSock.f k bt318.1 bt318.2.1 bt318.2.2.1 bt318.2.2.2.1 bt318.2.2.2.2.1 bt318.2.2.2.2.2.1 bt318.2.2.2.2.2.2.1 bt318.2.2.2.2.2.2.2 1).bind fun bt361 => (if bt361.1 < 0 then (laws_FnExactTell.j0 k true a0_0 a0_1 a0_2 a0_3 l0_4 l0_5 a0_6 a0_7 a1_0 a1_1 a1_2 bt305.1 bt305.2.1 bt305.2.2.1 bt305.2.2.2.1 bt305.2.2.2.2.1 bt305.2.2.2.2.2.1 bt305.2.2.2.2.2.2.1 bt305.2.2.2.2.2.2.2 bt334.1 bt334.2.1 bt334.2.2.1 bt334.2.2.2.1 bt334.2.2.2.2.1 bt334.2.2.2.2.2.1 bt334.2.2.2.2.2.2.1 bt334.2.2.2.2.2.2.2) else ((laws_eqSock.f k bt334.1 bt334.2.1 bt334.2.2.1 bt334.2.2.2.1 bt334.2.2.2.2.1 bt334.2.2.2.2.2.1 bt334.2.2.2.2.2.2.1 bt334.2.2.2.2.2.2.2 bt305.1 bt305.2.1 bt305.2.2.1 bt305.2.2.2.1 bt305.2.2.2.2.1 bt305.2.2.2.2.2.1 bt305.2.2.2.2.2.2.1 bt305.2.2.2.2.2.2.2).bind fun t364 => (laws_FnExactTell.j0 k (!t364) a0_0 a0_1 a0_2 a0_3 l0_4 l0_5 a0_6 a0_7 a1_0 a1_1 a1_2 bt305.1 bt305.2.1 bt305.2.2.1 bt305.2.2.2.1 bt305.2.2.2.2.1 bt305.2.2.2.2.2.1 bt305.2.2.2.2.2.2.1 bt305.2.2.2.2.2.2.2 bt334.1 bt334.2.1 bt334.2.2.1 bt334.2.2.2.1 bt334.2.2.2.2.1 bt334.2.2.2.2.2.1 bt334.2.2.2.2.2.2.1 bt334.2.2.2.2.2.2.2)))) else (some false)))) else (some false))))))))))))) = some r := h
 clear h
 replace H := Option.bind_eq_some_iff.mp H
 obtain ⟨t288, A30, H⟩ := H
 replace H : (if t288 < 0 then (some true) else ((laws_szFrame.f a1_0 a1_1 a1_2 t288).bind fun t289 => (if t289 < 0 then (some true) else ((laws_toSock.f k a0_0 a0_1 a0_2 a0_3 l0_4 l0_5 a0_6 a0_7).bind fun bt290 => ((laws_toFrame.f a1_0 a1_1 a1_2).bind fun bt302 => ((spec_Tell.f k bt290.1 bt290.2.1 bt290.2.2.1 bt290.2.2.2.1 bt290.2.2.2.2.1 bt290.2.2.2.2.2.1 bt290.2.2.2.2.2.2.1 bt290.2.2.2.2.2.2.2 bt302.1 bt302.2.1 bt302.2.2).bind fun bt305 => ((laws_toSock.f k a0_0 a0_1 a0_2 a0_3 l0_4 l0_5 a0_6 a0_7).bind fun bt318 => ((laws_toFrame.f a1_0 a1_1 a1_2).bind fun bt331 => ((impl_Tell.f k bt318.1 bt318.2.1 bt318.2.2.1 bt318.2.2.2.1 bt318.2.2.2.2.1 bt318.2.2.2.2.2.1 bt318.2.2.2.2.2.2.1 bt318.2.2.2.2.2.2.2 bt331.1 bt331.2.1 bt331.2.2).bind fun bt334 => ((laws_eqSock.f k bt334.1 bt334.2.1 bt334.2.2.1 bt334.2.2.2.1 bt334.2.2.2.2.1 bt334.2.2.2.2.2.1 bt334.2.2.2.2.2.2.1 bt334.2.2.2.2.2.2.2 bt305.1 bt305.2.1 bt305.2.2.1 bt305.2.2.2.1 bt305.2.2.2.2.1 bt305.2.2.2.2.2.1 bt305.2.2.2.2.2.2.1 bt305.2.2.2.2.2.2.2).bind fun t347 => (if t347 = true then ((laws_toSock.f k a0_0 a0_1 a0_2 a0_3 l0_4 l0_5 a0_6 a0_7).bind fun bt348 => ((laws_eqSock.f k bt318.1 bt318.2.1 bt318.2.2.1 bt318.2.2.2.1 bt318.2.2.2.2.1 bt318.2.2.2.2.2.1 bt318.2.2.2.2.2.2.1 bt318.2.2.2.2.2.2.2 bt348.1 bt348.2.1 bt348.2.2.1 bt348.2.2.2.1 bt348.2.2.2.2.1 bt348.2.2.2.2.2.1 bt348.2.2.2.2.2.2.1 bt348.2.2.2.2.2.2.2).bind fun t360 => (if t360 = true then ((laws_markSock.f k bt318.1 bt318.2.1 bt318.2.2.1 bt318.2.2.2.1 bt318.2.2.2.2.1 bt318.2.2.2.2.2.1 bt318.2.2.2.2.2.2.1 bt318.2.2.2.2.2.2.2 1).bind fun bt361 => (if bt361.1 < 0 then (laws_FnExactTell.j0 k true a0_0 a0_1 a0_2 a0_3 l0_4 l0_5 a0_6 a0_7 a1_0 a1_1 a1_2 bt305.1 bt305.2.1 bt305.2.2.1 bt305.2.2.2.1 bt305.2.2.2.2.1 bt305.2.2.2.2.2.1 bt305.2.2.2.2.2.2.1 bt305.2.2.2.2.2.2.2 bt334.1 bt334.2.1 bt334.2.2.1 bt334.2.2.2.1 bt334.2.2.2.2.1 bt334.2.2.2.2.2.1 bt334.2.2.2.2.2.2.1 bt334.2.2.2.2.2.2.2) else ((laws_eqSock.f k bt334.1 bt334.2.1 bt334.2.2.1 bt334.2.2.2.1 bt334.2.2.2.2.1 bt334.2.2.2.2.2.1 bt334.2.2.2.2.2.2.1 bt334.2.2.2.2.2.2.2 bt305.1 bt305.2.1 bt305.2.2.1 bt305.2.2.2.1 bt305.2.2.2.2.1 bt305.2.2.2.2.2.1 bt305.2.2.2.2.2.2.1 bt305.2.2.2.2.2.2.2).bind fun t364 => (laws_FnExactTell.j0 k (!t364) a0_0 a0_1 a0_2 a0_3 l0_4 l0_5 a0_6 a0_7 a1_0 a1_1 a1_2 bt305.1 bt305.2.1 bt305.2.2.1 bt305.2.2.2.1 bt305.2.2.2.2.1 bt305.2.2.2.2.2.1 bt305.2.2.2.2.2.2.1 bt305.2.2.2.2.2.2.2 bt334.1 bt334.2.1 bt334.2.2.1 bt334.2.2.2.1 bt334.2.2.2.2.1 bt334.2.2.2.2.2.1 bt334.2.2.2.2.2.2.1 bt334.2.2.2.2.2.2.2)))) else (some false)))) else (some false)))))))))))) = some r := H
 have A3 := Aside0.mk A30
 clear A30
 have HC4 := Aside0.mk H
 clear H
 go_enter Try.func3, Try.ntmps3
 go_upto_if 17 with (first | ((with_reducible refine gate_dst (N := 2) rfl ?_); refine box_event ?hg (N := 2) ?hd (cs := #[.int .i64 a0_0, .int .i64 a0_1, .int .i64 a0_2, .bool a0_3, .slice A0_4 l0_4.length c0_4, .slice A0_5 l0_5.length c0_5, .int .i64 a0_6, .int .i64 a0_7]) (t := 24) ?hr ?_; (case hd => rfl); (case hg => rfl); (case hr => first | (go_simp; done) | (go_simp; rfl)); intro gb286 hg w5 hbox hb; have BK286 := am_ (hbox); have GW286 := am_ ((gG_ hg (qB HB))); have IGW286 := gI_ GW286; have GE286 := am_ ((gG_ hg (qB HB))); have IGE286 := gI_ GE286; replace HB := am_ (below_step (qB HB) hb); clear hb hbox hg) | ((with_reducible refine gate_dst (N := 3) rfl ?_); refine box_event ?hg (N := 3) ?hd (cs := #[.int .i64 a1_0, .string a1_1, .int .i64 a1_2]) (t := 26) ?hr ?_; (case hd => rfl); (case hg => rfl); (case hr => first | (go_simp; done) | (go_simp; rfl)); intro gb287 hg w6 hbox hb; have BK287 := am_ (hbox); have GW287 := am_ ((gG_ hg (qB HB))); have IGW287 := gI_ GW287; have GE287 := am_ ((gG_ hg (qB HB))); have IGE287 := gI_ GE287; replace HB := am_ (below_step (qB HB) hb); have NB286_287 := am_ ((gN_ hg (qK BK286))); have NB287_286 := am_ ((gM_ hg (qK BK286))); replace BK286 := am_ (blk_below (qK BK286) hb); clear hb hbox hg; have hnb7 := NB286_287.out; have hnc7 := NB287_286.out; obtain ⟨hcz8_0, hcz8_1, hcz8_2, hcz8_3, hcz8_4, hcz8_5, hcz8_6, hcz8_7⟩ := cz8 BK286.out; obtain ⟨hfz8_0, hfz8_1, hfz8_2, hfz8_3, hfz8_4, hfz8_5, hfz8_6, hfz8_7⟩ := fz8 BK286.out) | ((with_reducible refine gate_callee (f := 15) rfl ?_); refine goesL_ (some 15) rfl rfl Try.func15 (by kernel_rfl) rfl #[.agg #[.int .i64 a0_0, .int .i64 a0_1, .int .i64 a0_2, .bool a0_3, .slice A0_4 l0_4.length c0_4, .slice A0_5 l0_5.length c0_5, .int .i64 a0_6, .int .i64 a0_7], .int .i64 1048576] rfl (by (try simp only [List.map_toArray, List.map_cons, List.map_nil]); first | done | rfl | (simp only [List.length_drop, List.length_take]; rfl)) ?_; (with_reducible refine (laws_szSock.calls a0_0 a0_1 a0_2 a0_3 _ _ l0_4 _ _ l0_5 a0_6 a0_7 1048576 t288 _ ?side1 ?side2 ?side3 ?side4 A3.out).mono ?_); (case side1 => exact qC (Kd.C_below HR0_4.out HB.out)); (case side2 => exact HC0_4.out); (case side3 => exact qC (Kd.C_below HR0_5.out HB.out)); (case side4 => exact HC0_5.out); rintro e w9 ⟨rfl, hb⟩; refine ⟨_, rfl, ?_⟩; replace BK286 := am_ (blk_below (qK BK286) hb); replace BK287 := am_ (blk_below (qK BK287) hb); replace HB := am_ (below_step (qB HB) hb); (try clear hb); (try clear hb2); (try clear hk); (try clear hi)))
 (try simp only [Act.put, List.setIfInBounds_toArray, List.set_cons_zero, List.set_cons_succ])
 have H := HC4.out
 clear HC4
 by_cases c10 : t288 < 0
 ·
  rw [if_pos c10] at H
  have c10b0 : decide (t288 < 0) = true := decide_eq_true c10
  clear c10
  (first | rw [c10b0] | (simp only [i64_w, i32_w]; rw [c10b0]) | skip)
  obtain rfl := Option.some.inj H
  go_wp2
  go_ret
  exact ⟨by first | rfl | (simp [errW_none, errW_some] <;> rfl) | (simp [*, errW_none, errW_some] <;> rfl), qB HB⟩
 ·
  rw [if_neg c10] at H
  have c10b0 : decide (t288 < 0) = false := decide_eq_false c10
  clear c10
  (first | rw [c10b0] | (simp only [i64_w, i32_w]; rw [c10b0]) | skip)
  replace H := Option.bind_eq_some_iff.mp H
  obtain ⟨t289, A110, H⟩ := H
  replace H : (if t289 < 0 then (some true) else ((laws_toSock.f k a0_0 a0_1 a0_2 a0_3 l0_4 l0_5 a0_6 a0_7).bind fun bt290 => ((laws_toFrame.f a1_0 a1_1 a1_2).bind fun bt302 => ((spec_Tell.f k bt290.1 bt290.2.1 bt290.2.2.1 bt290.2.2.2.1 bt290.2.2.2.2.1 bt290.2.2.2.2.2.1 bt290.2.2.2.2.2.2.1 bt290.2.2.2.2.2.2.2 bt302.1 bt302.2.1 bt302.2.2).bind fun bt305 => ((laws_toSock.f k a0_0 a0_1 a0_2 a0_3 l0_4 l0_5 a0_6 a0_7).bind fun bt318 => ((laws_toFrame.f a1_0 a1_1 a1_2).bind fun bt331 => ((impl_Tell.f k bt318.1 bt318.2.1 bt318.2.2.1 bt318.2.2.2.1 bt318.2.2.2.2.1 bt318.2.2.2.2.2.1 bt318.2.2.2.2.2.2.1 bt318.2.2.2.2.2.2.2 bt331.1 bt331.2.1 bt331.2.2).bind fun bt334 => ((laws_eqSock.f k bt334.1 bt334.2.1 bt334.2.2.1 bt334.2.2.2.1 bt334.2.2.2.2.1 bt334.2.2.2.2.2.1 bt334.2.2.2.2.2.2.1 bt334.2.2.2.2.2.2.2 bt305.1 bt305.2.1 bt305.2.2.1 bt305.2.2.2.1 bt305.2.2.2.2.1 bt305.2.2.2.2.2.1 bt305.2.2.2.2.2.2.1 bt305.2.2.2.2.2.2.2).bind fun t347 => (if t347 = true then ((laws_toSock.f k a0_0 a0_1 a0_2 a0_3 l0_4 l0_5 a0_6 a0_7).bind fun bt348 => ((laws_eqSock.f k bt318.1 bt318.2.1 bt318.2.2.1 bt318.2.2.2.1 bt318.2.2.2.2.1 bt318.2.2.2.2.2.1 bt318.2.2.2.2.2.2.1 bt318.2.2.2.2.2.2.2 bt348.1 bt348.2.1 bt348.2.2.1 bt348.2.2.2.1 bt348.2.2.2.2.1 bt348.2.2.2.2.2.1 bt348.2.2.2.2.2.2.1 bt348.2.2.2.2.2.2.2).bind fun t360 => (if t360 = true then ((laws_markSock.f k bt318.1 bt318.2.1 bt318.2.2.1 bt318.2.2.2.1 bt318.2.2.2.2.1 bt318.2.2.2.2.2.1 bt318.2.2.2.2.2.2.1 bt318.2.2.2.2.2.2.2 1).bind fun bt361 => (if bt361.1 < 0 then (laws_FnExactTell.j0 k true a0_0 a0_1 a0_2 a0_3 l0_4 l0_5 a0_6 a0_7 a1_0 a1_1 a1_2 bt305.1 bt305.2.1 bt305.2.2.1 bt305.2.2.2.1 bt305.2.2.2.2.1 bt305.2.2.2.2.2.1 bt305.2.2.2.2.2.2.1 bt305.2.2.2.2.2.2.2 bt334.1 bt334.2.1 bt334.2.2.1 bt334.2.2.2.1 bt334.2.2.2.2.1 bt334.2.2.2.2.2.1 bt334.2.2.2.2.2.2.1 bt334.2.2.2.2.2.2.2) else ((laws_eqSock.f k bt334.1 bt334.2.1 bt334.2.2.1 bt334.2.2.2.1 bt334.2.2.2.2.1 bt334.2.2.2.2.2.1 bt334.2.2.2.2.2.2.1 bt334.2.2.2.2.2.2.2 bt305.1 bt305.2.1 bt305.2.2.1 bt305.2.2.2.1 bt305.2.2.2.2.1 bt305.2.2.2.2.2.1 bt305.2.2.2.2.2.2.1 bt305.2.2.2.2.2.2.2).bind fun t364 => (laws_FnExactTell.j0 k (!t364) a0_0 a0_1 a0_2 a0_3 l0_4 l0_5 a0_6 a0_7 a1_0 a1_1 a1_2 bt305.1 bt305.2.1 bt305.2.2.1 bt305.2.2.2.1 bt305.2.2.2.2.1 bt305.2.2.2.2.2.1 bt305.2.2.2.2.2.2.1 bt305.2.2.2.2.2.2.2 bt334.1 bt334.2.1 bt334.2.2.1 bt334.2.2.2.1 bt334.2.2.2.2.1 bt334.2.2.2.2.2.1 bt334.2.2.2.2.2.2.1 bt334.2.2.2.2.2.2.2)))) else (some false)))) else (some false)))))))))) = some r := H
  have A11 := Aside0.mk A110
  clear A110
  have HC12 := Aside0.mk H
  clear H
  have hnb13 := NB287_286.out
  have hnc13 := NB286_287.out
  obtain ⟨hcz14_0, hcz14_1, hcz14_2⟩ := cz3 BK287.out
  obtain ⟨hfz14_0, hfz14_1, hfz14_2⟩ := fz3 BK287.out
  go_upto_if 22 with (first | ((with_reducible refine gate_callee (f := 16) rfl ?_); refine goesL_ (some 20) rfl rfl Try.func16 (by kernel_rfl) rfl #[.agg #[.int .i64 a1_0, .string a1_1, .int .i64 a1_2], .int .i64 t288] rfl (by (try simp only [List.map_toArray, List.map_cons, List.map_nil]); first | done | rfl | (simp only [List.length_drop, List.length_take]; rfl)) ?_; (with_reducible refine (laws_szFrame.calls a1_0 a1_1 a1_2 t288 t289 _ A11.out).mono ?_); rintro e w15 ⟨rfl, hb⟩; refine ⟨_, rfl, ?_⟩; replace BK286 := am_ (blk_below (qK BK286) hb); replace BK287 := am_ (blk_below (qK BK287) hb); replace HB := am_ (below_step (qB HB) hb); (try clear hb); (try clear hb2); (try clear hk); (try clear hi)))
  (try simp only [Act.put, List.setIfInBounds_toArray, List.set_cons_zero, List.set_cons_succ])
  have H := HC12.out
  clear HC12
  by_cases c16 : t289 < 0
  ·
   rw [if_pos c16] at H
   have c16b0 : decide (t289 < 0) = true := decide_eq_true c16
   clear c16
   (first | rw [c16b0] | (simp only [i64_w, i32_w]; rw [c16b0]) | skip)
   obtain rfl := Option.some.inj H
   go_wp2
   go_ret
   exact ⟨by first | rfl | (simp [errW_none, errW_some] <;> rfl) | (simp [*, errW_none, errW_some] <;> rfl), qB HB⟩
  ·
   rw [if_neg c16] at H
   have c16b0 : decide (t289 < 0) = false := decide_eq_false c16
   clear c16
   (first | rw [c16b0] | (simp only [i64_w, i32_w]; rw [c16b0]) | skip)
   replace H := Option.bind_eq_some_iff.mp H
   obtain ⟨⟨t290, t291, t292, t293, t294, t297, t300, t301⟩, A170, H⟩ := H
   replace H : ((laws_toFrame.f a1_0 a1_1 a1_2).bind fun bt302 => ((spec_Tell.f k t290 t291 t292 t293 t294 t297 t300 t301 bt302.1 bt302.2.1 bt302.2.2).bind fun bt305 => ((laws_toSock.f k a0_0 a0_1 a0_2 a0_3 l0_4 l0_5 a0_6 a0_7).bind fun bt318 => ((laws_toFrame.f a1_0 a1_1 a1_2).bind fun bt331 => ((impl_Tell.f k bt318.1 bt318.2.1 bt318.2.2.1 bt318.2.2.2.1 bt318.2.2.2.2.1 bt318.2.2.2.2.2.1 bt318.2.2.2.2.2.2.1 bt318.2.2.2.2.2.2.2 bt331.1 bt331.2.1 bt331.2.2).bind fun bt334 => ((laws_eqSock.f k bt334.1 bt334.2.1 bt334.2.2.1 bt334.2.2.2.1 bt334.2.2.2.2.1 bt334.2.2.2.2.2.1 bt334.2.2.2.2.2.2.1 bt334.2.2.2.2.2.2.2 bt305.1 bt305.2.1 bt305.2.2.1 bt305.2.2.2.1 bt305.2.2.2.2.1 bt305.2.2.2.2.2.1 bt305.2.2.2.2.2.2.1 bt305.2.2.2.2.2.2.2).bind fun t347 => (if t347 = true then ((laws_toSock.f k a0_0 a0_1 a0_2 a0_3 l0_4 l0_5 a0_6 a0_7).bind fun bt348 => ((laws_eqSock.f k bt318.1 bt318.2.1 bt318.2.2.1 bt318.2.2.2.1 bt318.2.2.2.2.1 bt318.2.2.2.2.2.1 bt318.2.2.2.2.2.2.1 bt318.2.2.2.2.2.2.2 bt348.1 bt348.2.1 bt348.2.2.1 bt348.2.2.2.1 bt348.2.2.2.2.1 bt348.2.2.2.2.2.1 bt348.2.2.2.2.2.2.1 bt348.2.2.2.2.2.2.2).bind fun t360 => (if t360 = true then ((laws_markSock.f k bt318.1 bt318.2.1 bt318.2.2.1 bt318.2.2.2.1 bt318.2.2.2.2.1 bt318.2.2.2.2.2.1 bt318.2.2.2.2.2.2.1 bt318.2.2.2.2.2.2.2 1).bind fun bt361 => (if bt361.1 < 0 then (laws_FnExactTell.j0 k true a0_0 a0_1 a0_2 a0_3 l0_4 l0_5 a0_6 a0_7 a1_0 a1_1 a1_2 bt305.1 bt305.2.1 bt305.2.2.1 bt305.2.2.2.1 bt305.2.2.2.2.1 bt305.2.2.2.2.2.1 bt305.2.2.2.2.2.2.1 bt305.2.2.2.2.2.2.2 bt334.1 bt334.2.1 bt334.2.2.1 bt334.2.2.2.1 bt334.2.2.2.2.1 bt334.2.2.2.2.2.1 bt334.2.2.2.2.2.2.1 bt334.2.2.2.2.2.2.2) else ((laws_eqSock.f k bt334.1 bt334.2.1 bt334.2.2.1 bt334.2.2.2.1 bt334.2.2.2.2.1 bt334.2.2.2.2.2.1 bt334.2.2.2.2.2.2.1 bt334.2.2.2.2.2.2.2 bt305.1 bt305.2.1 bt305.2.2.1 bt305.2.2.2.1 bt305.2.2.2.2.1 bt305.2.2.2.2.2.1 bt305.2.2.2.2.2.2.1 bt305.2.2.2.2.2.2.2).bind fun t364 => (laws_FnExactTell.j0 k (!t364) a0_0 a0_1 a0_2 a0_3 l0_4 l0_5 a0_6 a0_7 a1_0 a1_1 a1_2 bt305.1 bt305.2.1 bt305.2.2.1 bt305.2.2.2.1 bt305.2.2.2.2.1 bt305.2.2.2.2.2.1 bt305.2.2.2.2.2.2.1 bt305.2.2.2.2.2.2.2 bt334.1 bt334.2.1 bt334.2.2.1 bt334.2.2.2.1 bt334.2.2.2.2.1 bt334.2.2.2.2.2.1 bt334.2.2.2.2.2.2.1 bt334.2.2.2.2.2.2.2)))) else (some false)))) else (some false)))))))) = some r := H
   have A17 := Aside0.mk A170
   clear A170
   replace H := Option.bind_eq_some_iff.mp H
   obtain ⟨⟨t302, t303, t304⟩, A180, H⟩ := H
   replace H : ((spec_Tell.f k t290 t291 t292 t293 t294 t297 t300 t301 t302 t303 t304).bind fun bt305 => ((laws_toSock.f k a0_0 a0_1 a0_2 a0_3 l0_4 l0_5 a0_6 a0_7).bind fun bt318 => ((laws_toFrame.f a1_0 a1_1 a1_2).bind fun bt331 => ((impl_Tell.f k bt318.1 bt318.2.1 bt318.2.2.1 bt318.2.2.2.1 bt318.2.2.2.2.1 bt318.2.2.2.2.2.1 bt318.2.2.2.2.2.2.1 bt318.2.2.2.2.2.2.2 bt331.1 bt331.2.1 bt331.2.2).bind fun bt334 => ((laws_eqSock.f k bt334.1 bt334.2.1 bt334.2.2.1 bt334.2.2.2.1 bt334.2.2.2.2.1 bt334.2.2.2.2.2.1 bt334.2.2.2.2.2.2.1 bt334.2.2.2.2.2.2.2 bt305.1 bt305.2.1 bt305.2.2.1 bt305.2.2.2.1 bt305.2.2.2.2.1 bt305.2.2.2.2.2.1 bt305.2.2.2.2.2.2.1 bt305.2.2.2.2.2.2.2).bind fun t347 => (if t347 = true then ((laws_toSock.f k a0_0 a0_1 a0_2 a0_3 l0_4 l0_5 a0_6 a0_7).bind fun bt348 => ((laws_eqSock.f k bt318.1 bt318.2.1 bt318.2.2.1 bt318.2.2.2.1 bt318.2.2.2.2.1 bt318.2.2.2.2.2.1 bt318.2.2.2.2.2.2.1 bt318.2.2.2.2.2.2.2 bt348.1 bt348.2.1 bt348.2.2.1 bt348.2.2.2.1 bt348.2.2.2.2.1 bt348.2.2.2.2.2.1 bt348.2.2.2.2.2.2.1 bt348.2.2.2.2.2.2.2).bind fun t360 => (if t360 = true then ((laws_markSock.f k bt318.1 bt318.2.1 bt318.2.2.1 bt318.2.2.2.1 bt318.2.2.2.2.1 bt318.2.2.2.2.2.1 bt318.2.2.2.2.2.2.1 bt318.2.2.2.2.2.2.2 1).bind fun bt361 => (if bt361.1 < 0 then (laws_FnExactTell.j0 k true a0_0 a0_1 a0_2 a0_3 l0_4 l0_5 a0_6 a0_7 a1_0 a1_1 a1_2 bt305.1 bt305.2.1 bt305.2.2.1 bt305.2.2.2.1 bt305.2.2.2.2.1 bt305.2.2.2.2.2.1 bt305.2.2.2.2.2.2.1 bt305.2.2.2.2.2.2.2 bt334.1 bt334.2.1 bt334.2.2.1 bt334.2.2.2.1 bt334.2.2.2.2.1 bt334.2.2.2.2.2.1 bt334.2.2.2.2.2.2.1 bt334.2.2.2.2.2.2.2) else ((laws_eqSock.f k bt334.1 bt334.2.1 bt334.2.2.1 bt334.2.2.2.1 bt334.2.2.2.2.1 bt334.2.2.2.2.2.1 bt334.2.2.2.2.2.2.1 bt334.2.2.2.2.2.2.2 bt305.1 bt305.2.1 bt305.2.2.1 bt305.2.2.2.1 bt305.2.2.2.2.1 bt305.2.2.2.2.2.1 bt305.2.2.2.2.2.2.1 bt305.2.2.2.2.2.2.2).bind fun t364 => (laws_FnExactTell.j0 k (!t364) a0_0 a0_1 a0_2 a0_3 l0_4 l0_5 a0_6 a0_7 a1_0 a1_1 a1_2 bt305.1 bt305.2.1 bt305.2.2.1 bt305.2.2.2.1 bt305.2.2.2.2.1 bt305.2.2.2.2.2.1 bt305.2.2.2.2.2.2.1 bt305.2.2.2.2.2.2.2 bt334.1 bt334.2.1 bt334.2.2.1 bt334.2.2.2.1 bt334.2.2.2.2.1 bt334.2.2.2.2.2.1 bt334.2.2.2.2.2.2.1 bt334.2.2.2.2.2.2.2)))) else (some false)))) else (some false))))))) = some r := H
   have A18 := Aside0.mk A180
   clear A180
   replace H := Option.bind_eq_some_iff.mp H
   obtain ⟨⟨t305, t306, t307, t308, t309, t312, t315, t316⟩, A190, H⟩ := H
   replace H : ((laws_toSock.f k a0_0 a0_1 a0_2 a0_3 l0_4 l0_5 a0_6 a0_7).bind fun bt318 => ((laws_toFrame.f a1_0 a1_1 a1_2).bind fun bt331 => ((impl_Tell.f k bt318.1 bt318.2.1 bt318.2.2.1 bt318.2.2.2.1 bt318.2.2.2.2.1 bt318.2.2.2.2.2.1 bt318.2.2.2.2.2.2.1 bt318.2.2.2.2.2.2.2 bt331.1 bt331.2.1 bt331.2.2).bind fun bt334 => ((laws_eqSock.f k bt334.1 bt334.2.1 bt334.2.2.1 bt334.2.2.2.1 bt334.2.2.2.2.1 bt334.2.2.2.2.2.1 bt334.2.2.2.2.2.2.1 bt334.2.2.2.2.2.2.2 t305 t306 t307 t308 t309 t312 t315 t316).bind fun t347 => (if t347 = true then ((laws_toSock.f k a0_0 a0_1 a0_2 a0_3 l0_4 l0_5 a0_6 a0_7).bind fun bt348 => ((laws_eqSock.f k bt318.1 bt318.2.1 bt318.2.2.1 bt318.2.2.2.1 bt318.2.2.2.2.1 bt318.2.2.2.2.2.1 bt318.2.2.2.2.2.2.1 bt318.2.2.2.2.2.2.2 bt348.1 bt348.2.1 bt348.2.2.1 bt348.2.2.2.1 bt348.2.2.2.2.1 bt348.2.2.2.2.2.1 bt348.2.2.2.2.2.2.1 bt348.2.2.2.2.2.2.2).bind fun t360 => (if t360 = true then ((laws_markSock.f k bt318.1 bt318.2.1 bt318.2.2.1 bt318.2.2.2.1 bt318.2.2.2.2.1 bt318.2.2.2.2.2.1 bt318.2.2.2.2.2.2.1 bt318.2.2.2.2.2.2.2 1).bind fun bt361 => (if bt361.1 < 0 then (laws_FnExactTell.j0 k true a0_0 a0_1 a0_2 a0_3 l0_4 l0_5 a0_6 a0_7 a1_0 a1_1 a1_2 t305 t306 t307 t308 t309 t312 t315 t316 bt334.1 bt334.2.1 bt334.2.2.1 bt334.2.2.2.1 bt334.2.2.2.2.1 bt334.2.2.2.2.2.1 bt334.2.2.2.2.2.2.1 bt334.2.2.2.2.2.2.2) else ((laws_eqSock.f k bt334.1 bt334.2.1 bt334.2.2.1 bt334.2.2.2.1 bt334.2.2.2.2.1 bt334.2.2.2.2.2.1 bt334.2.2.2.2.2.2.1 bt334.2.2.2.2.2.2.2 t305 t306 t307 t308 t309 t312 t315 t316).bind fun t364 => (laws_FnExactTell.j0 k (!t364) a0_0 a0_1 a0_2 a0_3 l0_4 l0_5 a0_6 a0_7 a1_0 a1_1 a1_2 t305 t306 t307 t308 t309 t312 t315 t316 bt334.1 bt334.2.1 bt334.2.2.1 bt334.2.2.2.1 bt334.2.2.2.2.1 bt334.2.2.2.2.2.1 bt334.2.2.2.2.2.2.1 bt334.2.2.2.2.2.2.2)))) else (some false)))) else (some false)))))) = some r := H
   have A19 := Aside0.mk A190
   clear A190
   replace H := Option.bind_eq_some_iff.mp H
   obtain ⟨⟨t318, t319, t320, t321, t322, t325, t328, t329⟩, A200, H⟩ := H
   replace H : ((laws_toFrame.f a1_0 a1_1 a1_2).bind fun bt331 => ((impl_Tell.f k t318 t319 t320 t321 t322 t325 t328 t329 bt331.1 bt331.2.1 bt331.2.2).bind fun bt334 => ((laws_eqSock.f k bt334.1 bt334.2.1 bt334.2.2.1 bt334.2.2.2.1 bt334.2.2.2.2.1 bt334.2.2.2.2.2.1 bt334.2.2.2.2.2.2.1 bt334.2.2.2.2.2.2.2 t305 t306 t307 t308 t309 t312 t315 t316).bind fun t347 => (if t347 = true then ((laws_toSock.f k a0_0 a0_1 a0_2 a0_3 l0_4 l0_5 a0_6 a0_7).bind fun bt348 => ((laws_eqSock.f k t318 t319 t320 t321 t322 t325 t328 t329 bt348.1 bt348.2.1 bt348.2.2.1 bt348.2.2.2.1 bt348.2.2.2.2.1 bt348.2.2.2.2.2.1 bt348.2.2.2.2.2.2.1 bt348.2.2.2.2.2.2.2).bind fun t360 => (if t360 = true then ((laws_markSock.f k t318 t319 t320 t321 t322 t325 t328 t329 1).bind fun bt361 => (if bt361.1 < 0 then (laws_FnExactTell.j0 k true a0_0 a0_1 a0_2 a0_3 l0_4 l0_5 a0_6 a0_7 a1_0 a1_1 a1_2 t305 t306 t307 t308 t309 t312 t315 t316 bt334.1 bt334.2.1 bt334.2.2.1 bt334.2.2.2.1 bt334.2.2.2.2.1 bt334.2.2.2.2.2.1 bt334.2.2.2.2.2.2.1 bt334.2.2.2.2.2.2.2) else ((laws_eqSock.f k bt334.1 bt334.2.1 bt334.2.2.1 bt334.2.2.2.1 bt334.2.2.2.2.1 bt334.2.2.2.2.2.1 bt334.2.2.2.2.2.2.1 bt334.2.2.2.2.2.2.2 t305 t306 t307 t308 t309 t312 t315 t316).bind fun t364 => (laws_FnExactTell.j0 k (!t364) a0_0 a0_1 a0_2 a0_3 l0_4 l0_5 a0_6 a0_7 a1_0 a1_1 a1_2 t305 t306 t307 t308 t309 t312 t315 t316 bt334.1 bt334.2.1 bt334.2.2.1 bt334.2.2.2.1 bt334.2.2.2.2.1 bt334.2.2.2.2.2.1 bt334.2.2.2.2.2.2.1 bt334.2.2.2.2.2.2.2)))) else (some false)))) else (some false))))) = some r := H
   have A20 := Aside0.mk A200
   clear A200
   replace H := Option.bind_eq_some_iff.mp H
   obtain ⟨⟨t331, t332, t333⟩, A210, H⟩ := H
   replace H : ((impl_Tell.f k t318 t319 t320 t321 t322 t325 t328 t329 t331 t332 t333).bind fun bt334 => ((laws_eqSock.f k bt334.1 bt334.2.1 bt334.2.2.1 bt334.2.2.2.1 bt334.2.2.2.2.1 bt334.2.2.2.2.2.1 bt334.2.2.2.2.2.2.1 bt334.2.2.2.2.2.2.2 t305 t306 t307 t308 t309 t312 t315 t316).bind fun t347 => (if t347 = true then ((laws_toSock.f k a0_0 a0_1 a0_2 a0_3 l0_4 l0_5 a0_6 a0_7).bind fun bt348 => ((laws_eqSock.f k t318 t319 t320 t321 t322 t325 t328 t329 bt348.1 bt348.2.1 bt348.2.2.1 bt348.2.2.2.1 bt348.2.2.2.2.1 bt348.2.2.2.2.2.1 bt348.2.2.2.2.2.2.1 bt348.2.2.2.2.2.2.2).bind fun t360 => (if t360 = true then ((laws_markSock.f k t318 t319 t320 t321 t322 t325 t328 t329 1).bind fun bt361 => (if bt361.1 < 0 then (laws_FnExactTell.j0 k true a0_0 a0_1 a0_2 a0_3 l0_4 l0_5 a0_6 a0_7 a1_0 a1_1 a1_2 t305 t306 t307 t308 t309 t312 t315 t316 bt334.1 bt334.2.1 bt334.2.2.1 bt334.2.2.2.1 bt334.2.2.2.2.1 bt334.2.2.2.2.2.1 bt334.2.2.2.2.2.2.1 bt334.2.2.2.2.2.2.2) else ((laws_eqSock.f k bt334.1 bt334.2.1 bt334.2.2.1 bt334.2.2.2.1 bt334.2.2.2.2.1 bt334.2.2.2.2.2.1 bt334.2.2.2.2.2.2.1 bt334.2.2.2.2.2.2.2 t305 t306 t307 t308 t309 t312 t315 t316).bind fun t364 => (laws_FnExactTell.j0 k (!t364) a0_0 a0_1 a0_2 a0_3 l0_4 l0_5 a0_6 a0_7 a1_0 a1_1 a1_2 t305 t306 t307 t308 t309 t312 t315 t316 bt334.1 bt334.2.1 bt334.2.2.1 bt334.2.2.2.1 bt334.2.2.2.2.1 bt334.2.2.2.2.2.1 bt334.2.2.2.2.2.2.1 bt334.2.2.2.2.2.2.2)))) else (some false)))) else (some false)))) = some r := H
   have A21 := Aside0.mk A210
   clear A210
   replace H := Option.bind_eq_some_iff.mp H
   obtain ⟨⟨t334, t335, t336, t337, t338, t341, t344, t345⟩, A220, H⟩ := H
   replace H : ((laws_eqSock.f k t334 t335 t336 t337 t338 t341 t344 t345 t305 t306 t307 t308 t309 t312 t315 t316).bind fun t347 => (if t347 = true then ((laws_toSock.f k a0_0 a0_1 a0_2 a0_3 l0_4 l0_5 a0_6 a0_7).bind fun bt348 => ((laws_eqSock.f k t318 t319 t320 t321 t322 t325 t328 t329 bt348.1 bt348.2.1 bt348.2.2.1 bt348.2.2.2.1 bt348.2.2.2.2.1 bt348.2.2.2.2.2.1 bt348.2.2.2.2.2.2.1 bt348.2.2.2.2.2.2.2).bind fun t360 => (if t360 = true then ((laws_markSock.f k t318 t319 t320 t321 t322 t325 t328 t329 1).bind fun bt361 => (if bt361.1 < 0 then (laws_FnExactTell.j0 k true a0_0 a0_1 a0_2 a0_3 l0_4 l0_5 a0_6 a0_7 a1_0 a1_1 a1_2 t305 t306 t307 t308 t309 t312 t315 t316 t334 t335 t336 t337 t338 t341 t344 t345) else ((laws_eqSock.f k t334 t335 t336 t337 t338 t341 t344 t345 t305 t306 t307 t308 t309 t312 t315 t316).bind fun t364 => (laws_FnExactTell.j0 k (!t364) a0_0 a0_1 a0_2 a0_3 l0_4 l0_5 a0_6 a0_7 a1_0 a1_1 a1_2 t305 t306 t307 t308 t309 t312 t315 t316 t334 t335 t336 t337 t338 t341 t344 t345)))) else (some false)))) else (some false))) = some r := H
   have A22 := Aside0.mk A220
   clear A220
   replace H := Option.bind_eq_some_iff.mp H
   obtain ⟨t347, A230, H⟩ := H
   replace H : (if t347 = true then ((laws_toSock.f k a0_0 a0_1 a0_2 a0_3 l0_4 l0_5 a0_6 a0_7).bind fun bt348 => ((laws_eqSock.f k t318 t319 t320 t321 t322 t325 t328 t329 bt348.1 bt348.2.1 bt348.2.2.1 bt348.2.2.2.1 bt348.2.2.2.2.1 bt348.2.2.2.2.2.1 bt348.2.2.2.2.2.2.1 bt348.2.2.2.2.2.2.2).bind fun t360 => (if t360 = true then ((laws_markSock.f k t318 t319 t320 t321 t322 t325 t328 t329 1).bind fun bt361 => (if bt361.1 < 0 then (laws_FnExactTell.j0 k true a0_0 a0_1 a0_2 a0_3 l0_4 l0_5 a0_6 a0_7 a1_0 a1_1 a1_2 t305 t306 t307 t308 t309 t312 t315 t316 t334 t335 t336 t337 t338 t341 t344 t345) else ((laws_eqSock.f k t334 t335 t336 t337 t338 t341 t344 t345 t305 t306 t307 t308 t309 t312 t315 t316).bind fun t364 => (laws_FnExactTell.j0 k (!t364) a0_0 a0_1 a0_2 a0_3 l0_4 l0_5 a0_6 a0_7 a1_0 a1_1 a1_2 t305 t306 t307 t308 t309 t312 t315 t316 t334 t335 t336 t337 t338 t341 t344 t345)))) else (some false)))) else (some false)) = some r := H
   have A23 := Aside0.mk A230
   clear A230
   by_cases c24 : t347 = true
   ·
    subst c24
    have H1 : ((laws_toSock.f k a0_0 a0_1 a0_2 a0_3 l0_4 l0_5 a0_6 a0_7).bind fun bt348 => ((laws_eqSock.f k t318 t319 t320 t321 t322 t325 t328 t329 bt348.1 bt348.2.1 bt348.2.2.1 bt348.2.2.2.1 bt348.2.2.2.2.1 bt348.2.2.2.2.2.1 bt348.2.2.2.2.2.2.1 bt348.2.2.2.2.2.2.2).bind fun t360 => (if t360 = true then ((laws_markSock.f k t318 t319 t320 t321 t322 t325 t328 t329 1).bind fun bt361 => (if bt361.1 < 0 then (laws_FnExactTell.j0 k true a0_0 a0_1 a0_2 a0_3 l0_4 l0_5 a0_6 a0_7 a1_0 a1_1 a1_2 t305 t306 t307 t308 t309 t312 t315 t316 t334 t335 t336 t337 t338 t341 t344 t345) else ((laws_eqSock.f k t334 t335 t336 t337 t338 t341 t344 t345 t305 t306 t307 t308 t309 t312 t315 t316).bind fun t364 => (laws_FnExactTell.j0 k (!t364) a0_0 a0_1 a0_2 a0_3 l0_4 l0_5 a0_6 a0_7 a1_0 a1_1 a1_2 t305 t306 t307 t308 t309 t312 t315 t316 t334 t335 t336 t337 t338 t341 t344 t345)))) else (some false)))) = some r := by rw [if_pos rfl] at H; exact H
    clear H
    have H := H1
    clear H1
    replace H := Option.bind_eq_some_iff.mp H
    obtain ⟨⟨t348, t349, t350, t351, t352, t355, t358, t359⟩, A250, H⟩ := H
    replace H : ((laws_eqSock.f k t318 t319 t320 t321 t322 t325 t328 t329 t348 t349 t350 t351 t352 t355 t358 t359).bind fun t360 => (if t360 = true then ((laws_markSock.f k t318 t319 t320 t321 t322 t325 t328 t329 1).bind fun bt361 => (if bt361.1 < 0 then (laws_FnExactTell.j0 k true a0_0 a0_1 a0_2 a0_3 l0_4 l0_5 a0_6 a0_7 a1_0 a1_1 a1_2 t305 t306 t307 t308 t309 t312 t315 t316 t334 t335 t336 t337 t338 t341 t344 t345) else ((laws_eqSock.f k t334 t335 t336 t337 t338 t341 t344 t345 t305 t306 t307 t308 t309 t312 t315 t316).bind fun t364 => (laws_FnExactTell.j0 k (!t364) a0_0 a0_1 a0_2 a0_3 l0_4 l0_5 a0_6 a0_7 a1_0 a1_1 a1_2 t305 t306 t307 t308 t309 t312 t315 t316 t334 t335 t336 t337 t338 t341 t344 t345)))) else (some false))) = some r := H
    have A25 := Aside0.mk A250
    clear A250
    replace H := Option.bind_eq_some_iff.mp H
    obtain ⟨t360, A260, H⟩ := H
    replace H : (if t360 = true then ((laws_markSock.f k t318 t319 t320 t321 t322 t325 t328 t329 1).bind fun bt361 => (if bt361.1 < 0 then (laws_FnExactTell.j0 k true a0_0 a0_1 a0_2 a0_3 l0_4 l0_5 a0_6 a0_7 a1_0 a1_1 a1_2 t305 t306 t307 t308 t309 t312 t315 t316 t334 t335 t336 t337 t338 t341 t344 t345) else ((laws_eqSock.f k t334 t335 t336 t337 t338 t341 t344 t345 t305 t306 t307 t308 t309 t312 t315 t316).bind fun t364 => (laws_FnExactTell.j0 k (!t364) a0_0 a0_1 a0_2 a0_3 l0_4 l0_5 a0_6 a0_7 a1_0 a1_1 a1_2 t305 t306 t307 t308 t309 t312 t315 t316 t334 t335 t336 t337 t338 t341 t344 t345)))) else (some false)) = some r := H
    have A26 := Aside0.mk A260
    clear A260
    by_cases c27 : t360 = true
    ·
     subst c27
     have H1 : ((laws_markSock.f k t318 t319 t320 t321 t322 t325 t328 t329 1).bind fun bt361 => (if bt361.1 < 0 then (laws_FnExactTell.j0 k true a0_0 a0_1 a0_2 a0_3 l0_4 l0_5 a0_6 a0_7 a1_0 a1_1 a1_2 t305 t306 t307 t308 t309 t312 t315 t316 t334 t335 t336 t337 t338 t341 t344 t345) else ((laws_eqSock.f k t334 t335 t336 t337 t338 t341 t344 t345 t305 t306 t307 t308 t309 t312 t315 t316).bind fun t364 => (laws_FnExactTell.j0 k (!t364) a0_0 a0_1 a0_2 a0_3 l0_4 l0_5 a0_6 a0_7 a1_0 a1_1 a1_2 t305 t306 t307 t308 t309 t312 t315 t316 t334 t335 t336 t337 t338 t341 t344 t345)))) = some r := by rw [if_pos rfl] at H; exact H
     clear H
     have H := H1
     clear H1
     replace H := Option.bind_eq_some_iff.mp H
     obtain ⟨⟨t361, t362, t363⟩, A280, H⟩ := H
     replace H : (if t361 < 0 then (laws_FnExactTell.j0 k true a0_0 a0_1 a0_2 a0_3 l0_4 l0_5 a0_6 a0_7 a1_0 a1_1 a1_2 t305 t306 t307 t308 t309 t312 t315 t316 t334 t335 t336 t337 t338 t341 t344 t345) else ((laws_eqSock.f k t334 t335 t336 t337 t338 t341 t344 t345 t305 t306 t307 t308 t309 t312 t315 t316).bind fun t364 => (laws_FnExactTell.j0 k (!t364) a0_0 a0_1 a0_2 a0_3 l0_4 l0_5 a0_6 a0_7 a1_0 a1_1 a1_2 t305 t306 t307 t308 t309 t312 t315 t316 t334 t335 t336 t337 t338 t341 t344 t345))) = some r := H
     have A28 := Aside0.mk A280
     clear A280
     have HC29 := Aside0.mk H
     clear H
     try go_wp2
     replace BK286 := am_ (blk_drew BK286.out)
     replace BK287 := am_ (blk_drew BK287.out)
     replace HB := am_ (below_drew1 HB.out)
     refine start_ (n := 7) (S := fun w' => True) (ds := []) #[false, false, false, false, false, false, false] (by kernel_rfl) rfl rfl trivial (fun hHeld => ?_); refine with_tabW laws_FnExactTell.tab8 laws_FnExactTell.bits8 (fun HT_ HW_ => ?_)
     generalize w15.drew = w30 at BK286 BK287 HB hHeld ⊢
     refine inv_at [0, 1, 2, 3, 4, 5, 6] (fun a0_ b a w' => ∃ (v295 : Value) (v298 : Value) (v310 : Value) (v313 : Value) (gb317 : Nat) (m1_ : Value) (m4_ : Value) (m5_ : Value), a = putSel a0_ b [(0, 23, .agg #[.int .i64 a0_0, .int .i64 a0_1, .int .i64 a0_2, .bool a0_3, .slice A0_4 l0_4.length c0_4, .slice A0_5 l0_5.length c0_5, .int .i64 a0_6, .int .i64 a0_7]), (1, 24, m1_), (2, 25, .agg #[.int .i64 a1_0, .string a1_1, .int .i64 a1_2]), (3, 26, .agg #[.int .i64 t302, .string t303, .int .i64 t304]), (4, 27, m4_), (5, 6, m5_)] ∧ (w'.heap[gb286]? = some (.cells #[.int .i64 a0_0, .int .i64 a0_1, .int .i64 a0_2, .bool a0_3, .slice A0_4 l0_4.length c0_4, .slice A0_5 l0_5.length c0_5, .int .i64 a0_6, .int .i64 a0_7] 24 (0, 0))) ∧ (w'.heap[gb287]? = some (.cells #[.int .i64 a1_0, .string a1_1, .int .i64 a1_2] 26 (0, 0))) ∧ (Below w.heap.size w w') ∧ (b 1 = true → b 4 = false → Kd.R (Kd.int .u8) 5 w' w.heap.size (fun k_ => some k_ ≠ (v298 : Value).ownBlock) v295 t294) ∧ (b 1 = true → b 4 = false → Kd.R (Kd.int .u8) 5 w' w.heap.size (fun k_ => some k_ ≠ (v295 : Value).ownBlock) v298 t297) ∧ (b 4 = true → Kd.R (Kd.int .u8) 5 w' w.heap.size (fun k_ => some k_ ≠ (v298 : Value).ownBlock ∧ some k_ ≠ (v310 : Value).ownBlock ∧ some k_ ≠ (v313 : Value).ownBlock) v295 t294) ∧ (b 4 = true → Kd.R (Kd.int .u8) 5 w' w.heap.size (fun k_ => some k_ ≠ (v295 : Value).ownBlock ∧ some k_ ≠ (v310 : Value).ownBlock ∧ some k_ ≠ (v313 : Value).ownBlock) v298 t297) ∧ (b 4 = true → Kd.R (Kd.int .u8) 5 w' w.heap.size (fun k_ => some k_ ≠ (v295 : Value).ownBlock ∧ some k_ ≠ (v298 : Value).ownBlock ∧ some k_ ≠ (v313 : Value).ownBlock) v310 t309) ∧ (b 4 = true → Kd.R (Kd.int .u8) 5 w' w.heap.size (fun k_ => some k_ ≠ (v295 : Value).ownBlock ∧ some k_ ≠ (v298 : Value).ownBlock ∧ some k_ ≠ (v310 : Value).ownBlock) v313 t312) ∧ (b 5 = true → b 6 = false → w'.heap[gb317]? = some (.cells #[.int .i64 0, .int .i64 0, .int .i64 0, .bool false, .slice none 0 0, .slice none 0 0, .int .i64 0, .int .i64 0] 29 (0, 0))) ∧ (b 5 = true → w.heap.size ≤ gb317) ∧ (b 5 = true → w.heap.size ≤ gb317) ∧ (b 5 = true → gb286 ≠ gb317) ∧ (b 5 = true → gb317 ≠ gb286) ∧ (b 5 = true → gb287 ≠ gb317) ∧ (b 5 = true → gb317 ≠ gb287) ∧ (b 6 = true → w'.heap[gb317]? = some (.cells #[.int .i64 t305, .int .i64 t306, .int .i64 t307, .bool t308, v310, v313, .int .i64 t315, .int .i64 t316] 29 (0, 0))) ∧ (b 1 = true → (m1_ : Value) = .agg #[.int .i64 t290, .int .i64 t291, .int .i64 t292, .bool t293, v295, v298, .int .i64 t300, .int .i64 t301]) ∧ (b 4 = true → (m4_ : Value) = .agg #[.int .i64 t305, .int .i64 t306, .int .i64 t307, .bool t308, v310, v313, .int .i64 t315, .int .i64 t316]) ∧ (b 5 = true → (m5_ : Value) = .pointer (some ⟨gb317, 0, none⟩))) HT_.out HW_.out (by kernel_rfl) (by kernel_rfl) ?_ ?_ ?_
     ·
      exact ⟨.bool false, .bool false, .bool false, .bool false, 0, .bool false, .bool false, .bool false, by simp only [putSel, Bool.false_eq_true, if_false], BK286.out, BK287.out, HB.out, xd_, xd_, xd_, xd_, xd_, xd_, xd_, xd_, xd_, xd_, xd_, xd_, xd_, xd_, xd_, xd_, xd_⟩
     ·
      skip
      clear BK286 BK287 HB
      refine steps_cons ?_ ?_
      ·
       rintro b a w' ⟨v295, v298, v310, v313, gb317, m1_, m4_, m5_, ha, Q_BK286, Q_BK287, Q_HB, Q_HO296, Q_HO299, Q_HO296_e4, Q_HO299_e4, Q_HO311, Q_HO314, Q_BK317, Q_GW317, Q_GE317, Q_NB286_317, Q_NB317_286, Q_NB287_317, Q_NB317_287, Q_BK317_e6, Q_X1_, Q_X4_, Q_X5_⟩ hb_ hon hoff
       refine ⟨_, rfl, fun K hK => ?_⟩
       have e2 : a.tmps[2]? = some (.pointer (some ⟨gb286, 0, none⟩)) := by rw [ha]; exact (putSel_off rfl).trans rfl
       replace ha := Aside0.mk ha
       have BK286 := Aside0.mk Q_BK286
       have BK287 := Aside0.mk Q_BK287
       have HB := Aside0.mk Q_HB
       have hc0_ : w'.cell? ⟨gb286, 0, none⟩ = some (.int .i64 a0_0) := (blk_cell BK286.out 0).trans rfl
       have hc1_ : w'.cell? ⟨gb286, 1, none⟩ = some (.int .i64 a0_1) := (blk_cell BK286.out 1).trans rfl
       have hc2_ : w'.cell? ⟨gb286, 2, none⟩ = some (.int .i64 a0_2) := (blk_cell BK286.out 2).trans rfl
       have hc3_ : w'.cell? ⟨gb286, 3, none⟩ = some (.bool a0_3) := (blk_cell BK286.out 3).trans rfl
       have hc4_ : w'.cell? ⟨gb286, 4, none⟩ = some (.slice A0_4 l0_4.length c0_4) := (blk_cell BK286.out 4).trans rfl
       have hc5_ : w'.cell? ⟨gb286, 5, none⟩ = some (.slice A0_5 l0_5.length c0_5) := (blk_cell BK286.out 5).trans rfl
       have hc6_ : w'.cell? ⟨gb286, 6, none⟩ = some (.int .i64 a0_6) := (blk_cell BK286.out 6).trans rfl
       have hc7_ : w'.cell? ⟨gb286, 7, none⟩ = some (.int .i64 a0_7) := (blk_cell BK286.out 7).trans rfl
       refine value_ (w1 := w') (v := .agg #[.int .i64 a0_0, .int .i64 a0_1, .int .i64 a0_2, .bool a0_3, .slice A0_4 l0_4.length c0_4, .slice A0_5 l0_5.length c0_5, .int .i64 a0_6, .int .i64 a0_7]) (by rfl) rfl ?_ ?_
       ·
        go_simp
        (try simp only [i64_w])
        try rfl
       refine hK.out _ _ ⟨v295, v298, v310, v313, gb317, m1_, m4_, m5_, (by rw [ha.out]; exact putSel_upk 0 hb_ rfl rfl rfl), Q_BK286, Q_BK287, Q_HB, fun h0_ _ => absurd ((hoff 1 (by kernel_rfl)).symm.trans h0_) (by decide), fun h0_ _ => absurd ((hoff 1 (by kernel_rfl)).symm.trans h0_) (by decide), xo_ (hoff 4 (by kernel_rfl)), xo_ (hoff 4 (by kernel_rfl)), xo_ (hoff 4 (by kernel_rfl)), xo_ (hoff 4 (by kernel_rfl)), Q_BK317, Q_GW317, Q_GE317, Q_NB286_317, Q_NB317_286, Q_NB287_317, Q_NB317_287, xo_ (hoff 6 (by kernel_rfl)), xo_ (hoff 1 (by kernel_rfl)), xo_ (hoff 4 (by kernel_rfl)), Q_X5_⟩
      refine steps_cons ?_ ?_
      ·
       rintro b a w' ⟨v295, v298, v310, v313, gb317, m1_, m4_, m5_, ha, Q_BK286, Q_BK287, Q_HB, Q_HO296, Q_HO299, Q_HO296_e4, Q_HO299_e4, Q_HO311, Q_HO314, Q_BK317, Q_GW317, Q_GE317, Q_NB286_317, Q_NB317_286, Q_NB287_317, Q_NB317_287, Q_BK317_e6, Q_X1_, Q_X4_, Q_X5_⟩ hb_ hon hoff
       refine ⟨_, rfl, fun K hK => ?_⟩
       have e23 : a.tmps[23]? = some (.agg #[.int .i64 a0_0, .int .i64 a0_1, .int .i64 a0_2, .bool a0_3, .slice A0_4 l0_4.length c0_4, .slice A0_5 l0_5.length c0_5, .int .i64 a0_6, .int .i64 a0_7]) := by rw [ha]; exact putSel_on (e := (0, 23, .agg #[.int .i64 a0_0, .int .i64 a0_1, .int .i64 a0_2, .bool a0_3, .slice A0_4 l0_4.length c0_4, .slice A0_5 l0_5.length c0_5, .int .i64 a0_6, .int .i64 a0_7])) 0 rfl rfl (hon 0 (by kernel_rfl)) rfl
       replace ha := Aside0.mk ha
       have BK286 := Aside0.mk Q_BK286
       have BK287 := Aside0.mk Q_BK287
       have HB := Aside0.mk Q_HB
       refine goes_ Try.func18 (by kernel_rfl) rfl #[.agg #[.int .i64 a0_0, .int .i64 a0_1, .int .i64 a0_2, .bool a0_3, .slice A0_4 l0_4.length c0_4, .slice A0_5 l0_5.length c0_5, .int .i64 a0_6, .int .i64 a0_7]] (by rfl) rfl rfl (by first | (simp only [List.map_toArray, List.map_cons, List.map_nil, Act.eval, Array.getD_eq_getD_getElem?, Option.getD_some, e23]; done) | (simp only [List.map_toArray, List.map_cons, List.map_nil, Act.eval, Array.getD_eq_getD_getElem?, Option.getD_some, e23]; rfl)) ?_
       with_reducible refine (laws_toSock.calls k a0_0 a0_1 a0_2 a0_3 _ _ l0_4 _ _ l0_5 a0_6 a0_7 t290 t291 t292 t293 t294 t297 t300 t301 _ ?side1 ?side2 ?side3 ?side4 A17.out).mono ?_
       (case side1 => exact qC (Kd.C_below HR0_4.out HB.out))
       (case side2 => exact HC0_4.out)
       (case side3 => exact qC (Kd.C_below HR0_5.out HB.out))
       (case side4 => exact HC0_5.out)
       rintro e w31 ⟨v295, v298, rfl, ho0, ho1, hb⟩
       refine ⟨_, rfl, ?_⟩
       have n0_ := Aside0.mk (Kd.R_lower ho0 (below_size (qB HB)))
       have n1_ := Aside0.mk (Kd.R_lower ho1 (below_size (qB HB)))
       have n2_ := Aside0.mk (blk_below (qK BK286) hb)
       have n3_ := Aside0.mk (blk_below (qK BK287) hb)
       have n4_ := Aside0.mk (below_step (qB HB) hb)
       have z_BK317 := fun (h0_ : b 5 = true) (h1_ : b 6 = false) => (show w31.heap[gb317]? = some (.cells #[.int .i64 0, .int .i64 0, .int .i64 0, .bool false, .slice none 0 0, .slice none 0 0, .int .i64 0, .int .i64 0] 29 (0, 0)) from by first | exact (blk_below (g := gb317) (o := .cells #[.int .i64 0, .int .i64 0, .int .i64 0, .bool false, .slice none 0 0, .slice none 0 0, .int .i64 0, .int .i64 0] 29 (0, 0)) (by (with_reducible repeat (first | refine blk_drewN ?_ _ | refine blk_drew ?_ | refine blk_alloc ?_ _)); exact (Q_BK317 h0_ h1_)) hb))
       clear BK286
       clear BK287
       clear HB
       have HO296 := n0_
       have HO299 := n1_
       have BK286 := n2_
       have BK287 := n3_
       have HB := n4_
       clear n0_ n1_ n2_ n3_ n4_
       (try clear hb ho0 ho1)
       refine hK.out _ _ ⟨v295, v298, v310, v313, gb317, (.agg #[.int .i64 t290, .int .i64 t291, .int .i64 t292, .bool t293, v295, v298, .int .i64 t300, .int .i64 t301]), m4_, m5_, (by rw [ha.out]; exact putSel_upk 1 hb_ rfl rfl rfl), (qK BK286), (qK BK287), (qB HB), fun _ _ => (qR HO296), fun _ _ => (qR HO299), xo_ (hoff 4 (by kernel_rfl)), xo_ (hoff 4 (by kernel_rfl)), xo_ (hoff 4 (by kernel_rfl)), xo_ (hoff 4 (by kernel_rfl)), z_BK317, Q_GW317, Q_GE317, Q_NB286_317, Q_NB317_286, Q_NB287_317, Q_NB317_287, xo_ (hoff 6 (by kernel_rfl)), fun _ => rfl, xo_ (hoff 4 (by kernel_rfl)), Q_X5_⟩
      refine steps_cons ?_ ?_
      ·
       rintro b a w' ⟨v295, v298, v310, v313, gb317, m1_, m4_, m5_, ha, Q_BK286, Q_BK287, Q_HB, Q_HO296, Q_HO299, Q_HO296_e4, Q_HO299_e4, Q_HO311, Q_HO314, Q_BK317, Q_GW317, Q_GE317, Q_NB286_317, Q_NB317_286, Q_NB287_317, Q_NB317_287, Q_BK317_e6, Q_X1_, Q_X4_, Q_X5_⟩ hb_ hon hoff
       refine ⟨_, rfl, fun K hK => ?_⟩
       have e3 : a.tmps[3]? = some (.pointer (some ⟨gb287, 0, none⟩)) := by rw [ha]; exact (putSel_off rfl).trans rfl
       replace ha := Aside0.mk ha
       have BK286 := Aside0.mk Q_BK286
       have BK287 := Aside0.mk Q_BK287
       have HB := Aside0.mk Q_HB
       have hc0_ : w'.cell? ⟨gb287, 0, none⟩ = some (.int .i64 a1_0) := (blk_cell BK287.out 0).trans rfl
       have hc1_ : w'.cell? ⟨gb287, 1, none⟩ = some (.string a1_1) := (blk_cell BK287.out 1).trans rfl
       have hc2_ : w'.cell? ⟨gb287, 2, none⟩ = some (.int .i64 a1_2) := (blk_cell BK287.out 2).trans rfl
       refine value_ (w1 := w') (v := .agg #[.int .i64 a1_0, .string a1_1, .int .i64 a1_2]) (by rfl) rfl ?_ ?_
       ·
        go_simp
        (try simp only [i64_w])
        try rfl
       refine hK.out _ _ ⟨v295, v298, v310, v313, gb317, m1_, m4_, m5_, (by rw [ha.out]; exact putSel_upk 2 hb_ rfl rfl rfl), Q_BK286, Q_BK287, Q_HB, Q_HO296, Q_HO299, xo_ (hoff 4 (by kernel_rfl)), xo_ (hoff 4 (by kernel_rfl)), xo_ (hoff 4 (by kernel_rfl)), xo_ (hoff 4 (by kernel_rfl)), Q_BK317, Q_GW317, Q_GE317, Q_NB286_317, Q_NB317_286, Q_NB287_317, Q_NB317_287, xo_ (hoff 6 (by kernel_rfl)), Q_X1_, xo_ (hoff 4 (by kernel_rfl)), Q_X5_⟩
      refine steps_cons ?_ ?_
      ·
       rintro b a w' ⟨v295, v298, v310, v313, gb317, m1_, m4_, m5_, ha, Q_BK286, Q_BK287, Q_HB, Q_HO296, Q_HO299, Q_HO296_e4, Q_HO299_e4, Q_HO311, Q_HO314, Q_BK317, Q_GW317, Q_GE317, Q_NB286_317, Q_NB317_286, Q_NB287_317, Q_NB317_287, Q_BK317_e6, Q_X1_, Q_X4_, Q_X5_⟩ hb_ hon hoff
       refine ⟨_, rfl, fun K hK => ?_⟩
       have e25 : a.tmps[25]? = some (.agg #[.int .i64 a1_0, .string a1_1, .int .i64 a1_2]) := by rw [ha]; exact putSel_on (e := (2, 25, .agg #[.int .i64 a1_0, .string a1_1, .int .i64 a1_2])) 2 rfl rfl (hon 2 (by kernel_rfl)) rfl
       replace ha := Aside0.mk ha
       have BK286 := Aside0.mk Q_BK286
       have BK287 := Aside0.mk Q_BK287
       have HB := Aside0.mk Q_HB
       have HO296 := Aside0.mk (Q_HO296 (hon 1 (by kernel_rfl)) (hoff 4 (by kernel_rfl)))
       have HO299 := Aside0.mk (Q_HO299 (hon 1 (by kernel_rfl)) (hoff 4 (by kernel_rfl)))
       refine goes_ Try.func19 (by kernel_rfl) rfl #[.agg #[.int .i64 a1_0, .string a1_1, .int .i64 a1_2]] (by rfl) rfl rfl (by first | (simp only [List.map_toArray, List.map_cons, List.map_nil, Act.eval, Array.getD_eq_getD_getElem?, Option.getD_some, e25]; done) | (simp only [List.map_toArray, List.map_cons, List.map_nil, Act.eval, Array.getD_eq_getD_getElem?, Option.getD_some, e25]; rfl)) ?_
       with_reducible refine (laws_toFrame.calls a1_0 a1_1 a1_2 t302 t303 t304 _ A18.out).mono ?_
       rintro e w33 ⟨rfl, hb⟩
       refine ⟨_, rfl, ?_⟩
       have n0_ := Aside0.mk (Kd.R_below (qR HO296) hb)
       have n1_ := Aside0.mk (Kd.R_below (qR HO299) hb)
       have n2_ := Aside0.mk (blk_below (qK BK286) hb)
       have n3_ := Aside0.mk (blk_below (qK BK287) hb)
       have n4_ := Aside0.mk (below_step (qB HB) hb)
       have z_BK317 := fun (h0_ : b 5 = true) (h1_ : b 6 = false) => (show w33.heap[gb317]? = some (.cells #[.int .i64 0, .int .i64 0, .int .i64 0, .bool false, .slice none 0 0, .slice none 0 0, .int .i64 0, .int .i64 0] 29 (0, 0)) from by first | exact (blk_below (g := gb317) (o := .cells #[.int .i64 0, .int .i64 0, .int .i64 0, .bool false, .slice none 0 0, .slice none 0 0, .int .i64 0, .int .i64 0] 29 (0, 0)) (by (with_reducible repeat (first | refine blk_drewN ?_ _ | refine blk_drew ?_ | refine blk_alloc ?_ _)); exact (Q_BK317 h0_ h1_)) hb))
       clear HO296
       clear HO299
       clear BK286
       clear BK287
       clear HB
       have HO296 := n0_
       have HO299 := n1_
       have BK286 := n2_
       have BK287 := n3_
       have HB := n4_
       clear n0_ n1_ n2_ n3_ n4_
       (try clear hb)
       refine hK.out _ _ ⟨v295, v298, v310, v313, gb317, m1_, m4_, m5_, (by rw [ha.out]; exact putSel_upk 3 hb_ rfl rfl rfl), (qK BK286), (qK BK287), (qB HB), fun _ _ => (qR HO296), fun _ _ => (qR HO299), xo_ (hoff 4 (by kernel_rfl)), xo_ (hoff 4 (by kernel_rfl)), xo_ (hoff 4 (by kernel_rfl)), xo_ (hoff 4 (by kernel_rfl)), z_BK317, Q_GW317, Q_GE317, Q_NB286_317, Q_NB317_286, Q_NB287_317, Q_NB317_287, xo_ (hoff 6 (by kernel_rfl)), Q_X1_, xo_ (hoff 4 (by kernel_rfl)), Q_X5_⟩
      refine steps_cons ?_ ?_
      ·
       rintro b a w' ⟨v295, v298, v310, v313, gb317, m1_, m4_, m5_, ha, Q_BK286, Q_BK287, Q_HB, Q_HO296, Q_HO299, Q_HO296_e4, Q_HO299_e4, Q_HO311, Q_HO314, Q_BK317, Q_GW317, Q_GE317, Q_NB286_317, Q_NB317_286, Q_NB287_317, Q_NB317_287, Q_BK317_e6, Q_X1_, Q_X4_, Q_X5_⟩ hb_ hon hoff
       refine ⟨_, rfl, fun K hK => ?_⟩
       have e24 : a.tmps[24]? = some (m1_) := by rw [ha]; exact putSel_on (e := (1, 24, m1_)) 1 rfl rfl (hon 1 (by kernel_rfl)) rfl
       rw [Q_X1_ (hon 1 (by kernel_rfl))] at e24
       have e26 : a.tmps[26]? = some (.agg #[.int .i64 t302, .string t303, .int .i64 t304]) := by rw [ha]; exact putSel_on (e := (3, 26, .agg #[.int .i64 t302, .string t303, .int .i64 t304])) 3 rfl rfl (hon 3 (by kernel_rfl)) rfl
       replace ha := Aside0.mk ha
       have BK286 := Aside0.mk Q_BK286
       have BK287 := Aside0.mk Q_BK287
       have HB := Aside0.mk Q_HB
       have HO296 := Aside0.mk (Q_HO296 (hon 1 (by kernel_rfl)) hb_)
       have HO299 := Aside0.mk (Q_HO299 (hon 1 (by kernel_rfl)) hb_)
       obtain ⟨Ao34, co34, eo34⟩ := Kd.R_slice HO296.out
       (first | subst eo34 | (injection eo34 with f1_ f2_ f3_; have f4_ := f1_.symm; have f5_ := f3_.symm; clear f1_ f2_ f3_; subst f4_; subst f5_))
       obtain ⟨Ao35, co35, eo35⟩ := Kd.R_slice HO299.out
       (first | subst eo35 | (injection eo35 with f1_ f2_ f3_; have f4_ := f1_.symm; have f5_ := f3_.symm; clear f1_ f2_ f3_; subst f4_; subst f5_))
       refine goes_ Try.func17 (by kernel_rfl) rfl #[.agg #[.int .i64 t290, .int .i64 t291, .int .i64 t292, .bool t293, .slice Ao34 t294.length co34, .slice Ao35 t297.length co35, .int .i64 t300, .int .i64 t301], .agg #[.int .i64 t302, .string t303, .int .i64 t304]] (by rfl) rfl rfl (by first | (simp only [List.map_toArray, List.map_cons, List.map_nil, Act.eval, Array.getD_eq_getD_getElem?, Option.getD_some, e24, e26]; done) | (simp only [List.map_toArray, List.map_cons, List.map_nil, Act.eval, Array.getD_eq_getD_getElem?, Option.getD_some, e24, e26]; rfl)) ?_
       with_reducible refine (spec_Tell.calls k t290 t291 t292 t293 _ _ t294 _ _ t297 t300 t301 t302 t303 t304 t305 t306 t307 t308 t309 t312 t315 t316 _ ?side1 ?side2 ?side3 ?side4 A19.out).mono ?_
       (case side1 => exact qC ((Kd.R_reads' HO296.out).2.2))
       (case side2 => exact (Kd.R_reads' HO296.out).2.1)
       (case side3 => exact qC ((Kd.R_reads' HO299.out).2.2))
       (case side4 => exact (Kd.R_reads' HO299.out).2.1)
       rintro e w36 ⟨v310, v313, rfl, ho0, ho1, hb⟩
       refine ⟨_, rfl, ?_⟩
       have n0_ := Aside0.mk (Kd.R_mono (Kd.R_told (Kd.R_told (Kd.R_old (qR HO296) hb) (Kd.R_base ho0)) (Kd.R_base ho1)) (fun _ h_ => h_.1))
       have n1_ := Aside0.mk (Kd.R_mono (Kd.R_told (Kd.R_told (Kd.R_old (qR HO299) hb) (Kd.R_base ho0)) (Kd.R_base ho1)) (fun _ h_ => h_.1))
       have n2_ := Aside0.mk (Kd.R_lower (Kd.R_new' (Kd.R_new' ho0 (Kd.R_lt (qR HO296))) (Kd.R_lt (qR HO299))) (below_size (qB HB)))
       have n3_ := Aside0.mk (Kd.R_lower (Kd.R_new' (Kd.R_new' ho1 (Kd.R_lt (qR HO296))) (Kd.R_lt (qR HO299))) (below_size (qB HB)))
       have n4_ := Aside0.mk (blk_below (qK BK286) hb)
       have n5_ := Aside0.mk (blk_below (qK BK287) hb)
       have n6_ := Aside0.mk (below_step (qB HB) hb)
       have z_BK317 := fun (h0_ : b 5 = true) (h1_ : b 6 = false) => (show w36.heap[gb317]? = some (.cells #[.int .i64 0, .int .i64 0, .int .i64 0, .bool false, .slice none 0 0, .slice none 0 0, .int .i64 0, .int .i64 0] 29 (0, 0)) from by first | exact (blk_below (g := gb317) (o := .cells #[.int .i64 0, .int .i64 0, .int .i64 0, .bool false, .slice none 0 0, .slice none 0 0, .int .i64 0, .int .i64 0] 29 (0, 0)) (by (with_reducible repeat (first | refine blk_drewN ?_ _ | refine blk_drew ?_ | refine blk_alloc ?_ _)); exact (Q_BK317 h0_ h1_)) hb))
       clear HO296
       clear HO299
       clear BK286
       clear BK287
       clear HB
       have HO296 := n0_
       have HO299 := n1_
       have HO311 := n2_
       have HO314 := n3_
       have BK286 := n4_
       have BK287 := n5_
       have HB := n6_
       clear n0_ n1_ n2_ n3_ n4_ n5_ n6_
       (try clear hb ho0 ho1)
       refine hK.out _ _ ⟨.slice Ao34 t294.length co34, .slice Ao35 t297.length co35, v310, v313, gb317, m1_, (.agg #[.int .i64 t305, .int .i64 t306, .int .i64 t307, .bool t308, v310, v313, .int .i64 t315, .int .i64 t316]), m5_, (by rw [ha.out]; exact putSel_upk 4 hb_ rfl rfl rfl), (qK BK286), (qK BK287), (qB HB), fun _ => xo_ (up_self b 4), fun _ => xo_ (up_self b 4), fun _ => (tR (Kd.R_mono HO296.out (fun _ hk => ⟨hk.1.1, ⟨hk.1.2, hk.2⟩⟩))), fun _ => (tR (Kd.R_mono HO299.out (fun _ hk => ⟨hk.1.1, ⟨hk.1.2, hk.2⟩⟩))), fun _ => (tR (Kd.R_mono HO311.out (fun _ hk => ⟨hk.1.2, ⟨hk.2, hk.1.1⟩⟩))), fun _ => (tR (Kd.R_mono HO314.out (fun _ hk => ⟨hk.1.2, ⟨hk.2, hk.1.1⟩⟩))), z_BK317, Q_GW317, Q_GE317, Q_NB286_317, Q_NB317_286, Q_NB287_317, Q_NB317_287, xo_ (hoff 6 (by kernel_rfl)), Q_X1_, fun _ => rfl, Q_X5_⟩
      refine steps_cons ?_ ?_
      ·
       rintro b a w' ⟨v295, v298, v310, v313, gb317, m1_, m4_, m5_, ha, Q_BK286, Q_BK287, Q_HB, Q_HO296, Q_HO299, Q_HO296_e4, Q_HO299_e4, Q_HO311, Q_HO314, Q_BK317, Q_GW317, Q_GE317, Q_NB286_317, Q_NB317_286, Q_NB287_317, Q_NB317_287, Q_BK317_e6, Q_X1_, Q_X4_, Q_X5_⟩ hb_ hon hoff
       refine ⟨_, rfl, fun K hK => ?_⟩
       replace ha := Aside0.mk ha
       have BK286 := Aside0.mk Q_BK286
       have BK287 := Aside0.mk Q_BK287
       have HB := Aside0.mk Q_HB
       refine box_step ?hg (N := 6) ?hd (cs := #[.int .i64 0, .int .i64 0, .int .i64 0, .bool false, .slice none 0 0, .slice none 0 0, .int .i64 0, .int .i64 0]) (t := 29) ?hr ?_; (case hd => rfl); (case hg => rfl); (case hr => first | (go_simp; done) | (go_simp; rfl))
       intro gb317 hg w31 hbox hb
       have n0_ := Aside0.mk (blk_below (qK BK286) hb)
       have n1_ := Aside0.mk (blk_below (qK BK287) hb)
       have n2_ := Aside0.mk (below_step (qB HB) hb)
       have n3_ := Aside0.mk (hbox)
       have n4_ := Aside0.mk ((gG_ hg (qB HB)))
       have n5_ := Aside0.mk ((gG_ hg (qB HB)))
       have n6_ := Aside0.mk ((gN_ hg (qK BK286)))
       have n7_ := Aside0.mk ((gM_ hg (qK BK286)))
       have n8_ := Aside0.mk ((gN_ hg (qK BK287)))
       have n9_ := Aside0.mk ((gM_ hg (qK BK287)))
       have z_HO296 := fun (h0_ : b 1 = true) (h1_ : b 4 = false) => (show Kd.R (Kd.int .u8) 5 w31 w.heap.size (fun k_ => some k_ ≠ (v298 : Value).ownBlock) v295 t294 from mR_ (Kd.R_below (tR (Q_HO296 h0_ h1_)) hb))
       have z_HO299 := fun (h0_ : b 1 = true) (h1_ : b 4 = false) => (show Kd.R (Kd.int .u8) 5 w31 w.heap.size (fun k_ => some k_ ≠ (v295 : Value).ownBlock) v298 t297 from mR_ (Kd.R_below (tR (Q_HO299 h0_ h1_)) hb))
       have z_HO296_e4 := fun (h0_ : b 4 = true) => (show Kd.R (Kd.int .u8) 5 w31 w.heap.size (fun k_ => some k_ ≠ (v298 : Value).ownBlock ∧ some k_ ≠ (v310 : Value).ownBlock ∧ some k_ ≠ (v313 : Value).ownBlock) v295 t294 from mR_ (Kd.R_below (tR (Q_HO296_e4 h0_)) hb))
       have z_HO299_e4 := fun (h0_ : b 4 = true) => (show Kd.R (Kd.int .u8) 5 w31 w.heap.size (fun k_ => some k_ ≠ (v295 : Value).ownBlock ∧ some k_ ≠ (v310 : Value).ownBlock ∧ some k_ ≠ (v313 : Value).ownBlock) v298 t297 from mR_ (Kd.R_below (tR (Q_HO299_e4 h0_)) hb))
       have z_HO311 := fun (h0_ : b 4 = true) => (show Kd.R (Kd.int .u8) 5 w31 w.heap.size (fun k_ => some k_ ≠ (v295 : Value).ownBlock ∧ some k_ ≠ (v298 : Value).ownBlock ∧ some k_ ≠ (v313 : Value).ownBlock) v310 t309 from mR_ (Kd.R_below (tR (Q_HO311 h0_)) hb))
       have z_HO314 := fun (h0_ : b 4 = true) => (show Kd.R (Kd.int .u8) 5 w31 w.heap.size (fun k_ => some k_ ≠ (v295 : Value).ownBlock ∧ some k_ ≠ (v298 : Value).ownBlock ∧ some k_ ≠ (v310 : Value).ownBlock) v313 t312 from mR_ (Kd.R_below (tR (Q_HO314 h0_)) hb))
       clear BK286
       clear BK287
       clear HB
       have BK286 := n0_
       have BK287 := n1_
       have HB := n2_
       have BK317 := n3_
       have GW317 := n4_
       have IGW317 := gI_ GW317
       have GE317 := n5_
       have IGE317 := gI_ GE317
       have NB286_317 := n6_
       have NB317_286 := n7_
       have NB287_317 := n8_
       have NB317_287 := n9_
       clear n0_ n1_ n2_ n3_ n4_ n5_ n6_ n7_ n8_ n9_
       clear hb hbox hg
       refine hK.out _ _ ⟨v295, v298, v310, v313, gb317, m1_, m4_, (.pointer (some ⟨gb317, 0, none⟩)), (by rw [ha.out]; exact putSel_upk 5 hb_ rfl rfl rfl), (qK BK286), (qK BK287), (qB HB), z_HO296, z_HO299, z_HO296_e4, z_HO299_e4, z_HO311, z_HO314, fun _ _ => (qK BK317), fun _ => GW317.out, fun _ => GE317.out, fun _ => NB286_317.out, fun _ => NB317_286.out, fun _ => NB287_317.out, fun _ => NB317_287.out, xo_ (hoff 6 (by kernel_rfl)), Q_X1_, Q_X4_, fun _ => rfl⟩
      refine steps_cons ?_ ?_
      ·
       rintro b a w' ⟨v295, v298, v310, v313, gb317, m1_, m4_, m5_, ha, Q_BK286, Q_BK287, Q_HB, Q_HO296, Q_HO299, Q_HO296_e4, Q_HO299_e4, Q_HO311, Q_HO314, Q_BK317, Q_GW317, Q_GE317, Q_NB286_317, Q_NB317_286, Q_NB287_317, Q_NB317_287, Q_BK317_e6, Q_X1_, Q_X4_, Q_X5_⟩ hb_ hon hoff
       refine ⟨_, rfl, fun K hK => ?_⟩
       have e6 : a.tmps[6]? = some (m5_) := by rw [ha]; exact putSel_on (e := (5, 6, m5_)) 5 rfl rfl (hon 5 (by kernel_rfl)) rfl
       rw [Q_X5_ (hon 5 (by kernel_rfl))] at e6
       have e27 : a.tmps[27]? = some (m4_) := by rw [ha]; exact putSel_on (e := (4, 27, m4_)) 4 rfl rfl (hon 4 (by kernel_rfl)) rfl
       rw [Q_X4_ (hon 4 (by kernel_rfl))] at e27
       replace ha := Aside0.mk ha
       have BK286 := Aside0.mk Q_BK286
       have BK287 := Aside0.mk Q_BK287
       have HB := Aside0.mk Q_HB
       have HO296 := Aside0.mk (Q_HO296_e4 (hon 4 (by kernel_rfl)))
       have HO299 := Aside0.mk (Q_HO299_e4 (hon 4 (by kernel_rfl)))
       have HO311 := Aside0.mk (Q_HO311 (hon 4 (by kernel_rfl)))
       have HO314 := Aside0.mk (Q_HO314 (hon 4 (by kernel_rfl)))
       have BK317 := Aside0.mk (Q_BK317 (hon 5 (by kernel_rfl)) hb_)
       have GW317 := Aside0.mk (Q_GW317 (hon 5 (by kernel_rfl)))
       have IGW317 := gI_ GW317
       have GE317 := Aside0.mk (Q_GE317 (hon 5 (by kernel_rfl)))
       have IGE317 := gI_ GE317
       have NB286_317 := Aside0.mk (Q_NB286_317 (hon 5 (by kernel_rfl)))
       have NB317_286 := Aside0.mk (Q_NB317_286 (hon 5 (by kernel_rfl)))
       have NB287_317 := Aside0.mk (Q_NB287_317 (hon 5 (by kernel_rfl)))
       have NB317_287 := Aside0.mk (Q_NB317_287 (hon 5 (by kernel_rfl)))
       obtain ⟨Ao42, co42, eo42⟩ := Kd.R_slice HO311.out
       (first | subst eo42 | (injection eo42 with f1_ f2_ f3_; have f4_ := f1_.symm; have f5_ := f3_.symm; clear f1_ f2_ f3_; subst f4_; subst f5_))
       obtain ⟨Ao44, co44, eo44⟩ := Kd.R_slice HO314.out
       (first | subst eo44 | (injection eo44 with f1_ f2_ f3_; have f4_ := f1_.symm; have f5_ := f3_.symm; clear f1_ f2_ f3_; subst f4_; subst f5_))
       have hs38 : w'.cell? ⟨gb317, 0, none⟩ = some (.int .i64 0) := (blk_cell BK317.out 0).trans rfl
       have hfs38 := blk_frozen BK317.out 0
       have hns38_0 := NB286_317.out
       have hns38_1 := NB287_317.out
       have hms38_0 := NB317_286.out
       have hms38_1 := NB317_287.out
       have hs39 : w'.cell? ⟨gb317, 1, none⟩ = some (.int .i64 0) := (blk_cell BK317.out 1).trans rfl
       have hfs39 := blk_frozen BK317.out 1
       have hns39_0 := NB286_317.out
       have hns39_1 := NB287_317.out
       have hms39_0 := NB317_286.out
       have hms39_1 := NB317_287.out
       have hs40 : w'.cell? ⟨gb317, 2, none⟩ = some (.int .i64 0) := (blk_cell BK317.out 2).trans rfl
       have hfs40 := blk_frozen BK317.out 2
       have hns40_0 := NB286_317.out
       have hns40_1 := NB287_317.out
       have hms40_0 := NB317_286.out
       have hms40_1 := NB317_287.out
       have hs41 : w'.cell? ⟨gb317, 3, none⟩ = some (.bool false) := (blk_cell BK317.out 3).trans rfl
       have hfs41 := blk_frozen BK317.out 3
       have hns41_0 := NB286_317.out
       have hns41_1 := NB287_317.out
       have hms41_0 := NB317_286.out
       have hms41_1 := NB317_287.out
       have hs43 : w'.cell? ⟨gb317, 4, none⟩ = some (.slice none 0 0) := (blk_cell BK317.out 4).trans rfl
       have hfs43 := blk_frozen BK317.out 4
       have hns43_0 := NB286_317.out
       have hns43_1 := NB287_317.out
       have hms43_0 := NB317_286.out
       have hms43_1 := NB317_287.out
       have hs45 : w'.cell? ⟨gb317, 5, none⟩ = some (.slice none 0 0) := (blk_cell BK317.out 5).trans rfl
       have hfs45 := blk_frozen BK317.out 5
       have hns45_0 := NB286_317.out
       have hns45_1 := NB287_317.out
       have hms45_0 := NB317_286.out
       have hms45_1 := NB317_287.out
       have hs46 : w'.cell? ⟨gb317, 6, none⟩ = some (.int .i64 0) := (blk_cell BK317.out 6).trans rfl
       have hfs46 := blk_frozen BK317.out 6
       have hns46_0 := NB286_317.out
       have hns46_1 := NB287_317.out
       have hms46_0 := NB317_286.out
       have hms46_1 := NB317_287.out
       have hs47 : w'.cell? ⟨gb317, 7, none⟩ = some (.int .i64 0) := (blk_cell BK317.out 7).trans rfl
       have hfs47 := blk_frozen BK317.out 7
       have hns47_0 := NB286_317.out
       have hns47_1 := NB287_317.out
       have hms47_0 := NB317_286.out
       have hms47_1 := NB317_287.out
       refine skip_ (w1 := ?_) (by rfl) rfl ?_ ?_
       rotate_left
       ·
        go_simp
        rfl
       refine hK.out _ _ ⟨v295, v298, .slice Ao42 t309.length co42, .slice Ao44 t312.length co44, gb317, m1_, m4_, m5_, (by rw [ha.out]; exact putSel_none (v := undef) rfl), (by (with_reducible repeat (first | refine blk_drewN ?_ _ | refine blk_drew ?_ | refine blk_alloc ?_ _)); refine Go.Proofs.YtahfemlfdpbkkaaV.blk_far8 ?_ NB286_317.out; (with_reducible repeat (first | refine blk_drewN ?_ _ | refine blk_drew ?_ | refine blk_alloc ?_ _)); exact BK286.out), (by (with_reducible repeat (first | refine blk_drewN ?_ _ | refine blk_drew ?_ | refine blk_alloc ?_ _)); refine Go.Proofs.YtahfemlfdpbkkaaV.blk_far8 ?_ NB287_317.out; (with_reducible repeat (first | refine blk_drewN ?_ _ | refine blk_drew ?_ | refine blk_alloc ?_ _)); exact BK287.out), (qB HB), fun _ => xo_ (hon 4 (by kernel_rfl)), fun _ => xo_ (hon 4 (by kernel_rfl)), fun _ => (by (with_reducible repeat (first | apply Kd.R_alloc | apply Kd.R_drewN | apply Kd.R_drew)); exact Kd.R_mono (Go.Proofs.YtahfemlfdpbkkaaV.R_far8 (g := gb317) (Kd.R_types HO296.out BK317.out (by decide)) (fun _ hk => hk.2)) (fun _ hk => ⟨hk.1.1, ⟨hk.1.2.1, hk.1.2.2⟩⟩)), fun _ => (by (with_reducible repeat (first | apply Kd.R_alloc | apply Kd.R_drewN | apply Kd.R_drew)); exact Kd.R_mono (Go.Proofs.YtahfemlfdpbkkaaV.R_far8 (g := gb317) (Kd.R_types HO299.out BK317.out (by decide)) (fun _ hk => hk.2)) (fun _ hk => ⟨hk.1.1, ⟨hk.1.2.1, hk.1.2.2⟩⟩)), fun _ => (by (with_reducible repeat (first | apply Kd.R_alloc | apply Kd.R_drewN | apply Kd.R_drew)); exact Kd.R_mono (Go.Proofs.YtahfemlfdpbkkaaV.R_far8 (g := gb317) (Kd.R_types HO311.out BK317.out (by decide)) (fun _ hk => hk.2)) (fun _ hk => ⟨hk.1.1, ⟨hk.1.2.1, hk.1.2.2⟩⟩)), fun _ => (by (with_reducible repeat (first | apply Kd.R_alloc | apply Kd.R_drewN | apply Kd.R_drew)); exact Kd.R_mono (Go.Proofs.YtahfemlfdpbkkaaV.R_far8 (g := gb317) (Kd.R_types HO314.out BK317.out (by decide)) (fun _ hk => hk.2)) (fun _ hk => ⟨hk.1.1, ⟨hk.1.2.1, hk.1.2.2⟩⟩)), fun _ => xo_ (up_self b 6), fun _ => GW317.out, fun _ => GE317.out, fun _ => NB286_317.out, fun _ => NB317_286.out, fun _ => NB287_317.out, fun _ => NB317_287.out, fun _ => (by (with_reducible repeat (first | refine blk_drewN ?_ _ | refine blk_drew ?_ | refine blk_alloc ?_ _)); refine Go.Proofs.YtahfemlfdpbkkaaV.blk_all8 (show _ = some (Go.Obj.cells #[.int .i64 0, .int .i64 0, .int .i64 0, .bool false, .slice none 0 0, .slice none 0 0, .int .i64 0, .int .i64 0] _ (0, 0)) from ?_); (with_reducible repeat (first | refine blk_drewN ?_ _ | refine blk_drew ?_ | refine blk_alloc ?_ _)); exact BK317.out), Q_X1_, Q_X4_, Q_X5_⟩
      exact steps_nil
     rintro b a w47 hall ⟨v295, v298, v310, v313, gb317, m1_, m4_, m5_, ha, Q_BK286, Q_BK287, Q_HB, Q_HO296, Q_HO299, Q_HO296_e4, Q_HO299_e4, Q_HO311, Q_HO314, Q_BK317, Q_GW317, Q_GE317, Q_NB286_317, Q_NB317_286, Q_NB287_317, Q_NB317_287, Q_BK317_e6, Q_X1_, Q_X4_, Q_X5_⟩
     clear BK286 BK287 HB
     have hb0_ := hall 0 (by kernel_rfl)
     have hb1_ := hall 1 (by kernel_rfl)
     have hb2_ := hall 2 (by kernel_rfl)
     have hb3_ := hall 3 (by kernel_rfl)
     have hb4_ := hall 4 (by kernel_rfl)
     have hb5_ := hall 5 (by kernel_rfl)
     have hb6_ := hall 6 (by kernel_rfl)
     subst ha
     obtain rfl := Q_X1_ hb1_
     obtain rfl := Q_X4_ hb4_
     obtain rfl := Q_X5_ hb5_
     simp only [putSel, hb0_, hb1_, hb2_, hb3_, hb4_, hb5_, hb6_, if_true, Act.put, List.setIfInBounds_toArray, List.set_cons_zero, List.set_cons_succ]
     have BK286 := Aside0.mk Q_BK286
     clear Q_BK286
     have BK287 := Aside0.mk Q_BK287
     clear Q_BK287
     have HB := Aside0.mk Q_HB
     clear Q_HB
     clear Q_HO296
     clear Q_HO299
     have HO296 := Aside0.mk (Q_HO296_e4 hb4_)
     clear Q_HO296_e4
     have HO299 := Aside0.mk (Q_HO299_e4 hb4_)
     clear Q_HO299_e4
     have HO311 := Aside0.mk (Q_HO311 hb4_)
     clear Q_HO311
     have HO314 := Aside0.mk (Q_HO314 hb4_)
     clear Q_HO314
     clear Q_BK317
     have GW317 := Aside0.mk (Q_GW317 hb5_)
     have IGW317 := gI_ GW317
     clear Q_GW317
     have GE317 := Aside0.mk (Q_GE317 hb5_)
     have IGE317 := gI_ GE317
     clear Q_GE317
     have NB286_317 := Aside0.mk (Q_NB286_317 hb5_)
     clear Q_NB286_317
     have NB317_286 := Aside0.mk (Q_NB317_286 hb5_)
     clear Q_NB317_286
     have NB287_317 := Aside0.mk (Q_NB287_317 hb5_)
     clear Q_NB287_317
     have NB317_287 := Aside0.mk (Q_NB317_287 hb5_)
     clear Q_NB317_287
     have BK317 := Aside0.mk (Q_BK317_e6 hb6_)
     clear Q_BK317_e6
     clear hall hb0_ hb1_ hb2_ hb3_ hb4_ hb5_ hb6_
     have hnb48 := NB286_287.out
     have hnc48 := NB287_286.out
     have hnb49 := NB286_317.out
     have hnc49 := NB317_286.out
     obtain ⟨hcz50_0, hcz50_1, hcz50_2, hcz50_3, hcz50_4, hcz50_5, hcz50_6, hcz50_7⟩ := cz8 BK286.out
     obtain ⟨hfz50_0, hfz50_1, hfz50_2, hfz50_3, hfz50_4, hfz50_5, hfz50_6, hfz50_7⟩ := fz8 BK286.out
     try go_wp2_with (first | ((with_reducible refine gate_callee (f := 18) rfl ?_); refine goesL_ (some 29) rfl rfl Try.func18 (by kernel_rfl) rfl #[.agg #[.int .i64 a0_0, .int .i64 a0_1, .int .i64 a0_2, .bool a0_3, .slice A0_4 l0_4.length c0_4, .slice A0_5 l0_5.length c0_5, .int .i64 a0_6, .int .i64 a0_7]] rfl (by (try simp only [List.map_toArray, List.map_cons, List.map_nil]); first | done | rfl | (simp only [List.length_drop, List.length_take]; rfl)) ?_; (with_reducible refine (laws_toSock.calls k a0_0 a0_1 a0_2 a0_3 _ _ l0_4 _ _ l0_5 a0_6 a0_7 t318 t319 t320 t321 t322 t325 t328 t329 _ ?side1 ?side2 ?side3 ?side4 A20.out).mono ?_); (case side1 => exact qC (Kd.C_below HR0_4.out HB.out)); (case side2 => exact HC0_4.out); (case side3 => exact qC (Kd.C_below HR0_5.out HB.out)); (case side4 => exact HC0_5.out); rintro e w51 ⟨v323, v326, rfl, ho0, ho1, hb⟩; refine ⟨_, rfl, ?_⟩; have HO324 := am_ (Kd.R_lower (Kd.R_new' (Kd.R_new' (Kd.R_new' (Kd.R_new' ho0 (Kd.R_lt (qR HO296))) (Kd.R_lt (qR HO299))) (Kd.R_lt (qR HO311))) (Kd.R_lt (qR HO314))) (below_size (qB HB))); have HO327 := am_ (Kd.R_lower (Kd.R_new' (Kd.R_new' (Kd.R_new' (Kd.R_new' ho1 (Kd.R_lt (qR HO296))) (Kd.R_lt (qR HO299))) (Kd.R_lt (qR HO311))) (Kd.R_lt (qR HO314))) (below_size (qB HB))); replace HO296 := am_ (Kd.R_mono (Kd.R_told (Kd.R_told (Kd.R_old (qR HO296) hb) (Kd.R_base ho0)) (Kd.R_base ho1)) (fun _ h_ => h_.1)); replace HO299 := am_ (Kd.R_mono (Kd.R_told (Kd.R_told (Kd.R_old (qR HO299) hb) (Kd.R_base ho0)) (Kd.R_base ho1)) (fun _ h_ => h_.1)); replace HO311 := am_ (Kd.R_mono (Kd.R_told (Kd.R_told (Kd.R_old (qR HO311) hb) (Kd.R_base ho0)) (Kd.R_base ho1)) (fun _ h_ => h_.1)); replace HO314 := am_ (Kd.R_mono (Kd.R_told (Kd.R_told (Kd.R_old (qR HO314) hb) (Kd.R_base ho0)) (Kd.R_base ho1)) (fun _ h_ => h_.1)); replace BK286 := am_ (blk_below (qK BK286) hb); replace BK287 := am_ (blk_below (qK BK287) hb); replace BK317 := am_ (blk_below (qK BK317) hb); replace HB := am_ (below_step (qB HB) hb); (try clear hb); (try clear hb2); (try clear hk); (try clear hi); (try clear ho0); (try clear ho1)) | ((with_reducible refine gate_dst (N := 7) rfl ?_); refine box_event ?hg (N := 7) ?hd (cs := #[.int .i64 0, .int .i64 0, .int .i64 0, .bool false, .slice none 0 0, .slice none 0 0, .int .i64 0, .int .i64 0]) (t := 29) ?hr ?_; (case hd => rfl); (case hg => rfl); (case hr => first | (go_simp; done) | (go_simp; rfl)); intro gb330 hg w52 hbox hb; replace HO296 := am_ (Kd.R_below (qR HO296) hb); replace HO299 := am_ (Kd.R_below (qR HO299) hb); replace HO311 := am_ (Kd.R_below (qR HO311) hb); replace HO314 := am_ (Kd.R_below (qR HO314) hb); replace HO324 := am_ (Kd.R_below (qR HO324) hb); replace HO327 := am_ (Kd.R_below (qR HO327) hb); have BK330 := am_ (hbox); have GW330 := am_ ((gG_ hg (qB HB))); have IGW330 := gI_ GW330; have GE330 := am_ ((gG_ hg (qB HB))); have IGE330 := gI_ GE330; replace HB := am_ (below_step (qB HB) hb); have NB286_330 := am_ ((gN_ hg (qK BK286))); have NB330_286 := am_ ((gM_ hg (qK BK286))); replace BK286 := am_ (blk_below (qK BK286) hb); have NB287_330 := am_ ((gN_ hg (qK BK287))); have NB330_287 := am_ ((gM_ hg (qK BK287))); replace BK287 := am_ (blk_below (qK BK287) hb); have NB317_330 := am_ ((gN_ hg (qK BK317))); have NB330_317 := am_ ((gM_ hg (qK BK317))); replace BK317 := am_ (blk_below (qK BK317) hb); clear hb hbox hg; have hnb53 := NB330_286.out; have hnc53 := NB286_330.out; have hnb54 := NB330_287.out; have hnc54 := NB287_330.out; have hnb55 := NB330_317.out; have hnc55 := NB317_330.out; obtain ⟨hcz56_0, hcz56_1, hcz56_2, hcz56_3, hcz56_4, hcz56_5, hcz56_6, hcz56_7⟩ := cz8 BK330.out; obtain ⟨hfz56_0, hfz56_1, hfz56_2, hfz56_3, hfz56_4, hfz56_5, hfz56_6, hfz56_7⟩ := fz8 BK330.out; obtain ⟨Ao57, co57, eo57⟩ := Kd.R_slice HO324.out; subst eo57; obtain ⟨Ao58, co58, eo58⟩ := Kd.R_slice HO327.out; subst eo58))
     have n0_ : Aside0 (Kd.R (Kd.int .u8) 5 ((((((((w52.setCell ⟨gb330, 0, none⟩ (.int .i64 t318)).setCell ⟨gb330, 1, none⟩ (.int .i64 t319)).setCell ⟨gb330, 2, none⟩ (.int .i64 t320)).setCell ⟨gb330, 3, none⟩ (.bool t321)).setCell ⟨gb330, 4, none⟩ (.slice Ao57 t322.length co57)).setCell ⟨gb330, 5, none⟩ (.slice Ao58 t325.length co58)).setCell ⟨gb330, 6, none⟩ (.int .i64 t328)).setCell ⟨gb330, 7, none⟩ (.int .i64 t329)) w.heap.size (fun k_ => some k_ ≠ (v298 : Value).ownBlock ∧ some k_ ≠ (v310 : Value).ownBlock ∧ some k_ ≠ (v313 : Value).ownBlock ∧ some k_ ≠ (.slice Ao57 t322.length co57 : Value).ownBlock ∧ some k_ ≠ (.slice Ao58 t325.length co58 : Value).ownBlock) v295 t294) := ⟨by (with_reducible repeat (first | apply Kd.R_alloc | apply Kd.R_drewN | apply Kd.R_drew)); exact Kd.R_mono (Go.Proofs.YtahfemlfdpbkkaaV.R_far8 (g := gb330) (Kd.R_types HO296.out BK330.out (by decide)) (fun _ hk => hk.2)) (fun _ hk => ⟨hk.1.1.1.1, ⟨hk.1.1.1.2.1, ⟨hk.1.1.1.2.2, ⟨hk.1.1.2, hk.1.2⟩⟩⟩⟩)⟩
     have n1_ : Aside0 (Kd.R (Kd.int .u8) 5 ((((((((w52.setCell ⟨gb330, 0, none⟩ (.int .i64 t318)).setCell ⟨gb330, 1, none⟩ (.int .i64 t319)).setCell ⟨gb330, 2, none⟩ (.int .i64 t320)).setCell ⟨gb330, 3, none⟩ (.bool t321)).setCell ⟨gb330, 4, none⟩ (.slice Ao57 t322.length co57)).setCell ⟨gb330, 5, none⟩ (.slice Ao58 t325.length co58)).setCell ⟨gb330, 6, none⟩ (.int .i64 t328)).setCell ⟨gb330, 7, none⟩ (.int .i64 t329)) w.heap.size (fun k_ => some k_ ≠ (v295 : Value).ownBlock ∧ some k_ ≠ (v310 : Value).ownBlock ∧ some k_ ≠ (v313 : Value).ownBlock ∧ some k_ ≠ (.slice Ao57 t322.length co57 : Value).ownBlock ∧ some k_ ≠ (.slice Ao58 t325.length co58 : Value).ownBlock) v298 t297) := ⟨by (with_reducible repeat (first | apply Kd.R_alloc | apply Kd.R_drewN | apply Kd.R_drew)); exact Kd.R_mono (Go.Proofs.YtahfemlfdpbkkaaV.R_far8 (g := gb330) (Kd.R_types HO299.out BK330.out (by decide)) (fun _ hk => hk.2)) (fun _ hk => ⟨hk.1.1.1.1, ⟨hk.1.1.1.2.1, ⟨hk.1.1.1.2.2, ⟨hk.1.1.2, hk.1.2⟩⟩⟩⟩)⟩
     have n2_ : Aside0 (Kd.R (Kd.int .u8) 5 ((((((((w52.setCell ⟨gb330, 0, none⟩ (.int .i64 t318)).setCell ⟨gb330, 1, none⟩ (.int .i64 t319)).setCell ⟨gb330, 2, none⟩ (.int .i64 t320)).setCell ⟨gb330, 3, none⟩ (.bool t321)).setCell ⟨gb330, 4, none⟩ (.slice Ao57 t322.length co57)).setCell ⟨gb330, 5, none⟩ (.slice Ao58 t325.length co58)).setCell ⟨gb330, 6, none⟩ (.int .i64 t328)).setCell ⟨gb330, 7, none⟩ (.int .i64 t329)) w.heap.size (fun k_ => some k_ ≠ (v295 : Value).ownBlock ∧ some k_ ≠ (v298 : Value).ownBlock ∧ some k_ ≠ (v313 : Value).ownBlock ∧ some k_ ≠ (.slice Ao57 t322.length co57 : Value).ownBlock ∧ some k_ ≠ (.slice Ao58 t325.length co58 : Value).ownBlock) v310 t309) := ⟨by (with_reducible repeat (first | apply Kd.R_alloc | apply Kd.R_drewN | apply Kd.R_drew)); exact Kd.R_mono (Go.Proofs.YtahfemlfdpbkkaaV.R_far8 (g := gb330) (Kd.R_types HO311.out BK330.out (by decide)) (fun _ hk => hk.2)) (fun _ hk => ⟨hk.1.1.1.1, ⟨hk.1.1.1.2.1, ⟨hk.1.1.1.2.2, ⟨hk.1.1.2, hk.1.2⟩⟩⟩⟩)⟩
     have n3_ : Aside0 (Kd.R (Kd.int .u8) 5 ((((((((w52.setCell ⟨gb330, 0, none⟩ (.int .i64 t318)).setCell ⟨gb330, 1, none⟩ (.int .i64 t319)).setCell ⟨gb330, 2, none⟩ (.int .i64 t320)).setCell ⟨gb330, 3, none⟩ (.bool t321)).setCell ⟨gb330, 4, none⟩ (.slice Ao57 t322.length co57)).setCell ⟨gb330, 5, none⟩ (.slice Ao58 t325.length co58)).setCell ⟨gb330, 6, none⟩ (.int .i64 t328)).setCell ⟨gb330, 7, none⟩ (.int .i64 t329)) w.heap.size (fun k_ => some k_ ≠ (v295 : Value).ownBlock ∧ some k_ ≠ (v298 : Value).ownBlock ∧ some k_ ≠ (v310 : Value).ownBlock ∧ some k_ ≠ (.slice Ao57 t322.length co57 : Value).ownBlock ∧ some k_ ≠ (.slice Ao58 t325.length co58 : Value).ownBlock) v313 t312) := ⟨by (with_reducible repeat (first | apply Kd.R_alloc | apply Kd.R_drewN | apply Kd.R_drew)); exact Kd.R_mono (Go.Proofs.YtahfemlfdpbkkaaV.R_far8 (g := gb330) (Kd.R_types HO314.out BK330.out (by decide)) (fun _ hk => hk.2)) (fun _ hk => ⟨hk.1.1.1.1, ⟨hk.1.1.1.2.1, ⟨hk.1.1.1.2.2, ⟨hk.1.1.2, hk.1.2⟩⟩⟩⟩)⟩
     have n4_ : Aside0 (Kd.R (Kd.int .u8) 5 ((((((((w52.setCell ⟨gb330, 0, none⟩ (.int .i64 t318)).setCell ⟨gb330, 1, none⟩ (.int .i64 t319)).setCell ⟨gb330, 2, none⟩ (.int .i64 t320)).setCell ⟨gb330, 3, none⟩ (.bool t321)).setCell ⟨gb330, 4, none⟩ (.slice Ao57 t322.length co57)).setCell ⟨gb330, 5, none⟩ (.slice Ao58 t325.length co58)).setCell ⟨gb330, 6, none⟩ (.int .i64 t328)).setCell ⟨gb330, 7, none⟩ (.int .i64 t329)) w.heap.size (fun k_ => some k_ ≠ (v295 : Value).ownBlock ∧ some k_ ≠ (v298 : Value).ownBlock ∧ some k_ ≠ (v310 : Value).ownBlock ∧ some k_ ≠ (v313 : Value).ownBlock ∧ some k_ ≠ (.slice Ao58 t325.length co58 : Value).ownBlock) (.slice Ao57 t322.length co57) t322) := ⟨by (with_reducible repeat (first | apply Kd.R_alloc | apply Kd.R_drewN | apply Kd.R_drew)); exact Kd.R_mono (Go.Proofs.YtahfemlfdpbkkaaV.R_far8 (g := gb330) (Kd.R_types HO324.out BK330.out (by decide)) (fun _ hk => hk.2)) (fun _ hk => ⟨hk.1.1.1.1.2, ⟨hk.1.1.1.2, ⟨hk.1.1.2, ⟨hk.1.2, hk.1.1.1.1.1⟩⟩⟩⟩)⟩
     have n5_ : Aside0 (Kd.R (Kd.int .u8) 5 ((((((((w52.setCell ⟨gb330, 0, none⟩ (.int .i64 t318)).setCell ⟨gb330, 1, none⟩ (.int .i64 t319)).setCell ⟨gb330, 2, none⟩ (.int .i64 t320)).setCell ⟨gb330, 3, none⟩ (.bool t321)).setCell ⟨gb330, 4, none⟩ (.slice Ao57 t322.length co57)).setCell ⟨gb330, 5, none⟩ (.slice Ao58 t325.length co58)).setCell ⟨gb330, 6, none⟩ (.int .i64 t328)).setCell ⟨gb330, 7, none⟩ (.int .i64 t329)) w.heap.size (fun k_ => some k_ ≠ (v295 : Value).ownBlock ∧ some k_ ≠ (v298 : Value).ownBlock ∧ some k_ ≠ (v310 : Value).ownBlock ∧ some k_ ≠ (v313 : Value).ownBlock ∧ some k_ ≠ (.slice Ao57 t322.length co57 : Value).ownBlock) (.slice Ao58 t325.length co58) t325) := ⟨by (with_reducible repeat (first | apply Kd.R_alloc | apply Kd.R_drewN | apply Kd.R_drew)); exact Kd.R_mono (Go.Proofs.YtahfemlfdpbkkaaV.R_far8 (g := gb330) (Kd.R_types HO327.out BK330.out (by decide)) (fun _ hk => hk.2)) (fun _ hk => ⟨hk.1.1.1.1.2, ⟨hk.1.1.1.2, ⟨hk.1.1.2, ⟨hk.1.2, hk.1.1.1.1.1⟩⟩⟩⟩)⟩
     have n6_ : Aside0 (((((((((w52.setCell ⟨gb330, 0, none⟩ (.int .i64 t318)).setCell ⟨gb330, 1, none⟩ (.int .i64 t319)).setCell ⟨gb330, 2, none⟩ (.int .i64 t320)).setCell ⟨gb330, 3, none⟩ (.bool t321)).setCell ⟨gb330, 4, none⟩ (.slice Ao57 t322.length co57)).setCell ⟨gb330, 5, none⟩ (.slice Ao58 t325.length co58)).setCell ⟨gb330, 6, none⟩ (.int .i64 t328)).setCell ⟨gb330, 7, none⟩ (.int .i64 t329)).heap[gb286]? = some (.cells #[.int .i64 a0_0, .int .i64 a0_1, .int .i64 a0_2, .bool a0_3, .slice A0_4 l0_4.length c0_4, .slice A0_5 l0_5.length c0_5, .int .i64 a0_6, .int .i64 a0_7] 24 (0, 0))) := ⟨by (with_reducible repeat (first | refine blk_drewN ?_ _ | refine blk_drew ?_ | refine blk_alloc ?_ _)); refine Go.Proofs.YtahfemlfdpbkkaaV.blk_far8 ?_ NB286_330.out; (with_reducible repeat (first | refine blk_drewN ?_ _ | refine blk_drew ?_ | refine blk_alloc ?_ _)); exact BK286.out⟩
     have n7_ : Aside0 (((((((((w52.setCell ⟨gb330, 0, none⟩ (.int .i64 t318)).setCell ⟨gb330, 1, none⟩ (.int .i64 t319)).setCell ⟨gb330, 2, none⟩ (.int .i64 t320)).setCell ⟨gb330, 3, none⟩ (.bool t321)).setCell ⟨gb330, 4, none⟩ (.slice Ao57 t322.length co57)).setCell ⟨gb330, 5, none⟩ (.slice Ao58 t325.length co58)).setCell ⟨gb330, 6, none⟩ (.int .i64 t328)).setCell ⟨gb330, 7, none⟩ (.int .i64 t329)).heap[gb287]? = some (.cells #[.int .i64 a1_0, .string a1_1, .int .i64 a1_2] 26 (0, 0))) := ⟨by (with_reducible repeat (first | refine blk_drewN ?_ _ | refine blk_drew ?_ | refine blk_alloc ?_ _)); refine Go.Proofs.YtahfemlfdpbkkaaV.blk_far8 ?_ NB287_330.out; (with_reducible repeat (first | refine blk_drewN ?_ _ | refine blk_drew ?_ | refine blk_alloc ?_ _)); exact BK287.out⟩
     have n8_ : Aside0 (((((((((w52.setCell ⟨gb330, 0, none⟩ (.int .i64 t318)).setCell ⟨gb330, 1, none⟩ (.int .i64 t319)).setCell ⟨gb330, 2, none⟩ (.int .i64 t320)).setCell ⟨gb330, 3, none⟩ (.bool t321)).setCell ⟨gb330, 4, none⟩ (.slice Ao57 t322.length co57)).setCell ⟨gb330, 5, none⟩ (.slice Ao58 t325.length co58)).setCell ⟨gb330, 6, none⟩ (.int .i64 t328)).setCell ⟨gb330, 7, none⟩ (.int .i64 t329)).heap[gb317]? = some (.cells #[.int .i64 t305, .int .i64 t306, .int .i64 t307, .bool t308, v310, v313, .int .i64 t315, .int .i64 t316] 29 (0, 0))) := ⟨by (with_reducible repeat (first | refine blk_drewN ?_ _ | refine blk_drew ?_ | refine blk_alloc ?_ _)); refine Go.Proofs.YtahfemlfdpbkkaaV.blk_far8 ?_ NB317_330.out; (with_reducible repeat (first | refine blk_drewN ?_ _ | refine blk_drew ?_ | refine blk_alloc ?_ _)); exact BK317.out⟩
     have n9_ : Aside0 (((((((((w52.setCell ⟨gb330, 0, none⟩ (.int .i64 t318)).setCell ⟨gb330, 1, none⟩ (.int .i64 t319)).setCell ⟨gb330, 2, none⟩ (.int .i64 t320)).setCell ⟨gb330, 3, none⟩ (.bool t321)).setCell ⟨gb330, 4, none⟩ (.slice Ao57 t322.length co57)).setCell ⟨gb330, 5, none⟩ (.slice Ao58 t325.length co58)).setCell ⟨gb330, 6, none⟩ (.int .i64 t328)).setCell ⟨gb330, 7, none⟩ (.int .i64 t329)).heap[gb330]? = some (.cells #[.int .i64 t318, .int .i64 t319, .int .i64 t320, .bool t321, .slice Ao57 t322.length co57, .slice Ao58 t325.length co58, .int .i64 t328, .int .i64 t329] 29 (0, 0))) := ⟨by (with_reducible repeat (first | refine blk_drewN ?_ _ | refine blk_drew ?_ | refine blk_alloc ?_ _)); refine Go.Proofs.YtahfemlfdpbkkaaV.blk_all8 (show _ = some (Go.Obj.cells #[.int .i64 0, .int .i64 0, .int .i64 0, .bool false, .slice none 0 0, .slice none 0 0, .int .i64 0, .int .i64 0] _ (0, 0)) from ?_); (with_reducible repeat (first | refine blk_drewN ?_ _ | refine blk_drew ?_ | refine blk_alloc ?_ _)); exact BK330.out⟩
     have n10_ : Aside0 (Below w.heap.size w ((((((((w52.setCell ⟨gb330, 0, none⟩ (.int .i64 t318)).setCell ⟨gb330, 1, none⟩ (.int .i64 t319)).setCell ⟨gb330, 2, none⟩ (.int .i64 t320)).setCell ⟨gb330, 3, none⟩ (.bool t321)).setCell ⟨gb330, 4, none⟩ (.slice Ao57 t322.length co57)).setCell ⟨gb330, 5, none⟩ (.slice Ao58 t325.length co58)).setCell ⟨gb330, 6, none⟩ (.int .i64 t328)).setCell ⟨gb330, 7, none⟩ (.int .i64 t329))) := ⟨qB HB⟩
     (try clear HO296)
     (try clear HO299)
     (try clear HO311)
     (try clear HO314)
     (try clear HO324)
     (try clear HO327)
     (try clear BK286)
     (try clear BK287)
     (try clear BK317)
     (try clear BK330)
     (try clear HB)
     generalize ((((((((w52.setCell ⟨gb330, 0, none⟩ (.int .i64 t318)).setCell ⟨gb330, 1, none⟩ (.int .i64 t319)).setCell ⟨gb330, 2, none⟩ (.int .i64 t320)).setCell ⟨gb330, 3, none⟩ (.bool t321)).setCell ⟨gb330, 4, none⟩ (.slice Ao57 t322.length co57)).setCell ⟨gb330, 5, none⟩ (.slice Ao58 t325.length co58)).setCell ⟨gb330, 6, none⟩ (.int .i64 t328)).setCell ⟨gb330, 7, none⟩ (.int .i64 t329)) = w59 at n0_ n1_ n2_ n3_ n4_ n5_ n6_ n7_ n8_ n9_ n10_ ⊢
     have HO296 := n0_
     have HO299 := n1_
     have HO311 := n2_
     have HO314 := n3_
     have HO324 := n4_
     have HO327 := n5_
     have BK286 := n6_
     have BK287 := n7_
     have BK317 := n8_
     have BK330 := n9_
     have HB := n10_
     clear n0_ n1_ n2_ n3_ n4_ n5_ n6_ n7_ n8_ n9_ n10_
     replace HO296 := am_ (Kd.R_drew HO296.out)
     replace HO299 := am_ (Kd.R_drew HO299.out)
     replace HO311 := am_ (Kd.R_drew HO311.out)
     replace HO314 := am_ (Kd.R_drew HO314.out)
     replace HO324 := am_ (Kd.R_drew HO324.out)
     replace HO327 := am_ (Kd.R_drew HO327.out)
     replace BK286 := am_ (blk_drew BK286.out)
     replace BK287 := am_ (blk_drew BK287.out)
     replace BK317 := am_ (blk_drew BK317.out)
     replace BK330 := am_ (blk_drew BK330.out)
     replace HB := am_ (below_drew1 HB.out)
     refine start_ (n := 6) (S := fun w' => True) (ds := []) #[false, false, false, false, false, false] (by kernel_rfl) rfl rfl trivial (fun hHeld => ?_); refine with_tabW laws_FnExactTell.tab10 laws_FnExactTell.bits10 (fun HT_ HW_ => ?_)
     generalize w59.drew = w60 at HO296 HO299 HO311 HO314 HO324 HO327 BK286 BK287 BK317 BK330 HB hHeld ⊢
     refine inv_at [0, 1, 2, 3, 4, 5] (fun a0_ b a w' => ∃ (v339 : Value) (v342 : Value) (gb346 : Nat) (m3_ : Value) (m4_ : Value), a = putSel a0_ b [(0, 30, .agg #[.int .i64 t318, .int .i64 t319, .int .i64 t320, .bool t321, .slice Ao57 t322.length co57, .slice Ao58 t325.length co58, .int .i64 t328, .int .i64 t329]), (1, 31, .agg #[.int .i64 a1_0, .string a1_1, .int .i64 a1_2]), (2, 32, .agg #[.int .i64 t331, .string t332, .int .i64 t333]), (3, 33, m3_), (4, 8, m4_)] ∧ (b 3 = false → Kd.R (Kd.int .u8) 5 w' w.heap.size (fun k_ => some k_ ≠ (v298 : Value).ownBlock ∧ some k_ ≠ (v310 : Value).ownBlock ∧ some k_ ≠ (v313 : Value).ownBlock ∧ some k_ ≠ (.slice Ao57 t322.length co57 : Value).ownBlock ∧ some k_ ≠ (.slice Ao58 t325.length co58 : Value).ownBlock) v295 t294) ∧ (b 3 = false → Kd.R (Kd.int .u8) 5 w' w.heap.size (fun k_ => some k_ ≠ (v295 : Value).ownBlock ∧ some k_ ≠ (v310 : Value).ownBlock ∧ some k_ ≠ (v313 : Value).ownBlock ∧ some k_ ≠ (.slice Ao57 t322.length co57 : Value).ownBlock ∧ some k_ ≠ (.slice Ao58 t325.length co58 : Value).ownBlock) v298 t297) ∧ (b 3 = false → Kd.R (Kd.int .u8) 5 w' w.heap.size (fun k_ => some k_ ≠ (v295 : Value).ownBlock ∧ some k_ ≠ (v298 : Value).ownBlock ∧ some k_ ≠ (v313 : Value).ownBlock ∧ some k_ ≠ (.slice Ao57 t322.length co57 : Value).ownBlock ∧ some k_ ≠ (.slice Ao58 t325.length co58 : Value).ownBlock) v310 t309) ∧ (b 3 = false → Kd.R (Kd.int .u8) 5 w' w.heap.size (fun k_ => some k_ ≠ (v295 : Value).ownBlock ∧ some k_ ≠ (v298 : Value).ownBlock ∧ some k_ ≠ (v310 : Value).ownBlock ∧ some k_ ≠ (.slice Ao57 t322.length co57 : Value).ownBlock ∧ some k_ ≠ (.slice Ao58 t325.length co58 : Value).ownBlock) v313 t312) ∧ (b 3 = false → Kd.R (Kd.int .u8) 5 w' w.heap.size (fun k_ => some k_ ≠ (v295 : Value).ownBlock ∧ some k_ ≠ (v298 : Value).ownBlock ∧ some k_ ≠ (v310 : Value).ownBlock ∧ some k_ ≠ (v313 : Value).ownBlock ∧ some k_ ≠ (.slice Ao58 t325.length co58 : Value).ownBlock) (.slice Ao57 t322.length co57) t322) ∧ (b 3 = false → Kd.R (Kd.int .u8) 5 w' w.heap.size (fun k_ => some k_ ≠ (v295 : Value).ownBlock ∧ some k_ ≠ (v298 : Value).ownBlock ∧ some k_ ≠ (v310 : Value).ownBlock ∧ some k_ ≠ (v313 : Value).ownBlock ∧ some k_ ≠ (.slice Ao57 t322.length co57 : Value).ownBlock) (.slice Ao58 t325.length co58) t325) ∧ (w'.heap[gb286]? = some (.cells #[.int .i64 a0_0, .int .i64 a0_1, .int .i64 a0_2, .bool a0_3, .slice A0_4 l0_4.length c0_4, .slice A0_5 l0_5.length c0_5, .int .i64 a0_6, .int .i64 a0_7] 24 (0, 0))) ∧ (w'.heap[gb287]? = some (.cells #[.int .i64 a1_0, .string a1_1, .int .i64 a1_2] 26 (0, 0))) ∧ (w'.heap[gb317]? = some (.cells #[.int .i64 t305, .int .i64 t306, .int .i64 t307, .bool t308, v310, v313, .int .i64 t315, .int .i64 t316] 29 (0, 0))) ∧ (w'.heap[gb330]? = some (.cells #[.int .i64 t318, .int .i64 t319, .int .i64 t320, .bool t321, .slice Ao57 t322.length co57, .slice Ao58 t325.length co58, .int .i64 t328, .int .i64 t329] 29 (0, 0))) ∧ (Below w.heap.size w w') ∧ (b 3 = true → Kd.R (Kd.int .u8) 5 w' w.heap.size (fun k_ => some k_ ≠ (v298 : Value).ownBlock ∧ some k_ ≠ (v310 : Value).ownBlock ∧ some k_ ≠ (v313 : Value).ownBlock ∧ some k_ ≠ (.slice Ao57 t322.length co57 : Value).ownBlock ∧ some k_ ≠ (.slice Ao58 t325.length co58 : Value).ownBlock ∧ some k_ ≠ (v339 : Value).ownBlock ∧ some k_ ≠ (v342 : Value).ownBlock) v295 t294) ∧ (b 3 = true → Kd.R (Kd.int .u8) 5 w' w.heap.size (fun k_ => some k_ ≠ (v295 : Value).ownBlock ∧ some k_ ≠ (v310 : Value).ownBlock ∧ some k_ ≠ (v313 : Value).ownBlock ∧ some k_ ≠ (.slice Ao57 t322.length co57 : Value).ownBlock ∧ some k_ ≠ (.slice Ao58 t325.length co58 : Value).ownBlock ∧ some k_ ≠ (v339 : Value).ownBlock ∧ some k_ ≠ (v342 : Value).ownBlock) v298 t297) ∧ (b 3 = true → Kd.R (Kd.int .u8) 5 w' w.heap.size (fun k_ => some k_ ≠ (v295 : Value).ownBlock ∧ some k_ ≠ (v298 : Value).ownBlock ∧ some k_ ≠ (v313 : Value).ownBlock ∧ some k_ ≠ (.slice Ao57 t322.length co57 : Value).ownBlock ∧ some k_ ≠ (.slice Ao58 t325.length co58 : Value).ownBlock ∧ some k_ ≠ (v339 : Value).ownBlock ∧ some k_ ≠ (v342 : Value).ownBlock) v310 t309) ∧ (b 3 = true → Kd.R (Kd.int .u8) 5 w' w.heap.size (fun k_ => some k_ ≠ (v295 : Value).ownBlock ∧ some k_ ≠ (v298 : Value).ownBlock ∧ some k_ ≠ (v310 : Value).ownBlock ∧ some k_ ≠ (.slice Ao57 t322.length co57 : Value).ownBlock ∧ some k_ ≠ (.slice Ao58 t325.length co58 : Value).ownBlock ∧ some k_ ≠ (v339 : Value).ownBlock ∧ some k_ ≠ (v342 : Value).ownBlock) v313 t312) ∧ (b 3 = true → Kd.R (Kd.int .u8) 5 w' w.heap.size (fun k_ => some k_ ≠ (v295 : Value).ownBlock ∧ some k_ ≠ (v298 : Value).ownBlock ∧ some k_ ≠ (v310 : Value).ownBlock ∧ some k_ ≠ (v313 : Value).ownBlock ∧ some k_ ≠ (.slice Ao58 t325.length co58 : Value).ownBlock ∧ some k_ ≠ (v339 : Value).ownBlock ∧ some k_ ≠ (v342 : Value).ownBlock) (.slice Ao57 t322.length co57) t322) ∧ (b 3 = true → Kd.R (Kd.int .u8) 5 w' w.heap.size (fun k_ => some k_ ≠ (v295 : Value).ownBlock ∧ some k_ ≠ (v298 : Value).ownBlock ∧ some k_ ≠ (v310 : Value).ownBlock ∧ some k_ ≠ (v313 : Value).ownBlock ∧ some k_ ≠ (.slice Ao57 t322.length co57 : Value).ownBlock ∧ some k_ ≠ (v339 : Value).ownBlock ∧ some k_ ≠ (v342 : Value).ownBlock) (.slice Ao58 t325.length co58) t325) ∧ (b 3 = true → Kd.R (Kd.int .u8) 5 w' w.heap.size (fun k_ => some k_ ≠ (v295 : Value).ownBlock ∧ some k_ ≠ (v298 : Value).ownBlock ∧ some k_ ≠ (v310 : Value).ownBlock ∧ some k_ ≠ (v313 : Value).ownBlock ∧ some k_ ≠ (.slice Ao57 t322.length co57 : Value).ownBlock ∧ some k_ ≠ (.slice Ao58 t325.length co58 : Value).ownBlock ∧ some k_ ≠ (v342 : Value).ownBlock) v339 t338) ∧ (b 3 = true → Kd.R (Kd.int .u8) 5 w' w.heap.size (fun k_ => some k_ ≠ (v295 : Value).ownBlock ∧ some k_ ≠ (v298 : Value).ownBlock ∧ some k_ ≠ (v310 : Value).ownBlock ∧ some k_ ≠ (v313 : Value).ownBlock ∧ some k_ ≠ (.slice Ao57 t322.length co57 : Value).ownBlock ∧ some k_ ≠ (.slice Ao58 t325.length co58 : Value).ownBlock ∧ some k_ ≠ (v339 : Value).ownBlock) v342 t341) ∧ (b 4 = true → b 5 = false → w'.heap[gb346]? = some (.cells #[.int .i64 0, .int .i64 0, .int .i64 0, .bool false, .slice none 0 0, .slice none 0 0, .int .i64 0, .int .i64 0] 29 (0, 0))) ∧ (b 4 = true → w.heap.size ≤ gb346) ∧ (b 4 = true → w.heap.size ≤ gb346) ∧ (b 4 = true → gb286 ≠ gb346) ∧ (b 4 = true → gb346 ≠ gb286) ∧ (b 4 = true → gb287 ≠ gb346) ∧ (b 4 = true → gb346 ≠ gb287) ∧ (b 4 = true → gb317 ≠ gb346) ∧ (b 4 = true → gb346 ≠ gb317) ∧ (b 4 = true → gb330 ≠ gb346) ∧ (b 4 = true → gb346 ≠ gb330) ∧ (b 5 = true → w'.heap[gb346]? = some (.cells #[.int .i64 t334, .int .i64 t335, .int .i64 t336, .bool t337, v339, v342, .int .i64 t344, .int .i64 t345] 29 (0, 0))) ∧ (b 3 = true → (m3_ : Value) = .agg #[.int .i64 t334, .int .i64 t335, .int .i64 t336, .bool t337, v339, v342, .int .i64 t344, .int .i64 t345]) ∧ (b 4 = true → (m4_ : Value) = .pointer (some ⟨gb346, 0, none⟩))) HT_.out HW_.out (by kernel_rfl) (by kernel_rfl) ?_ ?_ ?_
     ·
      exact ⟨.bool false, .bool false, 0, .bool false, .bool false, by simp only [putSel, Bool.false_eq_true, if_false], fun _ => HO296.out, fun _ => HO299.out, fun _ => HO311.out, fun _ => HO314.out, fun _ => HO324.out, fun _ => HO327.out, BK286.out, BK287.out, BK317.out, BK330.out, HB.out, xd_, xd_, xd_, xd_, xd_, xd_, xd_, xd_, xd_, xd_, xd_, xd_, xd_, xd_, xd_, xd_, xd_, xd_, xd_, xd_, xd_, xd_⟩
     ·
      skip
      clear BK286 BK287 BK317 BK330 HB HO296 HO299 HO311 HO314 HO324 HO327
      refine steps_cons ?_ ?_
      ·
       rintro b a w' ⟨v339, v342, gb346, m3_, m4_, ha, Q_HO296, Q_HO299, Q_HO311, Q_HO314, Q_HO324, Q_HO327, Q_BK286, Q_BK287, Q_BK317, Q_BK330, Q_HB, Q_HO296_e3, Q_HO299_e3, Q_HO311_e3, Q_HO314_e3, Q_HO324_e3, Q_HO327_e3, Q_HO340, Q_HO343, Q_BK346, Q_GW346, Q_GE346, Q_NB286_346, Q_NB346_286, Q_NB287_346, Q_NB346_287, Q_NB317_346, Q_NB346_317, Q_NB330_346, Q_NB346_330, Q_BK346_e5, Q_X3_, Q_X4_⟩ hb_ hon hoff
       refine ⟨_, rfl, fun K hK => ?_⟩
       have e7 : a.tmps[7]? = some (.pointer (some ⟨gb330, 0, none⟩)) := by rw [ha]; exact (putSel_off rfl).trans rfl
       replace ha := Aside0.mk ha
       have HO296 := Aside0.mk (Q_HO296 (hoff 3 (by kernel_rfl)))
       have HO299 := Aside0.mk (Q_HO299 (hoff 3 (by kernel_rfl)))
       have HO311 := Aside0.mk (Q_HO311 (hoff 3 (by kernel_rfl)))
       have HO314 := Aside0.mk (Q_HO314 (hoff 3 (by kernel_rfl)))
       have HO324 := Aside0.mk (Q_HO324 (hoff 3 (by kernel_rfl)))
       have HO327 := Aside0.mk (Q_HO327 (hoff 3 (by kernel_rfl)))
       have BK286 := Aside0.mk Q_BK286
       have BK287 := Aside0.mk Q_BK287
       have BK317 := Aside0.mk Q_BK317
       have BK330 := Aside0.mk Q_BK330
       have HB := Aside0.mk Q_HB
       have hc0_ : w'.cell? ⟨gb330, 0, none⟩ = some (.int .i64 t318) := (blk_cell BK330.out 0).trans rfl
       have hc1_ : w'.cell? ⟨gb330, 1, none⟩ = some (.int .i64 t319) := (blk_cell BK330.out 1).trans rfl
       have hc2_ : w'.cell? ⟨gb330, 2, none⟩ = some (.int .i64 t320) := (blk_cell BK330.out 2).trans rfl
       have hc3_ : w'.cell? ⟨gb330, 3, none⟩ = some (.bool t321) := (blk_cell BK330.out 3).trans rfl
       have hc4_ : w'.cell? ⟨gb330, 4, none⟩ = some (.slice Ao57 t322.length co57) := (blk_cell BK330.out 4).trans rfl
       have hc5_ : w'.cell? ⟨gb330, 5, none⟩ = some (.slice Ao58 t325.length co58) := (blk_cell BK330.out 5).trans rfl
       have hc6_ : w'.cell? ⟨gb330, 6, none⟩ = some (.int .i64 t328) := (blk_cell BK330.out 6).trans rfl
       have hc7_ : w'.cell? ⟨gb330, 7, none⟩ = some (.int .i64 t329) := (blk_cell BK330.out 7).trans rfl
       refine value_ (w1 := w') (v := .agg #[.int .i64 t318, .int .i64 t319, .int .i64 t320, .bool t321, .slice Ao57 t322.length co57, .slice Ao58 t325.length co58, .int .i64 t328, .int .i64 t329]) (by rfl) rfl ?_ ?_
       ·
        go_simp
        (try simp only [i64_w])
        try rfl
       refine hK.out _ _ ⟨v339, v342, gb346, m3_, m4_, (by rw [ha.out]; exact putSel_upk 0 hb_ rfl rfl rfl), Q_HO296, Q_HO299, Q_HO311, Q_HO314, Q_HO324, Q_HO327, Q_BK286, Q_BK287, Q_BK317, Q_BK330, Q_HB, xo_ (hoff 3 (by kernel_rfl)), xo_ (hoff 3 (by kernel_rfl)), xo_ (hoff 3 (by kernel_rfl)), xo_ (hoff 3 (by kernel_rfl)), xo_ (hoff 3 (by kernel_rfl)), xo_ (hoff 3 (by kernel_rfl)), xo_ (hoff 3 (by kernel_rfl)), xo_ (hoff 3 (by kernel_rfl)), Q_BK346, Q_GW346, Q_GE346, Q_NB286_346, Q_NB346_286, Q_NB287_346, Q_NB346_287, Q_NB317_346, Q_NB346_317, Q_NB330_346, Q_NB346_330, xo_ (hoff 5 (by kernel_rfl)), xo_ (hoff 3 (by kernel_rfl)), Q_X4_⟩
      refine steps_cons ?_ ?_
      ·
       rintro b a w' ⟨v339, v342, gb346, m3_, m4_, ha, Q_HO296, Q_HO299, Q_HO311, Q_HO314, Q_HO324, Q_HO327, Q_BK286, Q_BK287, Q_BK317, Q_BK330, Q_HB, Q_HO296_e3, Q_HO299_e3, Q_HO311_e3, Q_HO314_e3, Q_HO324_e3, Q_HO327_e3, Q_HO340, Q_HO343, Q_BK346, Q_GW346, Q_GE346, Q_NB286_346, Q_NB346_286, Q_NB287_346, Q_NB346_287, Q_NB317_346, Q_NB346_317, Q_NB330_346, Q_NB346_330, Q_BK346_e5, Q_X3_, Q_X4_⟩ hb_ hon hoff
       refine ⟨_, rfl, fun K hK => ?_⟩
       have e3 : a.tmps[3]? = some (.pointer (some ⟨gb287, 0, none⟩)) := by rw [ha]; exact (putSel_off rfl).trans rfl
       replace ha := Aside0.mk ha
       have HO296 := Aside0.mk (Q_HO296 (hoff 3 (by kernel_rfl)))
       have HO299 := Aside0.mk (Q_HO299 (hoff 3 (by kernel_rfl)))
       have HO311 := Aside0.mk (Q_HO311 (hoff 3 (by kernel_rfl)))
       have HO314 := Aside0.mk (Q_HO314 (hoff 3 (by kernel_rfl)))
       have HO324 := Aside0.mk (Q_HO324 (hoff 3 (by kernel_rfl)))
       have HO327 := Aside0.mk (Q_HO327 (hoff 3 (by kernel_rfl)))
       have BK286 := Aside0.mk Q_BK286
       have BK287 := Aside0.mk Q_BK287
       have BK317 := Aside0.mk Q_BK317
       have BK330 := Aside0.mk Q_BK330
       have HB := Aside0.mk Q_HB
       have hc0_ : w'.cell? ⟨gb287, 0, none⟩ = some (.int .i64 a1_0) := (blk_cell BK287.out 0).trans rfl
       have hc1_ : w'.cell? ⟨gb287, 1, none⟩ = some (.string a1_1) := (blk_cell BK287.out 1).trans rfl
       have hc2_ : w'.cell? ⟨gb287, 2, none⟩ = some (.int .i64 a1_2) := (blk_cell BK287.out 2).trans rfl
       refine value_ (w1 := w') (v := .agg #[.int .i64 a1_0, .string a1_1, .int .i64 a1_2]) (by rfl) rfl ?_ ?_
       ·
        go_simp
        (try simp only [i64_w])
        try rfl
       refine hK.out _ _ ⟨v339, v342, gb346, m3_, m4_, (by rw [ha.out]; exact putSel_upk 1 hb_ rfl rfl rfl), Q_HO296, Q_HO299, Q_HO311, Q_HO314, Q_HO324, Q_HO327, Q_BK286, Q_BK287, Q_BK317, Q_BK330, Q_HB, xo_ (hoff 3 (by kernel_rfl)), xo_ (hoff 3 (by kernel_rfl)), xo_ (hoff 3 (by kernel_rfl)), xo_ (hoff 3 (by kernel_rfl)), xo_ (hoff 3 (by kernel_rfl)), xo_ (hoff 3 (by kernel_rfl)), xo_ (hoff 3 (by kernel_rfl)), xo_ (hoff 3 (by kernel_rfl)), Q_BK346, Q_GW346, Q_GE346, Q_NB286_346, Q_NB346_286, Q_NB287_346, Q_NB346_287, Q_NB317_346, Q_NB346_317, Q_NB330_346, Q_NB346_330, xo_ (hoff 5 (by kernel_rfl)), xo_ (hoff 3 (by kernel_rfl)), Q_X4_⟩
      refine steps_cons ?_ ?_
      ·
       rintro b a w' ⟨v339, v342, gb346, m3_, m4_, ha, Q_HO296, Q_HO299, Q_HO311, Q_HO314, Q_HO324, Q_HO327, Q_BK286, Q_BK287, Q_BK317, Q_BK330, Q_HB, Q_HO296_e3, Q_HO299_e3, Q_HO311_e3, Q_HO314_e3, Q_HO324_e3, Q_HO327_e3, Q_HO340, Q_HO343, Q_BK346, Q_GW346, Q_GE346, Q_NB286_346, Q_NB346_286, Q_NB287_346, Q_NB346_287, Q_NB317_346, Q_NB346_317, Q_NB330_346, Q_NB346_330, Q_BK346_e5, Q_X3_, Q_X4_⟩ hb_ hon hoff
       refine ⟨_, rfl, fun K hK => ?_⟩
       have e31 : a.tmps[31]? = some (.agg #[.int .i64 a1_0, .string a1_1, .int .i64 a1_2]) := by rw [ha]; exact putSel_on (e := (1, 31, .agg #[.int .i64 a1_0, .string a1_1, .int .i64 a1_2])) 1 rfl rfl (hon 1 (by kernel_rfl)) rfl
       replace ha := Aside0.mk ha
       have HO296 := Aside0.mk (Q_HO296 (hoff 3 (by kernel_rfl)))
       have HO299 := Aside0.mk (Q_HO299 (hoff 3 (by kernel_rfl)))
       have HO311 := Aside0.mk (Q_HO311 (hoff 3 (by kernel_rfl)))
       have HO314 := Aside0.mk (Q_HO314 (hoff 3 (by kernel_rfl)))
       have HO324 := Aside0.mk (Q_HO324 (hoff 3 (by kernel_rfl)))
       have HO327 := Aside0.mk (Q_HO327 (hoff 3 (by kernel_rfl)))
       have BK286 := Aside0.mk Q_BK286
       have BK287 := Aside0.mk Q_BK287
       have BK317 := Aside0.mk Q_BK317
       have BK330 := Aside0.mk Q_BK330
       have HB := Aside0.mk Q_HB
       refine goes_ Try.func19 (by kernel_rfl) rfl #[.agg #[.int .i64 a1_0, .string a1_1, .int .i64 a1_2]] (by rfl) rfl rfl (by first | (simp only [List.map_toArray, List.map_cons, List.map_nil, Act.eval, Array.getD_eq_getD_getElem?, Option.getD_some, e31]; done) | (simp only [List.map_toArray, List.map_cons, List.map_nil, Act.eval, Array.getD_eq_getD_getElem?, Option.getD_some, e31]; rfl)) ?_
       with_reducible refine (laws_toFrame.calls a1_0 a1_1 a1_2 t331 t332 t333 _ A21.out).mono ?_
       rintro e w61 ⟨rfl, hb⟩
       refine ⟨_, rfl, ?_⟩
       have n0_ := Aside0.mk (Kd.R_below (qR HO296) hb)
       have n1_ := Aside0.mk (Kd.R_below (qR HO299) hb)
       have n2_ := Aside0.mk (Kd.R_below (qR HO311) hb)
       have n3_ := Aside0.mk (Kd.R_below (qR HO314) hb)
       have n4_ := Aside0.mk (Kd.R_below (qR HO324) hb)
       have n5_ := Aside0.mk (Kd.R_below (qR HO327) hb)
       have n6_ := Aside0.mk (blk_below (qK BK286) hb)
       have n7_ := Aside0.mk (blk_below (qK BK287) hb)
       have n8_ := Aside0.mk (blk_below (qK BK317) hb)
       have n9_ := Aside0.mk (blk_below (qK BK330) hb)
       have n10_ := Aside0.mk (below_step (qB HB) hb)
       have z_BK346 := fun (h0_ : b 4 = true) (h1_ : b 5 = false) => (show w61.heap[gb346]? = some (.cells #[.int .i64 0, .int .i64 0, .int .i64 0, .bool false, .slice none 0 0, .slice none 0 0, .int .i64 0, .int .i64 0] 29 (0, 0)) from by first | exact (blk_below (g := gb346) (o := .cells #[.int .i64 0, .int .i64 0, .int .i64 0, .bool false, .slice none 0 0, .slice none 0 0, .int .i64 0, .int .i64 0] 29 (0, 0)) (by (with_reducible repeat (first | refine blk_drewN ?_ _ | refine blk_drew ?_ | refine blk_alloc ?_ _)); exact (Q_BK346 h0_ h1_)) hb))
       clear HO296
       clear HO299
       clear HO311
       clear HO314
       clear HO324
       clear HO327
       clear BK286
       clear BK287
       clear BK317
       clear BK330
       clear HB
       have HO296 := n0_
       have HO299 := n1_
       have HO311 := n2_
       have HO314 := n3_
       have HO324 := n4_
       have HO327 := n5_
       have BK286 := n6_
       have BK287 := n7_
       have BK317 := n8_
       have BK330 := n9_
       have HB := n10_
       clear n0_ n1_ n2_ n3_ n4_ n5_ n6_ n7_ n8_ n9_ n10_
       (try clear hb)
       refine hK.out _ _ ⟨v339, v342, gb346, m3_, m4_, (by rw [ha.out]; exact putSel_upk 2 hb_ rfl rfl rfl), fun _ => (qR HO296), fun _ => (qR HO299), fun _ => (qR HO311), fun _ => (qR HO314), fun _ => (qR HO324), fun _ => (qR HO327), (qK BK286), (qK BK287), (qK BK317), (qK BK330), (qB HB), xo_ (hoff 3 (by kernel_rfl)), xo_ (hoff 3 (by kernel_rfl)), xo_ (hoff 3 (by kernel_rfl)), xo_ (hoff 3 (by kernel_rfl)), xo_ (hoff 3 (by kernel_rfl)), xo_ (hoff 3 (by kernel_rfl)), xo_ (hoff 3 (by kernel_rfl)), xo_ (hoff 3 (by kernel_rfl)), z_BK346, Q_GW346, Q_GE346, Q_NB286_346, Q_NB346_286, Q_NB287_346, Q_NB346_287, Q_NB317_346, Q_NB346_317, Q_NB330_346, Q_NB346_330, xo_ (hoff 5 (by kernel_rfl)), xo_ (hoff 3 (by kernel_rfl)), Q_X4_⟩
      refine steps_cons ?_ ?_
      ·
       rintro b a w' ⟨v339, v342, gb346, m3_, m4_, ha, Q_HO296, Q_HO299, Q_HO311, Q_HO314, Q_HO324, Q_HO327, Q_BK286, Q_BK287, Q_BK317, Q_BK330, Q_HB, Q_HO296_e3, Q_HO299_e3, Q_HO311_e3, Q_HO314_e3, Q_HO324_e3, Q_HO327_e3, Q_HO340, Q_HO343, Q_BK346, Q_GW346, Q_GE346, Q_NB286_346, Q_NB346_286, Q_NB287_346, Q_NB346_287, Q_NB317_346, Q_NB346_317, Q_NB330_346, Q_NB346_330, Q_BK346_e5, Q_X3_, Q_X4_⟩ hb_ hon hoff
       refine ⟨_, rfl, fun K hK => ?_⟩
       have e30 : a.tmps[30]? = some (.agg #[.int .i64 t318, .int .i64 t319, .int .i64 t320, .bool t321, .slice Ao57 t322.length co57, .slice Ao58 t325.length co58, .int .i64 t328, .int .i64 t329]) := by rw [ha]; exact putSel_on (e := (0, 30, .agg #[.int .i64 t318, .int .i64 t319, .int .i64 t320, .bool t321, .slice Ao57 t322.length co57, .slice Ao58 t325.length co58, .int .i64 t328, .int .i64 t329])) 0 rfl rfl (hon 0 (by kernel_rfl)) rfl
       have e32 : a.tmps[32]? = some (.agg #[.int .i64 t331, .string t332, .int .i64 t333]) := by rw [ha]; exact putSel_on (e := (2, 32, .agg #[.int .i64 t331, .string t332, .int .i64 t333])) 2 rfl rfl (hon 2 (by kernel_rfl)) rfl
       replace ha := Aside0.mk ha
       have HO296 := Aside0.mk (Q_HO296 hb_)
       have HO299 := Aside0.mk (Q_HO299 hb_)
       have HO311 := Aside0.mk (Q_HO311 hb_)
       have HO314 := Aside0.mk (Q_HO314 hb_)
       have HO324 := Aside0.mk (Q_HO324 hb_)
       have HO327 := Aside0.mk (Q_HO327 hb_)
       have BK286 := Aside0.mk Q_BK286
       have BK287 := Aside0.mk Q_BK287
       have BK317 := Aside0.mk Q_BK317
       have BK330 := Aside0.mk Q_BK330
       have HB := Aside0.mk Q_HB
       refine goes_ Try.func20 (by kernel_rfl) rfl #[.agg #[.int .i64 t318, .int .i64 t319, .int .i64 t320, .bool t321, .slice Ao57 t322.length co57, .slice Ao58 t325.length co58, .int .i64 t328, .int .i64 t329], .agg #[.int .i64 t331, .string t332, .int .i64 t333]] (by rfl) rfl rfl (by first | (simp only [List.map_toArray, List.map_cons, List.map_nil, Act.eval, Array.getD_eq_getD_getElem?, Option.getD_some, e30, e32]; done) | (simp only [List.map_toArray, List.map_cons, List.map_nil, Act.eval, Array.getD_eq_getD_getElem?, Option.getD_some, e30, e32]; rfl)) ?_
       with_reducible refine (impl_Tell.calls k t318 t319 t320 t321 _ _ t322 _ _ t325 t328 t329 t331 t332 t333 t334 t335 t336 t337 t338 t341 t344 t345 _ ?side1 ?side2 ?side3 ?side4 A22.out).mono ?_
       (case side1 => exact qC ((Kd.R_reads' HO324.out).2.2))
       (case side2 => exact (Kd.R_reads' HO324.out).2.1)
       (case side3 => exact qC ((Kd.R_reads' HO327.out).2.2))
       (case side4 => exact (Kd.R_reads' HO327.out).2.1)
       rintro e w63 ⟨v339, v342, rfl, ho0, ho1, hb⟩
       refine ⟨_, rfl, ?_⟩
       have n0_ := Aside0.mk (Kd.R_mono (Kd.R_told (Kd.R_told (Kd.R_old (qR HO296) hb) (Kd.R_base ho0)) (Kd.R_base ho1)) (fun _ h_ => h_.1))
       have n1_ := Aside0.mk (Kd.R_mono (Kd.R_told (Kd.R_told (Kd.R_old (qR HO299) hb) (Kd.R_base ho0)) (Kd.R_base ho1)) (fun _ h_ => h_.1))
       have n2_ := Aside0.mk (Kd.R_mono (Kd.R_told (Kd.R_told (Kd.R_old (qR HO311) hb) (Kd.R_base ho0)) (Kd.R_base ho1)) (fun _ h_ => h_.1))
       have n3_ := Aside0.mk (Kd.R_mono (Kd.R_told (Kd.R_told (Kd.R_old (qR HO314) hb) (Kd.R_base ho0)) (Kd.R_base ho1)) (fun _ h_ => h_.1))
       have n4_ := Aside0.mk (Kd.R_mono (Kd.R_told (Kd.R_told (Kd.R_old (qR HO324) hb) (Kd.R_base ho0)) (Kd.R_base ho1)) (fun _ h_ => h_.1))
       have n5_ := Aside0.mk (Kd.R_mono (Kd.R_told (Kd.R_told (Kd.R_old (qR HO327) hb) (Kd.R_base ho0)) (Kd.R_base ho1)) (fun _ h_ => h_.1))
       have n6_ := Aside0.mk (Kd.R_lower (Kd.R_new' (Kd.R_new' (Kd.R_new' (Kd.R_new' (Kd.R_new' (Kd.R_new' ho0 (Kd.R_lt (qR HO296))) (Kd.R_lt (qR HO299))) (Kd.R_lt (qR HO311))) (Kd.R_lt (qR HO314))) (Kd.R_lt (qR HO324))) (Kd.R_lt (qR HO327))) (below_size (qB HB)))
       have n7_ := Aside0.mk (Kd.R_lower (Kd.R_new' (Kd.R_new' (Kd.R_new' (Kd.R_new' (Kd.R_new' (Kd.R_new' ho1 (Kd.R_lt (qR HO296))) (Kd.R_lt (qR HO299))) (Kd.R_lt (qR HO311))) (Kd.R_lt (qR HO314))) (Kd.R_lt (qR HO324))) (Kd.R_lt (qR HO327))) (below_size (qB HB)))
       have n8_ := Aside0.mk (blk_below (qK BK286) hb)
       have n9_ := Aside0.mk (blk_below (qK BK287) hb)
       have n10_ := Aside0.mk (blk_below (qK BK317) hb)
       have n11_ := Aside0.mk (blk_below (qK BK330) hb)
       have n12_ := Aside0.mk (below_step (qB HB) hb)
       have z_BK346 := fun (h0_ : b 4 = true) (h1_ : b 5 = false) => (show w63.heap[gb346]? = some (.cells #[.int .i64 0, .int .i64 0, .int .i64 0, .bool false, .slice none 0 0, .slice none 0 0, .int .i64 0, .int .i64 0] 29 (0, 0)) from by first | exact (blk_below (g := gb346) (o := .cells #[.int .i64 0, .int .i64 0, .int .i64 0, .bool false, .slice none 0 0, .slice none 0 0, .int .i64 0, .int .i64 0] 29 (0, 0)) (by (with_reducible repeat (first | refine blk_drewN ?_ _ | refine blk_drew ?_ | refine blk_alloc ?_ _)); exact (Q_BK346 h0_ h1_)) hb))
       clear HO296
       clear HO299
       clear HO311
       clear HO314
       clear HO324
       clear HO327
       clear BK286
       clear BK287
       clear BK317
       clear BK330
       clear HB
       have HO296 := n0_
       have HO299 := n1_
       have HO311 := n2_
       have HO314 := n3_
       have HO324 := n4_
       have HO327 := n5_
       have HO340 := n6_
       have HO343 := n7_
       have BK286 := n8_
       have BK287 := n9_
       have BK317 := n10_
       have BK330 := n11_
       have HB := n12_
       clear n0_ n1_ n2_ n3_ n4_ n5_ n6_ n7_ n8_ n9_ n10_ n11_ n12_
       (try clear hb ho0 ho1)
       refine hK.out _ _ ⟨v339, v342, gb346, (.agg #[.int .i64 t334, .int .i64 t335, .int .i64 t336, .bool t337, v339, v342, .int .i64 t344, .int .i64 t345]), m4_, (by rw [ha.out]; exact putSel_upk 3 hb_ rfl rfl rfl), xo_ (up_self b 3), xo_ (up_self b 3), xo_ (up_self b 3), xo_ (up_self b 3), xo_ (up_self b 3), xo_ (up_self b 3), (qK BK286), (qK BK287), (qK BK317), (qK BK330), (qB HB), fun _ => (tR (Kd.R_mono HO296.out (fun _ hk => ⟨hk.1.1.1, ⟨hk.1.1.2.1, ⟨hk.1.1.2.2.1, ⟨hk.1.1.2.2.2.1, ⟨hk.1.1.2.2.2.2, ⟨hk.1.2, hk.2⟩⟩⟩⟩⟩⟩))), fun _ => (tR (Kd.R_mono HO299.out (fun _ hk => ⟨hk.1.1.1, ⟨hk.1.1.2.1, ⟨hk.1.1.2.2.1, ⟨hk.1.1.2.2.2.1, ⟨hk.1.1.2.2.2.2, ⟨hk.1.2, hk.2⟩⟩⟩⟩⟩⟩))), fun _ => (tR (Kd.R_mono HO311.out (fun _ hk => ⟨hk.1.1.1, ⟨hk.1.1.2.1, ⟨hk.1.1.2.2.1, ⟨hk.1.1.2.2.2.1, ⟨hk.1.1.2.2.2.2, ⟨hk.1.2, hk.2⟩⟩⟩⟩⟩⟩))), fun _ => (tR (Kd.R_mono HO314.out (fun _ hk => ⟨hk.1.1.1, ⟨hk.1.1.2.1, ⟨hk.1.1.2.2.1, ⟨hk.1.1.2.2.2.1, ⟨hk.1.1.2.2.2.2, ⟨hk.1.2, hk.2⟩⟩⟩⟩⟩⟩))), fun _ => (tR (Kd.R_mono HO324.out (fun _ hk => ⟨hk.1.1.1, ⟨hk.1.1.2.1, ⟨hk.1.1.2.2.1, ⟨hk.1.1.2.2.2.1, ⟨hk.1.1.2.2.2.2, ⟨hk.1.2, hk.2⟩⟩⟩⟩⟩⟩))), fun _ => (tR (Kd.R_mono HO327.out (fun _ hk => ⟨hk.1.1.1, ⟨hk.1.1.2.1, ⟨hk.1.1.2.2.1, ⟨hk.1.1.2.2.2.1, ⟨hk.1.1.2.2.2.2, ⟨hk.1.2, hk.2⟩⟩⟩⟩⟩⟩))), fun _ => (tR (Kd.R_mono HO340.out (fun _ hk => ⟨hk.1.1.1.1.1.2, ⟨hk.1.1.1.1.2, ⟨hk.1.1.1.2, ⟨hk.1.1.2, ⟨hk.1.2, ⟨hk.2, hk.1.1.1.1.1.1⟩⟩⟩⟩⟩⟩))), fun _ => (tR (Kd.R_mono HO343.out (fun _ hk => ⟨hk.1.1.1.1.1.2, ⟨hk.1.1.1.1.2, ⟨hk.1.1.1.2, ⟨hk.1.1.2, ⟨hk.1.2, ⟨hk.2, hk.1.1.1.1.1.1⟩⟩⟩⟩⟩⟩))), z_BK346, Q_GW346, Q_GE346, Q_NB286_346, Q_NB346_286, Q_NB287_346, Q_NB346_287, Q_NB317_346, Q_NB346_317, Q_NB330_346, Q_NB346_330, xo_ (hoff 5 (by kernel_rfl)), fun _ => rfl, Q_X4_⟩
      refine steps_cons ?_ ?_
      ·
       rintro b a w' ⟨v339, v342, gb346, m3_, m4_, ha, Q_HO296, Q_HO299, Q_HO311, Q_HO314, Q_HO324, Q_HO327, Q_BK286, Q_BK287, Q_BK317, Q_BK330, Q_HB, Q_HO296_e3, Q_HO299_e3, Q_HO311_e3, Q_HO314_e3, Q_HO324_e3, Q_HO327_e3, Q_HO340, Q_HO343, Q_BK346, Q_GW346, Q_GE346, Q_NB286_346, Q_NB346_286, Q_NB287_346, Q_NB346_287, Q_NB317_346, Q_NB346_317, Q_NB330_346, Q_NB346_330, Q_BK346_e5, Q_X3_, Q_X4_⟩ hb_ hon hoff
       refine ⟨_, rfl, fun K hK => ?_⟩
       replace ha := Aside0.mk ha
       have BK286 := Aside0.mk Q_BK286
       have BK287 := Aside0.mk Q_BK287
       have BK317 := Aside0.mk Q_BK317
       have BK330 := Aside0.mk Q_BK330
       have HB := Aside0.mk Q_HB
       refine box_step ?hg (N := 8) ?hd (cs := #[.int .i64 0, .int .i64 0, .int .i64 0, .bool false, .slice none 0 0, .slice none 0 0, .int .i64 0, .int .i64 0]) (t := 29) ?hr ?_; (case hd => rfl); (case hg => rfl); (case hr => first | (go_simp; done) | (go_simp; rfl))
       intro gb346 hg w61 hbox hb
       have n6_ := Aside0.mk (blk_below (qK BK286) hb)
       have n7_ := Aside0.mk (blk_below (qK BK287) hb)
       have n8_ := Aside0.mk (blk_below (qK BK317) hb)
       have n9_ := Aside0.mk (blk_below (qK BK330) hb)
       have n10_ := Aside0.mk (below_step (qB HB) hb)
       have n11_ := Aside0.mk (hbox)
       have n12_ := Aside0.mk ((gG_ hg (qB HB)))
       have n13_ := Aside0.mk ((gG_ hg (qB HB)))
       have n14_ := Aside0.mk ((gN_ hg (qK BK286)))
       have n15_ := Aside0.mk ((gM_ hg (qK BK286)))
       have n16_ := Aside0.mk ((gN_ hg (qK BK287)))
       have n17_ := Aside0.mk ((gM_ hg (qK BK287)))
       have n18_ := Aside0.mk ((gN_ hg (qK BK317)))
       have n19_ := Aside0.mk ((gM_ hg (qK BK317)))
       have n20_ := Aside0.mk ((gN_ hg (qK BK330)))
       have n21_ := Aside0.mk ((gM_ hg (qK BK330)))
       have z_HO296 := fun (h0_ : b 3 = false) => (show Kd.R (Kd.int .u8) 5 w61 w.heap.size (fun k_ => some k_ ≠ (v298 : Value).ownBlock ∧ some k_ ≠ (v310 : Value).ownBlock ∧ some k_ ≠ (v313 : Value).ownBlock ∧ some k_ ≠ (.slice Ao57 t322.length co57 : Value).ownBlock ∧ some k_ ≠ (.slice Ao58 t325.length co58 : Value).ownBlock) v295 t294 from mR_ (Kd.R_below (tR (Q_HO296 h0_)) hb))
       have z_HO299 := fun (h0_ : b 3 = false) => (show Kd.R (Kd.int .u8) 5 w61 w.heap.size (fun k_ => some k_ ≠ (v295 : Value).ownBlock ∧ some k_ ≠ (v310 : Value).ownBlock ∧ some k_ ≠ (v313 : Value).ownBlock ∧ some k_ ≠ (.slice Ao57 t322.length co57 : Value).ownBlock ∧ some k_ ≠ (.slice Ao58 t325.length co58 : Value).ownBlock) v298 t297 from mR_ (Kd.R_below (tR (Q_HO299 h0_)) hb))
       have z_HO311 := fun (h0_ : b 3 = false) => (show Kd.R (Kd.int .u8) 5 w61 w.heap.size (fun k_ => some k_ ≠ (v295 : Value).ownBlock ∧ some k_ ≠ (v298 : Value).ownBlock ∧ some k_ ≠ (v313 : Value).ownBlock ∧ some k_ ≠ (.slice Ao57 t322.length co57 : Value).ownBlock ∧ some k_ ≠ (.slice Ao58 t325.length co58 : Value).ownBlock) v310 t309 from mR_ (Kd.R_below (tR (Q_HO311 h0_)) hb))
       have z_HO314 := fun (h0_ : b 3 = false) => (show Kd.R (Kd.int .u8) 5 w61 w.heap.size (fun k_ => some k_ ≠ (v295 : Value).ownBlock ∧ some k_ ≠ (v298 : Value).ownBlock ∧ some k_ ≠ (v310 : Value).ownBlock ∧ some k_ ≠ (.slice Ao57 t322.length co57 : Value).ownBlock ∧ some k_ ≠ (.slice Ao58 t325.length co58 : Value).ownBlock) v313 t312 from mR_ (Kd.R_below (tR (Q_HO314 h0_)) hb))
       have z_HO324 := fun (h0_ : b 3 = false) => (show Kd.R (Kd.int .u8) 5 w61 w.heap.size (fun k_ => some k_ ≠ (v295 : Value).ownBlock ∧ some k_ ≠ (v298 : Value).ownBlock ∧ some k_ ≠ (v310 : Value).ownBlock ∧ some k_ ≠ (v313 : Value).ownBlock ∧ some k_ ≠ (.slice Ao58 t325.length co58 : Value).ownBlock) (.slice Ao57 t322.length co57) t322 from mR_ (Kd.R_below (tR (Q_HO324 h0_)) hb))
       have z_HO327 := fun (h0_ : b 3 = false) => (show Kd.R (Kd.int .u8) 5 w61 w.heap.size (fun k_ => some k_ ≠ (v295 : Value).ownBlock ∧ some k_ ≠ (v298 : Value).ownBlock ∧ some k_ ≠ (v310 : Value).ownBlock ∧ some k_ ≠ (v313 : Value).ownBlock ∧ some k_ ≠ (.slice Ao57 t322.length co57 : Value).ownBlock) (.slice Ao58 t325.length co58) t325 from mR_ (Kd.R_below (tR (Q_HO327 h0_)) hb))
       have z_HO296_e3 := fun (h0_ : b 3 = true) => (show Kd.R (Kd.int .u8) 5 w61 w.heap.size (fun k_ => some k_ ≠ (v298 : Value).ownBlock ∧ some k_ ≠ (v310 : Value).ownBlock ∧ some k_ ≠ (v313 : Value).ownBlock ∧ some k_ ≠ (.slice Ao57 t322.length co57 : Value).ownBlock ∧ some k_ ≠ (.slice Ao58 t325.length co58 : Value).ownBlock ∧ some k_ ≠ (v339 : Value).ownBlock ∧ some k_ ≠ (v342 : Value).ownBlock) v295 t294 from mR_ (Kd.R_below (tR (Q_HO296_e3 h0_)) hb))
       have z_HO299_e3 := fun (h0_ : b 3 = true) => (show Kd.R (Kd.int .u8) 5 w61 w.heap.size (fun k_ => some k_ ≠ (v295 : Value).ownBlock ∧ some k_ ≠ (v310 : Value).ownBlock ∧ some k_ ≠ (v313 : Value).ownBlock ∧ some k_ ≠ (.slice Ao57 t322.length co57 : Value).ownBlock ∧ some k_ ≠ (.slice Ao58 t325.length co58 : Value).ownBlock ∧ some k_ ≠ (v339 : Value).ownBlock ∧ some k_ ≠ (v342 : Value).ownBlock) v298 t297 from mR_ (Kd.R_below (tR (Q_HO299_e3 h0_)) hb))
       have z_HO311_e3 := fun (h0_ : b 3 = true) => (show Kd.R (Kd.int .u8) 5 w61 w.heap.size (fun k_ => some k_ ≠ (v295 : Value).ownBlock ∧ some k_ ≠ (v298 : Value).ownBlock ∧ some k_ ≠ (v313 : Value).ownBlock ∧ some k_ ≠ (.slice Ao57 t322.length co57 : Value).ownBlock ∧ some k_ ≠ (.slice Ao58 t325.length co58 : Value).ownBlock ∧ some k_ ≠ (v339 : Value).ownBlock ∧ some k_ ≠ (v342 : Value).ownBlock) v310 t309 from mR_ (Kd.R_below (tR (Q_HO311_e3 h0_)) hb))
       have z_HO314_e3 := fun (h0_ : b 3 = true) => (show Kd.R (Kd.int .u8) 5 w61 w.heap.size (fun k_ => some k_ ≠ (v295 : Value).ownBlock ∧ some k_ ≠ (v298 : Value).ownBlock ∧ some k_ ≠ (v310 : Value).ownBlock ∧ some k_ ≠ (.slice Ao57 t322.length co57 : Value).ownBlock ∧ some k_ ≠ (.slice Ao58 t325.length co58 : Value).ownBlock ∧ some k_ ≠ (v339 : Value).ownBlock ∧ some k_ ≠ (v342 : Value).ownBlock) v313 t312 from mR_ (Kd.R_below (tR (Q_HO314_e3 h0_)) hb))
       have z_HO324_e3 := fun (h0_ : b 3 = true) => (show Kd.R (Kd.int .u8) 5 w61 w.heap.size (fun k_ => some k_ ≠ (v295 : Value).ownBlock ∧ some k_ ≠ (v298 : Value).ownBlock ∧ some k_ ≠ (v310 : Value).ownBlock ∧ some k_ ≠ (v313 : Value).ownBlock ∧ some k_ ≠ (.slice Ao58 t325.length co58 : Value).ownBlock ∧ some k_ ≠ (v339 : Value).ownBlock ∧ some k_ ≠ (v342 : Value).ownBlock) (.slice Ao57 t322.length co57) t322 from mR_ (Kd.R_below (tR (Q_HO324_e3 h0_)) hb))
       have z_HO327_e3 := fun (h0_ : b 3 = true) => (show Kd.R (Kd.int .u8) 5 w61 w.heap.size (fun k_ => some k_ ≠ (v295 : Value).ownBlock ∧ some k_ ≠ (v298 : Value).ownBlock ∧ some k_ ≠ (v310 : Value).ownBlock ∧ some k_ ≠ (v313 : Value).ownBlock ∧ some k_ ≠ (.slice Ao57 t322.length co57 : Value).ownBlock ∧ some k_ ≠ (v339 : Value).ownBlock ∧ some k_ ≠ (v342 : Value).ownBlock) (.slice Ao58 t325.length co58) t325 from mR_ (Kd.R_below (tR (Q_HO327_e3 h0_)) hb))
       have z_HO340 := fun (h0_ : b 3 = true) => (show Kd.R (Kd.int .u8) 5 w61 w.heap.size (fun k_ => some k_ ≠ (v295 : Value).ownBlock ∧ some k_ ≠ (v298 : Value).ownBlock ∧ some k_ ≠ (v310 : Value).ownBlock ∧ some k_ ≠ (v313 : Value).ownBlock ∧ some k_ ≠ (.slice Ao57 t322.length co57 : Value).ownBlock ∧ some k_ ≠ (.slice Ao58 t325.length co58 : Value).ownBlock ∧ some k_ ≠ (v342 : Value).ownBlock) v339 t338 from mR_ (Kd.R_below (tR (Q_HO340 h0_)) hb))
       have z_HO343 := fun (h0_ : b 3 = true) => (show Kd.R (Kd.int .u8) 5 w61 w.heap.size (fun k_ => some k_ ≠ (v295 : Value).ownBlock ∧ some k_ ≠ (v298 : Value).ownBlock ∧ some k_ ≠ (v310 : Value).ownBlock ∧ some k_ ≠ (v313 : Value).ownBlock ∧ some k_ ≠ (.slice Ao57 t322.length co57 : Value).ownBlock ∧ some k_ ≠ (.slice Ao58 t325.length co58 : Value).ownBlock ∧ some k_ ≠ (v339 : Value).ownBlock) v342 t341 from mR_ (Kd.R_below (tR (Q_HO343 h0_)) hb))
       clear BK286
       clear BK287
       clear BK317
       clear BK330
       clear HB
       have BK286 := n6_
       have BK287 := n7_
       have BK317 := n8_
       have BK330 := n9_
       have HB := n10_
       have BK346 := n11_
       have GW346 := n12_
       have IGW346 := gI_ GW346
       have GE346 := n13_
       have IGE346 := gI_ GE346
       have NB286_346 := n14_
       have NB346_286 := n15_
       have NB287_346 := n16_
       have NB346_287 := n17_
       have NB317_346 := n18_
       have NB346_317 := n19_
       have NB330_346 := n20_
       have NB346_330 := n21_
       clear n6_ n7_ n8_ n9_ n10_ n11_ n12_ n13_ n14_ n15_ n16_ n17_ n18_ n19_ n20_ n21_
       clear hb hbox hg
       refine hK.out _ _ ⟨v339, v342, gb346, m3_, (.pointer (some ⟨gb346, 0, none⟩)), (by rw [ha.out]; exact putSel_upk 4 hb_ rfl rfl rfl), z_HO296, z_HO299, z_HO311, z_HO314, z_HO324, z_HO327, (qK BK286), (qK BK287), (qK BK317), (qK BK330), (qB HB), z_HO296_e3, z_HO299_e3, z_HO311_e3, z_HO314_e3, z_HO324_e3, z_HO327_e3, z_HO340, z_HO343, fun _ _ => (qK BK346), fun _ => GW346.out, fun _ => GE346.out, fun _ => NB286_346.out, fun _ => NB346_286.out, fun _ => NB287_346.out, fun _ => NB346_287.out, fun _ => NB317_346.out, fun _ => NB346_317.out, fun _ => NB330_346.out, fun _ => NB346_330.out, xo_ (hoff 5 (by kernel_rfl)), Q_X3_, fun _ => rfl⟩
      refine steps_cons ?_ ?_
      ·
       rintro b a w' ⟨v339, v342, gb346, m3_, m4_, ha, Q_HO296, Q_HO299, Q_HO311, Q_HO314, Q_HO324, Q_HO327, Q_BK286, Q_BK287, Q_BK317, Q_BK330, Q_HB, Q_HO296_e3, Q_HO299_e3, Q_HO311_e3, Q_HO314_e3, Q_HO324_e3, Q_HO327_e3, Q_HO340, Q_HO343, Q_BK346, Q_GW346, Q_GE346, Q_NB286_346, Q_NB346_286, Q_NB287_346, Q_NB346_287, Q_NB317_346, Q_NB346_317, Q_NB330_346, Q_NB346_330, Q_BK346_e5, Q_X3_, Q_X4_⟩ hb_ hon hoff
       refine ⟨_, rfl, fun K hK => ?_⟩
       have e8 : a.tmps[8]? = some (m4_) := by rw [ha]; exact putSel_on (e := (4, 8, m4_)) 4 rfl rfl (hon 4 (by kernel_rfl)) rfl
       rw [Q_X4_ (hon 4 (by kernel_rfl))] at e8
       have e33 : a.tmps[33]? = some (m3_) := by rw [ha]; exact putSel_on (e := (3, 33, m3_)) 3 rfl rfl (hon 3 (by kernel_rfl)) rfl
       rw [Q_X3_ (hon 3 (by kernel_rfl))] at e33
       replace ha := Aside0.mk ha
       have BK286 := Aside0.mk Q_BK286
       have BK287 := Aside0.mk Q_BK287
       have BK317 := Aside0.mk Q_BK317
       have BK330 := Aside0.mk Q_BK330
       have HB := Aside0.mk Q_HB
       have HO296 := Aside0.mk (Q_HO296_e3 (hon 3 (by kernel_rfl)))
       have HO299 := Aside0.mk (Q_HO299_e3 (hon 3 (by kernel_rfl)))
       have HO311 := Aside0.mk (Q_HO311_e3 (hon 3 (by kernel_rfl)))
       have HO314 := Aside0.mk (Q_HO314_e3 (hon 3 (by kernel_rfl)))
       have HO324 := Aside0.mk (Q_HO324_e3 (hon 3 (by kernel_rfl)))
       have HO327 := Aside0.mk (Q_HO327_e3 (hon 3 (by kernel_rfl)))
       have HO340 := Aside0.mk (Q_HO340 (hon 3 (by kernel_rfl)))
       have HO343 := Aside0.mk (Q_HO343 (hon 3 (by kernel_rfl)))
       have BK346 := Aside0.mk (Q_BK346 (hon 4 (by kernel_rfl)) hb_)
       have GW346 := Aside0.mk (Q_GW346 (hon 4 (by kernel_rfl)))
       have IGW346 := gI_ GW346
       have GE346 := Aside0.mk (Q_GE346 (hon 4 (by kernel_rfl)))
       have IGE346 := gI_ GE346
       have NB286_346 := Aside0.mk (Q_NB286_346 (hon 4 (by kernel_rfl)))
       have NB346_286 := Aside0.mk (Q_NB346_286 (hon 4 (by kernel_rfl)))
       have NB287_346 := Aside0.mk (Q_NB287_346 (hon 4 (by kernel_rfl)))
       have NB346_287 := Aside0.mk (Q_NB346_287 (hon 4 (by kernel_rfl)))
       have NB317_346 := Aside0.mk (Q_NB317_346 (hon 4 (by kernel_rfl)))
       have NB346_317 := Aside0.mk (Q_NB346_317 (hon 4 (by kernel_rfl)))
       have NB330_346 := Aside0.mk (Q_NB330_346 (hon 4 (by kernel_rfl)))
       have NB346_330 := Aside0.mk (Q_NB346_330 (hon 4 (by kernel_rfl)))
       obtain ⟨Ao69, co69, eo69⟩ := Kd.R_slice HO340.out
       (first | subst eo69 | (injection eo69 with f1_ f2_ f3_; have f4_ := f1_.symm; have f5_ := f3_.symm; clear f1_ f2_ f3_; subst f4_; subst f5_))
       obtain ⟨Ao71, co71, eo71⟩ := Kd.R_slice HO343.out
       (first | subst eo71 | (injection eo71 with f1_ f2_ f3_; have f4_ := f1_.symm; have f5_ := f3_.symm; clear f1_ f2_ f3_; subst f4_; subst f5_))
       have hs65 : w'.cell? ⟨gb346, 0, none⟩ = some (.int .i64 0) := (blk_cell BK346.out 0).trans rfl
       have hfs65 := blk_frozen BK346.out 0
       have hns65_0 := NB286_346.out
       have hns65_1 := NB287_346.out
       have hns65_2 := NB317_346.out
       have hns65_3 := NB330_346.out
       have hms65_0 := NB346_286.out
       have hms65_1 := NB346_287.out
       have hms65_2 := NB346_317.out
       have hms65_3 := NB346_330.out
       have hs66 : w'.cell? ⟨gb346, 1, none⟩ = some (.int .i64 0) := (blk_cell BK346.out 1).trans rfl
       have hfs66 := blk_frozen BK346.out 1
       have hns66_0 := NB286_346.out
       have hns66_1 := NB287_346.out
       have hns66_2 := NB317_346.out
       have hns66_3 := NB330_346.out
       have hms66_0 := NB346_286.out
       have hms66_1 := NB346_287.out
       have hms66_2 := NB346_317.out
       have hms66_3 := NB346_330.out
       have hs67 : w'.cell? ⟨gb346, 2, none⟩ = some (.int .i64 0) := (blk_cell BK346.out 2).trans rfl
       have hfs67 := blk_frozen BK346.out 2
       have hns67_0 := NB286_346.out
       have hns67_1 := NB287_346.out
       have hns67_2 := NB317_346.out
       have hns67_3 := NB330_346.out
       have hms67_0 := NB346_286.out
       have hms67_1 := NB346_287.out
       have hms67_2 := NB346_317.out
       have hms67_3 := NB346_330.out
       have hs68 : w'.cell? ⟨gb346, 3, none⟩ = some (.bool false) := (blk_cell BK346.out 3).trans rfl
       have hfs68 := blk_frozen BK346.out 3
       have hns68_0 := NB286_346.out
       have hns68_1 := NB287_346.out
       have hns68_2 := NB317_346.out
       have hns68_3 := NB330_346.out
       have hms68_0 := NB346_286.out
       have hms68_1 := NB346_287.out
       have hms68_2 := NB346_317.out
       have hms68_3 := NB346_330.out
       have hs70 : w'.cell? ⟨gb346, 4, none⟩ = some (.slice none 0 0) := (blk_cell BK346.out 4).trans rfl
       have hfs70 := blk_frozen BK346.out 4
       have hns70_0 := NB286_346.out
       have hns70_1 := NB287_346.out
       have hns70_2 := NB317_346.out
       have hns70_3 := NB330_346.out
       have hms70_0 := NB346_286.out
       have hms70_1 := NB346_287.out
       have hms70_2 := NB346_317.out
       have hms70_3 := NB346_330.out
       have hs72 : w'.cell? ⟨gb346, 5, none⟩ = some (.slice none 0 0) := (blk_cell BK346.out 5).trans rfl
       have hfs72 := blk_frozen BK346.out 5
       have hns72_0 := NB286_346.out
       have hns72_1 := NB287_346.out
       have hns72_2 := NB317_346.out
       have hns72_3 := NB330_346.out
       have hms72_0 := NB346_286.out
       have hms72_1 := NB346_287.out
       have hms72_2 := NB346_317.out
       have hms72_3 := NB346_330.out
       have hs73 : w'.cell? ⟨gb346, 6, none⟩ = some (.int .i64 0) := (blk_cell BK346.out 6).trans rfl
       have hfs73 := blk_frozen BK346.out 6
       have hns73_0 := NB286_346.out
       have hns73_1 := NB287_346.out
       have hns73_2 := NB317_346.out
       have hns73_3 := NB330_346.out
       have hms73_0 := NB346_286.out
       have hms73_1 := NB346_287.out
       have hms73_2 := NB346_317.out
       have hms73_3 := NB346_330.out
       have hs74 : w'.cell? ⟨gb346, 7, none⟩ = some (.int .i64 0) := (blk_cell BK346.out 7).trans rfl
       have hfs74 := blk_frozen BK346.out 7
       have hns74_0 := NB286_346.out
       have hns74_1 := NB287_346.out
       have hns74_2 := NB317_346.out
       have hns74_3 := NB330_346.out
       have hms74_0 := NB346_286.out
       have hms74_1 := NB346_287.out
       have hms74_2 := NB346_317.out
       have hms74_3 := NB346_330.out
       refine skip_ (w1 := ?_) (by rfl) rfl ?_ ?_
       rotate_left
       ·
        go_simp
        rfl
       refine hK.out _ _ ⟨.slice Ao69 t338.length co69, .slice Ao71 t341.length co71, gb346, m3_, m4_, (by rw [ha.out]; exact putSel_none (v := undef) rfl), xo_ (hon 3 (by kernel_rfl)), xo_ (hon 3 (by kernel_rfl)), xo_ (hon 3 (by kernel_rfl)), xo_ (hon 3 (by kernel_rfl)), xo_ (hon 3 (by kernel_rfl)), xo_ (hon 3 (by kernel_rfl)), (by (with_reducible repeat (first | refine blk_drewN ?_ _ | refine blk_drew ?_ | refine blk_alloc ?_ _)); refine Go.Proofs.YtahfemlfdpbkkaaV.blk_far8 ?_ NB286_346.out; (with_reducible repeat (first | refine blk_drewN ?_ _ | refine blk_drew ?_ | refine blk_alloc ?_ _)); exact BK286.out), (by (with_reducible repeat (first | refine blk_drewN ?_ _ | refine blk_drew ?_ | refine blk_alloc ?_ _)); refine Go.Proofs.YtahfemlfdpbkkaaV.blk_far8 ?_ NB287_346.out; (with_reducible repeat (first | refine blk_drewN ?_ _ | refine blk_drew ?_ | refine blk_alloc ?_ _)); exact BK287.out), (by (with_reducible repeat (first | refine blk_drewN ?_ _ | refine blk_drew ?_ | refine blk_alloc ?_ _)); refine Go.Proofs.YtahfemlfdpbkkaaV.blk_far8 ?_ NB317_346.out; (with_reducible repeat (first | refine blk_drewN ?_ _ | refine blk_drew ?_ | refine blk_alloc ?_ _)); exact BK317.out), (by (with_reducible repeat (first | refine blk_drewN ?_ _ | refine blk_drew ?_ | refine blk_alloc ?_ _)); refine Go.Proofs.YtahfemlfdpbkkaaV.blk_far8 ?_ NB330_346.out; (with_reducible repeat (first | refine blk_drewN ?_ _ | refine blk_drew ?_ | refine blk_alloc ?_ _)); exact BK330.out), (qB HB), fun _ => (by (with_reducible repeat (first | apply Kd.R_alloc | apply Kd.R_drewN | apply Kd.R_drew)); exact Kd.R_mono (Go.Proofs.YtahfemlfdpbkkaaV.R_far8 (g := gb346) (Kd.R_types HO296.out BK346.out (by decide)) (fun _ hk => hk.2)) (fun _ hk => ⟨hk.1.1, ⟨hk.1.2.1, ⟨hk.1.2.2.1, ⟨hk.1.2.2.2.1, ⟨hk.1.2.2.2.2.1, ⟨hk.1.2.2.2.2.2.1, hk.1.2.2.2.2.2.2⟩⟩⟩⟩⟩⟩)), fun _ => (by (with_reducible repeat (first | apply Kd.R_alloc | apply Kd.R_drewN | apply Kd.R_drew)); exact Kd.R_mono (Go.Proofs.YtahfemlfdpbkkaaV.R_far8 (g := gb346) (Kd.R_types HO299.out BK346.out (by decide)) (fun _ hk => hk.2)) (fun _ hk => ⟨hk.1.1, ⟨hk.1.2.1, ⟨hk.1.2.2.1, ⟨hk.1.2.2.2.1, ⟨hk.1.2.2.2.2.1, ⟨hk.1.2.2.2.2.2.1, hk.1.2.2.2.2.2.2⟩⟩⟩⟩⟩⟩)), fun _ => (by (with_reducible repeat (first | apply Kd.R_alloc | apply Kd.R_drewN | apply Kd.R_drew)); exact Kd.R_mono (Go.Proofs.YtahfemlfdpbkkaaV.R_far8 (g := gb346) (Kd.R_types HO311.out BK346.out (by decide)) (fun _ hk => hk.2)) (fun _ hk => ⟨hk.1.1, ⟨hk.1.2.1, ⟨hk.1.2.2.1, ⟨hk.1.2.2.2.1, ⟨hk.1.2.2.2.2.1, ⟨hk.1.2.2.2.2.2.1, hk.1.2.2.2.2.2.2⟩⟩⟩⟩⟩⟩)), fun _ => (by (with_reducible repeat (first | apply Kd.R_alloc | apply Kd.R_drewN | apply Kd.R_drew)); exact Kd.R_mono (Go.Proofs.YtahfemlfdpbkkaaV.R_far8 (g := gb346) (Kd.R_types HO314.out BK346.out (by decide)) (fun _ hk => hk.2)) (fun _ hk => ⟨hk.1.1, ⟨hk.1.2.1, ⟨hk.1.2.2.1, ⟨hk.1.2.2.2.1, ⟨hk.1.2.2.2.2.1, ⟨hk.1.2.2.2.2.2.1, hk.1.2.2.2.2.2.2⟩⟩⟩⟩⟩⟩)), fun _ => (by (with_reducible repeat (first | apply Kd.R_alloc | apply Kd.R_drewN | apply Kd.R_drew)); exact Kd.R_mono (Go.Proofs.YtahfemlfdpbkkaaV.R_far8 (g := gb346) (Kd.R_types HO324.out BK346.out (by decide)) (fun _ hk => hk.2)) (fun _ hk => ⟨hk.1.1, ⟨hk.1.2.1, ⟨hk.1.2.2.1, ⟨hk.1.2.2.2.1, ⟨hk.1.2.2.2.2.1, ⟨hk.1.2.2.2.2.2.1, hk.1.2.2.2.2.2.2⟩⟩⟩⟩⟩⟩)), fun _ => (by (with_reducible repeat (first | apply Kd.R_alloc | apply Kd.R_drewN | apply Kd.R_drew)); exact Kd.R_mono (Go.Proofs.YtahfemlfdpbkkaaV.R_far8 (g := gb346) (Kd.R_types HO327.out BK346.out (by decide)) (fun _ hk => hk.2)) (fun _ hk => ⟨hk.1.1, ⟨hk.1.2.1, ⟨hk.1.2.2.1, ⟨hk.1.2.2.2.1, ⟨hk.1.2.2.2.2.1, ⟨hk.1.2.2.2.2.2.1, hk.1.2.2.2.2.2.2⟩⟩⟩⟩⟩⟩)), fun _ => (by (with_reducible repeat (first | apply Kd.R_alloc | apply Kd.R_drewN | apply Kd.R_drew)); exact Kd.R_mono (Go.Proofs.YtahfemlfdpbkkaaV.R_far8 (g := gb346) (Kd.R_types HO340.out BK346.out (by decide)) (fun _ hk => hk.2)) (fun _ hk => ⟨hk.1.1, ⟨hk.1.2.1, ⟨hk.1.2.2.1, ⟨hk.1.2.2.2.1, ⟨hk.1.2.2.2.2.1, ⟨hk.1.2.2.2.2.2.1, hk.1.2.2.2.2.2.2⟩⟩⟩⟩⟩⟩)), fun _ => (by (with_reducible repeat (first | apply Kd.R_alloc | apply Kd.R_drewN | apply Kd.R_drew)); exact Kd.R_mono (Go.Proofs.YtahfemlfdpbkkaaV.R_far8 (g := gb346) (Kd.R_types HO343.out BK346.out (by decide)) (fun _ hk => hk.2)) (fun _ hk => ⟨hk.1.1, ⟨hk.1.2.1, ⟨hk.1.2.2.1, ⟨hk.1.2.2.2.1, ⟨hk.1.2.2.2.2.1, ⟨hk.1.2.2.2.2.2.1, hk.1.2.2.2.2.2.2⟩⟩⟩⟩⟩⟩)), fun _ => xo_ (up_self b 5), fun _ => GW346.out, fun _ => GE346.out, fun _ => NB286_346.out, fun _ => NB346_286.out, fun _ => NB287_346.out, fun _ => NB346_287.out, fun _ => NB317_346.out, fun _ => NB346_317.out, fun _ => NB330_346.out, fun _ => NB346_330.out, fun _ => (by (with_reducible repeat (first | refine blk_drewN ?_ _ | refine blk_drew ?_ | refine blk_alloc ?_ _)); refine Go.Proofs.YtahfemlfdpbkkaaV.blk_all8 (show _ = some (Go.Obj.cells #[.int .i64 0, .int .i64 0, .int .i64 0, .bool false, .slice none 0 0, .slice none 0 0, .int .i64 0, .int .i64 0] _ (0, 0)) from ?_); (with_reducible repeat (first | refine blk_drewN ?_ _ | refine blk_drew ?_ | refine blk_alloc ?_ _)); exact BK346.out), Q_X3_, Q_X4_⟩
      exact steps_nil
     rintro b a w74 hall ⟨v339, v342, gb346, m3_, m4_, ha, Q_HO296, Q_HO299, Q_HO311, Q_HO314, Q_HO324, Q_HO327, Q_BK286, Q_BK287, Q_BK317, Q_BK330, Q_HB, Q_HO296_e3, Q_HO299_e3, Q_HO311_e3, Q_HO314_e3, Q_HO324_e3, Q_HO327_e3, Q_HO340, Q_HO343, Q_BK346, Q_GW346, Q_GE346, Q_NB286_346, Q_NB346_286, Q_NB287_346, Q_NB346_287, Q_NB317_346, Q_NB346_317, Q_NB330_346, Q_NB346_330, Q_BK346_e5, Q_X3_, Q_X4_⟩
     clear BK286 BK287 BK317 BK330 HB HO296 HO299 HO311 HO314 HO324 HO327
     have hb0_ := hall 0 (by kernel_rfl)
     have hb1_ := hall 1 (by kernel_rfl)
     have hb2_ := hall 2 (by kernel_rfl)
     have hb3_ := hall 3 (by kernel_rfl)
     have hb4_ := hall 4 (by kernel_rfl)
     have hb5_ := hall 5 (by kernel_rfl)
     subst ha
     obtain rfl := Q_X3_ hb3_
     obtain rfl := Q_X4_ hb4_
     simp only [putSel, hb0_, hb1_, hb2_, hb3_, hb4_, hb5_, if_true, Act.put, List.setIfInBounds_toArray, List.set_cons_zero, List.set_cons_succ]
     clear Q_HO296
     clear Q_HO299
     clear Q_HO311
     clear Q_HO314
     clear Q_HO324
     clear Q_HO327
     have BK286 := Aside0.mk Q_BK286
     clear Q_BK286
     have BK287 := Aside0.mk Q_BK287
     clear Q_BK287
     have BK317 := Aside0.mk Q_BK317
     clear Q_BK317
     have BK330 := Aside0.mk Q_BK330
     clear Q_BK330
     have HB := Aside0.mk Q_HB
     clear Q_HB
     have HO296 := Aside0.mk (Q_HO296_e3 hb3_)
     clear Q_HO296_e3
     have HO299 := Aside0.mk (Q_HO299_e3 hb3_)
     clear Q_HO299_e3
     have HO311 := Aside0.mk (Q_HO311_e3 hb3_)
     clear Q_HO311_e3
     have HO314 := Aside0.mk (Q_HO314_e3 hb3_)
     clear Q_HO314_e3
     have HO324 := Aside0.mk (Q_HO324_e3 hb3_)
     clear Q_HO324_e3
     have HO327 := Aside0.mk (Q_HO327_e3 hb3_)
     clear Q_HO327_e3
     have HO340 := Aside0.mk (Q_HO340 hb3_)
     clear Q_HO340
     have HO343 := Aside0.mk (Q_HO343 hb3_)
     clear Q_HO343
     clear Q_BK346
     have GW346 := Aside0.mk (Q_GW346 hb4_)
     have IGW346 := gI_ GW346
     clear Q_GW346
     have GE346 := Aside0.mk (Q_GE346 hb4_)
     have IGE346 := gI_ GE346
     clear Q_GE346
     have NB286_346 := Aside0.mk (Q_NB286_346 hb4_)
     clear Q_NB286_346
     have NB346_286 := Aside0.mk (Q_NB346_286 hb4_)
     clear Q_NB346_286
     have NB287_346 := Aside0.mk (Q_NB287_346 hb4_)
     clear Q_NB287_346
     have NB346_287 := Aside0.mk (Q_NB346_287 hb4_)
     clear Q_NB346_287
     have NB317_346 := Aside0.mk (Q_NB317_346 hb4_)
     clear Q_NB317_346
     have NB346_317 := Aside0.mk (Q_NB346_317 hb4_)
     clear Q_NB346_317
     have NB330_346 := Aside0.mk (Q_NB330_346 hb4_)
     clear Q_NB330_346
     have NB346_330 := Aside0.mk (Q_NB346_330 hb4_)
     clear Q_NB346_330
     have BK346 := Aside0.mk (Q_BK346_e5 hb5_)
     clear Q_BK346_e5
     clear hall hb0_ hb1_ hb2_ hb3_ hb4_ hb5_
     have hnb75 := NB346_286.out
     have hnc75 := NB286_346.out
     have hnb76 := NB346_287.out
     have hnc76 := NB287_346.out
     have hnb77 := NB346_317.out
     have hnc77 := NB317_346.out
     have hnb78 := NB346_330.out
     have hnc78 := NB330_346.out
     obtain ⟨hcz79_0, hcz79_1, hcz79_2, hcz79_3, hcz79_4, hcz79_5, hcz79_6, hcz79_7⟩ := cz8 BK346.out
     obtain ⟨hfz79_0, hfz79_1, hfz79_2, hfz79_3, hfz79_4, hfz79_5, hfz79_6, hfz79_7⟩ := fz8 BK346.out
     have hnb80 := NB317_287.out
     have hnc80 := NB287_317.out
     obtain ⟨hcz81_0, hcz81_1, hcz81_2, hcz81_3, hcz81_4, hcz81_5, hcz81_6, hcz81_7⟩ := cz8 BK317.out
     obtain ⟨hfz81_0, hfz81_1, hfz81_2, hfz81_3, hfz81_4, hfz81_5, hfz81_6, hfz81_7⟩ := fz8 BK317.out
     obtain ⟨Ao82, co82, eo82⟩ := Kd.R_slice HO340.out
     subst eo82
     obtain ⟨Ao83, co83, eo83⟩ := Kd.R_slice HO343.out
     subst eo83
     obtain ⟨Ao84, co84, eo84⟩ := Kd.R_slice HO311.out
     subst eo84
     obtain ⟨Ao85, co85, eo85⟩ := Kd.R_slice HO314.out
     subst eo85
     try go_wp2_with (first | ((with_reducible refine gate_callee (f := 21) rfl ?_); refine goesL_ (some 36) rfl rfl Try.func21 (by kernel_rfl) rfl #[.agg #[.int .i64 t334, .int .i64 t335, .int .i64 t336, .bool t337, .slice Ao82 t338.length co82, .slice Ao83 t341.length co83, .int .i64 t344, .int .i64 t345], .agg #[.int .i64 t305, .int .i64 t306, .int .i64 t307, .bool t308, .slice Ao84 t309.length co84, .slice Ao85 t312.length co85, .int .i64 t315, .int .i64 t316]] rfl (by (try simp only [List.map_toArray, List.map_cons, List.map_nil]); first | done | rfl | (simp only [List.length_drop, List.length_take]; rfl)) ?_; (with_reducible refine (laws_eqSock.calls k t334 t335 t336 t337 _ _ t338 _ _ t341 t344 t345 t305 t306 t307 t308 _ _ t309 _ _ t312 t315 t316 true _ ?side1 ?side2 ?side3 ?side4 ?side5 ?side6 ?side7 ?side8 A23.out).mono ?_); (case side1 => exact qC ((Kd.R_reads' HO340.out).2.2)); (case side2 => exact (Kd.R_reads' HO340.out).2.1); (case side3 => exact qC ((Kd.R_reads' HO343.out).2.2)); (case side4 => exact (Kd.R_reads' HO343.out).2.1); (case side5 => exact qC ((Kd.R_reads' HO311.out).2.2)); (case side6 => exact (Kd.R_reads' HO311.out).2.1); (case side7 => exact qC ((Kd.R_reads' HO314.out).2.2)); (case side8 => exact (Kd.R_reads' HO314.out).2.1); rintro e w86 ⟨rfl, hb⟩; refine ⟨_, rfl, ?_⟩; replace HO296 := am_ (Kd.R_below (qR HO296) hb); replace HO299 := am_ (Kd.R_below (qR HO299) hb); replace HO311 := am_ (Kd.R_below (qR HO311) hb); replace HO314 := am_ (Kd.R_below (qR HO314) hb); replace HO324 := am_ (Kd.R_below (qR HO324) hb); replace HO327 := am_ (Kd.R_below (qR HO327) hb); replace HO340 := am_ (Kd.R_below (qR HO340) hb); replace HO343 := am_ (Kd.R_below (qR HO343) hb); replace BK286 := am_ (blk_below (qK BK286) hb); replace BK287 := am_ (blk_below (qK BK287) hb); replace BK317 := am_ (blk_below (qK BK317) hb); replace BK330 := am_ (blk_below (qK BK330) hb); replace BK346 := am_ (blk_below (qK BK346) hb); replace HB := am_ (below_step (qB HB) hb); (try clear hb); (try clear hb2); (try clear hk); (try clear hi)))
     replace HO296 := am_ (Kd.R_drew HO296.out)
     replace HO299 := am_ (Kd.R_drew HO299.out)
     replace HO311 := am_ (Kd.R_drew HO311.out)
     replace HO314 := am_ (Kd.R_drew HO314.out)
     replace HO324 := am_ (Kd.R_drew HO324.out)
     replace HO327 := am_ (Kd.R_drew HO327.out)
     replace HO340 := am_ (Kd.R_drew HO340.out)
     replace HO343 := am_ (Kd.R_drew HO343.out)
     replace BK286 := am_ (blk_drew BK286.out)
     replace BK287 := am_ (blk_drew BK287.out)
     replace BK317 := am_ (blk_drew BK317.out)
     replace BK330 := am_ (blk_drew BK330.out)
     replace BK346 := am_ (blk_drew BK346.out)
     replace HB := am_ (below_drew1 HB.out)
     refine start_ (n := 5) (S := fun w' => w'.cell? ⟨gb330, 0, none⟩ = some (.int .i64 t318) ∧ w'.cell? ⟨gb330, 1, none⟩ = some (.int .i64 t319) ∧ w'.cell? ⟨gb330, 2, none⟩ = some (.int .i64 t320) ∧ w'.cell? ⟨gb330, 3, none⟩ = some (.bool t321) ∧ w'.cell? ⟨gb330, 4, none⟩ = some (.slice Ao57 t322.length co57) ∧ w'.cell? ⟨gb330, 5, none⟩ = some (.slice Ao58 t325.length co58) ∧ w'.cell? ⟨gb330, 6, none⟩ = some (.int .i64 t328) ∧ w'.cell? ⟨gb330, 7, none⟩ = some (.int .i64 t329) ∧ w'.cell? ⟨gb286, 0, none⟩ = some (.int .i64 a0_0) ∧ w'.cell? ⟨gb286, 1, none⟩ = some (.int .i64 a0_1) ∧ w'.cell? ⟨gb286, 2, none⟩ = some (.int .i64 a0_2) ∧ w'.cell? ⟨gb286, 3, none⟩ = some (.bool a0_3) ∧ w'.cell? ⟨gb286, 4, none⟩ = some (.slice A0_4 l0_4.length c0_4) ∧ w'.cell? ⟨gb286, 5, none⟩ = some (.slice A0_5 l0_5.length c0_5) ∧ w'.cell? ⟨gb286, 6, none⟩ = some (.int .i64 a0_6) ∧ w'.cell? ⟨gb286, 7, none⟩ = some (.int .i64 a0_7)) (ds := []) #[false, false, false, false, false] (by kernel_rfl) rfl rfl (cw8 BK330.out (cz8 BK286.out)) (fun hHeld => ?_)
     generalize w86.drew = w87 at HO296 HO299 HO311 HO314 HO324 HO327 HO340 HO343 BK286 BK287 BK317 BK330 BK346 HB hHeld ⊢
     refine take_ (i := 0) (N := some 38) (v := ?_) (a' := ?_) #[true, false, false, false, false] rfl rfl (by kernel_rfl) (fun _ _ _ h => h) (Or.inl ⟨by rfl, ?_⟩) hHeld ?_ ?_
     rotate_left
     ·
      rintro w' ⟨s0, s1, s2, s3, s4, s5, s6, s7, s8, s9, s10, s11, s12, s13, s14, s15⟩
      go_simp
      with_reducible rfl
     rotate_left
     ·
      simp only [Act.put, List.setIfInBounds_toArray, List.set_cons_zero, List.set_cons_succ, i64_w, i32_w]
      rfl
     refine take_ (i := 1) (N := some 39) (v := ?_) (a' := ?_) #[true, true, false, false, false] rfl rfl (by kernel_rfl) (fun _ _ _ h => h) (Or.inl ⟨by rfl, ?_⟩) hHeld ?_ ?_
     rotate_left
     ·
      rintro w' ⟨s0, s1, s2, s3, s4, s5, s6, s7, s8, s9, s10, s11, s12, s13, s14, s15⟩
      go_simp
      with_reducible rfl
     rotate_left
     ·
      simp only [Act.put, List.setIfInBounds_toArray, List.set_cons_zero, List.set_cons_succ, i64_w, i32_w]
      rfl
     refine one_ (i := 2) (N := some 40) #[true, true, true, false, false] rfl rfl (by kernel_rfl) (by decide) (fun K hK => ?_)
     refine goes_ Try.func18 (by kernel_rfl) rfl #[.agg #[.int .i64 a0_0, .int .i64 a0_1, .int .i64 a0_2, .bool a0_3, .slice A0_4 l0_4.length c0_4, .slice A0_5 l0_5.length c0_5, .int .i64 a0_6, .int .i64 a0_7]] (by rfl) rfl rfl (by (try simp only [List.map_toArray, List.map_cons, List.map_nil]); first | done | rfl | (simp only [List.length_drop, List.length_take]; rfl)) ?_
     with_reducible refine (laws_toSock.calls k a0_0 a0_1 a0_2 a0_3 _ _ l0_4 _ _ l0_5 a0_6 a0_7 t348 t349 t350 t351 t352 t355 t358 t359 _ ?side1 ?side2 ?side3 ?side4 A25.out).mono ?_
     (case side1 => exact qC (Kd.C_below HR0_4.out HB.out))
     (case side2 => exact HC0_4.out)
     (case side3 => exact qC (Kd.C_below HR0_5.out HB.out))
     (case side4 => exact HC0_5.out)
     rintro e w88 ⟨v353, v356, rfl, ho0, ho1, hb⟩
     refine ⟨_, rfl, ?_⟩
     have HO354 := am_ (Kd.R_lower (Kd.R_new' (Kd.R_new' (Kd.R_new' (Kd.R_new' (Kd.R_new' (Kd.R_new' (Kd.R_new' (Kd.R_new' ho0 (Kd.R_lt (qR HO296))) (Kd.R_lt (qR HO299))) (Kd.R_lt (qR HO311))) (Kd.R_lt (qR HO314))) (Kd.R_lt (qR HO324))) (Kd.R_lt (qR HO327))) (Kd.R_lt (qR HO340))) (Kd.R_lt (qR HO343))) (below_size (qB HB)))
     have HO357 := am_ (Kd.R_lower (Kd.R_new' (Kd.R_new' (Kd.R_new' (Kd.R_new' (Kd.R_new' (Kd.R_new' (Kd.R_new' (Kd.R_new' ho1 (Kd.R_lt (qR HO296))) (Kd.R_lt (qR HO299))) (Kd.R_lt (qR HO311))) (Kd.R_lt (qR HO314))) (Kd.R_lt (qR HO324))) (Kd.R_lt (qR HO327))) (Kd.R_lt (qR HO340))) (Kd.R_lt (qR HO343))) (below_size (qB HB)))
     replace HO296 := am_ (Kd.R_mono (Kd.R_told (Kd.R_told (Kd.R_old (qR HO296) hb) (Kd.R_base ho0)) (Kd.R_base ho1)) (fun _ h_ => h_.1))
     replace HO299 := am_ (Kd.R_mono (Kd.R_told (Kd.R_told (Kd.R_old (qR HO299) hb) (Kd.R_base ho0)) (Kd.R_base ho1)) (fun _ h_ => h_.1))
     replace HO311 := am_ (Kd.R_mono (Kd.R_told (Kd.R_told (Kd.R_old (qR HO311) hb) (Kd.R_base ho0)) (Kd.R_base ho1)) (fun _ h_ => h_.1))
     replace HO314 := am_ (Kd.R_mono (Kd.R_told (Kd.R_told (Kd.R_old (qR HO314) hb) (Kd.R_base ho0)) (Kd.R_base ho1)) (fun _ h_ => h_.1))
     replace HO324 := am_ (Kd.R_mono (Kd.R_told (Kd.R_told (Kd.R_old (qR HO324) hb) (Kd.R_base ho0)) (Kd.R_base ho1)) (fun _ h_ => h_.1))
     replace HO327 := am_ (Kd.R_mono (Kd.R_told (Kd.R_told (Kd.R_old (qR HO327) hb) (Kd.R_base ho0)) (Kd.R_base ho1)) (fun _ h_ => h_.1))
     replace HO340 := am_ (Kd.R_mono (Kd.R_told (Kd.R_told (Kd.R_old (qR HO340) hb) (Kd.R_base ho0)) (Kd.R_base ho1)) (fun _ h_ => h_.1))
     replace HO343 := am_ (Kd.R_mono (Kd.R_told (Kd.R_told (Kd.R_old (qR HO343) hb) (Kd.R_base ho0)) (Kd.R_base ho1)) (fun _ h_ => h_.1))
     replace BK286 := am_ (blk_below (qK BK286) hb)
     replace BK287 := am_ (blk_below (qK BK287) hb)
     replace BK317 := am_ (blk_below (qK BK317) hb)
     replace BK330 := am_ (blk_below (qK BK330) hb)
     replace BK346 := am_ (blk_below (qK BK346) hb)
     replace HB := am_ (below_step (qB HB) hb)
     (try clear hb ho0 ho1)
     obtain ⟨Ao89, co89, eo89⟩ := Kd.R_slice HO354.out
     (first | subst eo89 | (injection eo89 with f1_ f2_ f3_; have f4_ := f1_.symm; have f5_ := f3_.symm; clear f1_ f2_ f3_; subst f4_; subst f5_))
     obtain ⟨Ao90, co90, eo90⟩ := Kd.R_slice HO357.out
     (first | subst eo90 | (injection eo90 with f1_ f2_ f3_; have f4_ := f1_.symm; have f5_ := f3_.symm; clear f1_ f2_ f3_; subst f4_; subst f5_))
     refine hK.out _ _ (cw8 BK330.out (cz8 BK286.out)) (fun hHeld => ?_)
     clear hK K
     refine norm_ (a' := ?_) ?_ ?_
     rotate_left
     ·
      show Act.put _ (some 40) _ = _
      simp only [Act.put, List.setIfInBounds_toArray, List.set_cons_zero, List.set_cons_succ, i64_w, i32_w]
      rfl
     refine one_ (i := 3) (N := some 41) #[true, true, true, true, false] rfl rfl (by kernel_rfl) (by decide) (fun K hK => ?_)
     refine goes_ Try.func21 (by kernel_rfl) rfl #[.agg #[.int .i64 t318, .int .i64 t319, .int .i64 t320, .bool t321, .slice Ao57 t322.length co57, .slice Ao58 t325.length co58, .int .i64 t328, .int .i64 t329], .agg #[.int .i64 t348, .int .i64 t349, .int .i64 t350, .bool t351, .slice Ao89 t352.length co89, .slice Ao90 t355.length co90, .int .i64 t358, .int .i64 t359]] (by rfl) rfl rfl (by (try simp only [List.map_toArray, List.map_cons, List.map_nil]); first | done | rfl | (simp only [List.length_drop, List.length_take]; rfl)) ?_
     with_reducible refine (laws_eqSock.calls k t318 t319 t320 t321 _ _ t322 _ _ t325 t328 t329 t348 t349 t350 t351 _ _ t352 _ _ t355 t358 t359 true _ ?side1 ?side2 ?side3 ?side4 ?side5 ?side6 ?side7 ?side8 A26.out).mono ?_
     (case side1 => exact qC ((Kd.R_reads' HO324.out).2.2))
     (case side2 => exact (Kd.R_reads' HO324.out).2.1)
     (case side3 => exact qC ((Kd.R_reads' HO327.out).2.2))
     (case side4 => exact (Kd.R_reads' HO327.out).2.1)
     (case side5 => exact qC ((Kd.R_reads' HO354.out).2.2))
     (case side6 => exact (Kd.R_reads' HO354.out).2.1)
     (case side7 => exact qC ((Kd.R_reads' HO357.out).2.2))
     (case side8 => exact (Kd.R_reads' HO357.out).2.1)
     rintro e w91 ⟨rfl, hb⟩
     refine ⟨_, rfl, ?_⟩
     replace HO296 := am_ (Kd.R_below (qR HO296) hb)
     replace HO299 := am_ (Kd.R_below (qR HO299) hb)
     replace HO311 := am_ (Kd.R_below (qR HO311) hb)
     replace HO314 := am_ (Kd.R_below (qR HO314) hb)
     replace HO324 := am_ (Kd.R_below (qR HO324) hb)
     replace HO327 := am_ (Kd.R_below (qR HO327) hb)
     replace HO340 := am_ (Kd.R_below (qR HO340) hb)
     replace HO343 := am_ (Kd.R_below (qR HO343) hb)
     replace HO354 := am_ (Kd.R_below (qR HO354) hb)
     replace HO357 := am_ (Kd.R_below (qR HO357) hb)
     replace BK286 := am_ (blk_below (qK BK286) hb)
     replace BK287 := am_ (blk_below (qK BK287) hb)
     replace BK317 := am_ (blk_below (qK BK317) hb)
     replace BK330 := am_ (blk_below (qK BK330) hb)
     replace BK346 := am_ (blk_below (qK BK346) hb)
     replace HB := am_ (below_step (qB HB) hb)
     (try clear hb)
     refine hK.out _ _ (cw8 BK330.out (cz8 BK286.out)) (fun hHeld => ?_)
     clear hK K
     refine norm_ (a' := ?_) ?_ ?_
     rotate_left
     ·
      show Act.put _ (some 41) _ = _
      simp only [Act.put, List.setIfInBounds_toArray, List.set_cons_zero, List.set_cons_succ, i64_w, i32_w]
      rfl
     refine pure_ (i := 4) (N := some 42) (v := ?_) (a' := ?_) #[true, true, true, true, true] rfl rfl (by kernel_rfl) (fun _ _ _ h => h) (Or.inl ⟨by rfl, ?_⟩) ?_ ?_
     rotate_left
     ·
      intro w'
      go_simp
      with_reducible rfl
     rotate_left
     ·
      simp only [Act.put, List.setIfInBounds_toArray, List.set_cons_zero, List.set_cons_succ, i64_w, i32_w]
      rfl
     refine done_ (by kernel_rfl) ?_
     obtain ⟨hcz92_0, hcz92_1, hcz92_2, hcz92_3, hcz92_4, hcz92_5, hcz92_6, hcz92_7⟩ := cz8 BK330.out
     obtain ⟨hfz92_0, hfz92_1, hfz92_2, hfz92_3, hfz92_4, hfz92_5, hfz92_6, hfz92_7⟩ := fz8 BK330.out
     go_upto_region 17 with (first | ((with_reducible refine gate_callee (f := 22) rfl ?_); refine goesL_ (some 45) rfl rfl Try.func22 (by kernel_rfl) rfl #[.agg #[.int .i64 t318, .int .i64 t319, .int .i64 t320, .bool t321, .slice Ao57 t322.length co57, .slice Ao58 t325.length co58, .int .i64 t328, .int .i64 t329], .int .i64 1] rfl (by (try simp only [List.map_toArray, List.map_cons, List.map_nil]); first | done | rfl | (simp only [List.length_drop, List.length_take]; rfl)) ?_; (with_reducible refine (laws_markSock.calls k t318 t319 t320 t321 (fun k_ => some k_ = (.slice Ao57 t322.length co57 : Value).ownBlock) (.slice Ao57 t322.length co57) t322 (fun k_ => some k_ = (.slice Ao58 t325.length co58 : Value).ownBlock) (.slice Ao58 t325.length co58) t325 t328 t329 1 t361 t362 t363 w _ ?side1 ?side2 ?side3 ?side4 ?side5 A28.out).mono ?_); (case side1 => repeat (first | (with_reducible first | exact HB.out | apply below_alloc | apply pw_below_drewN | apply below_drew1 | refine below_set ?_ GE286.out | refine below_set ?_ GE287.out | refine below_set ?_ GE317.out | refine below_set ?_ GE330.out | refine below_set ?_ GE346.out) | exact HB.out)); (case side2 => exact Kd.R_tight rfl HO324.out); (case side3 => exact fun k_ e_ => (HO324.out.1 k_ e_.symm).1.1.2.2.2.2.1); (case side4 => exact Kd.R_tight rfl HO327.out); (case side5 => exact fun k_ e_ => (HO327.out.1 k_ e_.symm).1.1.2.2.2.2.1); rintro e w93 ⟨rfl, hy0, hy1, hb, hkp⟩; refine ⟨_, rfl, ?_⟩; replace BK286 := am_ (blk_kept (qK BK286) hkp (fun hs_ => Or.elim hs_ (fun e_ => (fun e_ => (Kd.R_ne HO324.out BK286.out (by decide)) e_) e_) (fun e_ => (fun e_ => (Kd.R_ne HO327.out BK286.out (by decide)) e_) e_))); replace BK287 := am_ (blk_kept (qK BK287) hkp (fun hs_ => Or.elim hs_ (fun e_ => (fun e_ => (Kd.R_ne HO324.out BK287.out (by decide)) e_) e_) (fun e_ => (fun e_ => (Kd.R_ne HO327.out BK287.out (by decide)) e_) e_))); replace HO296 := am_ (Kd.R_mono (ok' := fun k_ => some k_ ≠ (v298 : Value).ownBlock ∧ some k_ ≠ (.slice Ao84 t309.length co84 : Value).ownBlock ∧ some k_ ≠ (.slice Ao85 t312.length co85 : Value).ownBlock ∧ some k_ ≠ (.slice Ao57 t322.length co57 : Value).ownBlock ∧ some k_ ≠ (.slice Ao58 t325.length co58 : Value).ownBlock ∧ some k_ ≠ (.slice Ao82 t338.length co82 : Value).ownBlock ∧ some k_ ≠ (.slice Ao83 t341.length co83 : Value).ownBlock ∧ some k_ ≠ (.slice Ao89 t352.length co89 : Value).ownBlock ∧ some k_ ≠ (.slice Ao90 t355.length co90 : Value).ownBlock) (Kd.R_keptB (HO296.out) hkp (fun k_ hk_ hs_ => Or.elim hs_ (fun e_ => (hk_.1.1.2.2.2.1) e_) (fun e_ => (hk_.1.1.2.2.2.2.1) e_))) (fun k_ hk_ => ⟨hk_.1.1.1.1, hk_.1.1.1.2.1, hk_.1.1.1.2.2.1, hk_.1.1.1.2.2.2.1, hk_.1.1.1.2.2.2.2.1, hk_.1.1.1.2.2.2.2.2.1, hk_.1.1.1.2.2.2.2.2.2, hk_.1.1.2, hk_.1.2⟩)); replace HO299 := am_ (Kd.R_mono (ok' := fun k_ => some k_ ≠ (v295 : Value).ownBlock ∧ some k_ ≠ (.slice Ao84 t309.length co84 : Value).ownBlock ∧ some k_ ≠ (.slice Ao85 t312.length co85 : Value).ownBlock ∧ some k_ ≠ (.slice Ao57 t322.length co57 : Value).ownBlock ∧ some k_ ≠ (.slice Ao58 t325.length co58 : Value).ownBlock ∧ some k_ ≠ (.slice Ao82 t338.length co82 : Value).ownBlock ∧ some k_ ≠ (.slice Ao83 t341.length co83 : Value).ownBlock ∧ some k_ ≠ (.slice Ao89 t352.length co89 : Value).ownBlock ∧ some k_ ≠ (.slice Ao90 t355.length co90 : Value).ownBlock) (Kd.R_keptB (HO299.out) hkp (fun k_ hk_ hs_ => Or.elim hs_ (fun e_ => (hk_.1.1.2.2.2.1) e_) (fun e_ => (hk_.1.1.2.2.2.2.1) e_))) (fun k_ hk_ => ⟨hk_.1.1.1.1, hk_.1.1.1.2.1, hk_.1.1.1.2.2.1, hk_.1.1.1.2.2.2.1, hk_.1.1.1.2.2.2.2.1, hk_.1.1.1.2.2.2.2.2.1, hk_.1.1.1.2.2.2.2.2.2, hk_.1.1.2, hk_.1.2⟩)); replace HO311 := am_ (Kd.R_mono (ok' := fun k_ => some k_ ≠ (v295 : Value).ownBlock ∧ some k_ ≠ (v298 : Value).ownBlock ∧ some k_ ≠ (.slice Ao85 t312.length co85 : Value).ownBlock ∧ some k_ ≠ (.slice Ao57 t322.length co57 : Value).ownBlock ∧ some k_ ≠ (.slice Ao58 t325.length co58 : Value).ownBlock ∧ some k_ ≠ (.slice Ao82 t338.length co82 : Value).ownBlock ∧ some k_ ≠ (.slice Ao83 t341.length co83 : Value).ownBlock ∧ some k_ ≠ (.slice Ao89 t352.length co89 : Value).ownBlock ∧ some k_ ≠ (.slice Ao90 t355.length co90 : Value).ownBlock) (Kd.R_keptB (HO311.out) hkp (fun k_ hk_ hs_ => Or.elim hs_ (fun e_ => (hk_.1.1.2.2.2.1) e_) (fun e_ => (hk_.1.1.2.2.2.2.1) e_))) (fun k_ hk_ => ⟨hk_.1.1.1.1, hk_.1.1.1.2.1, hk_.1.1.1.2.2.1, hk_.1.1.1.2.2.2.1, hk_.1.1.1.2.2.2.2.1, hk_.1.1.1.2.2.2.2.2.1, hk_.1.1.1.2.2.2.2.2.2, hk_.1.1.2, hk_.1.2⟩)); replace HO314 := am_ (Kd.R_mono (ok' := fun k_ => some k_ ≠ (v295 : Value).ownBlock ∧ some k_ ≠ (v298 : Value).ownBlock ∧ some k_ ≠ (.slice Ao84 t309.length co84 : Value).ownBlock ∧ some k_ ≠ (.slice Ao57 t322.length co57 : Value).ownBlock ∧ some k_ ≠ (.slice Ao58 t325.length co58 : Value).ownBlock ∧ some k_ ≠ (.slice Ao82 t338.length co82 : Value).ownBlock ∧ some k_ ≠ (.slice Ao83 t341.length co83 : Value).ownBlock ∧ some k_ ≠ (.slice Ao89 t352.length co89 : Value).ownBlock ∧ some k_ ≠ (.slice Ao90 t355.length co90 : Value).ownBlock) (Kd.R_keptB (HO314.out) hkp (fun k_ hk_ hs_ => Or.elim hs_ (fun e_ => (hk_.1.1.2.2.2.1) e_) (fun e_ => (hk_.1.1.2.2.2.2.1) e_))) (fun k_ hk_ => ⟨hk_.1.1.1.1, hk_.1.1.1.2.1, hk_.1.1.1.2.2.1, hk_.1.1.1.2.2.2.1, hk_.1.1.1.2.2.2.2.1, hk_.1.1.1.2.2.2.2.2.1, hk_.1.1.1.2.2.2.2.2.2, hk_.1.1.2, hk_.1.2⟩)); replace BK317 := am_ (blk_kept (qK BK317) hkp (fun hs_ => Or.elim hs_ (fun e_ => (fun e_ => (Kd.R_ne HO324.out BK317.out (by decide)) e_) e_) (fun e_ => (fun e_ => (Kd.R_ne HO327.out BK317.out (by decide)) e_) e_))); replace BK330 := am_ (blk_kept (qK BK330) hkp (fun hs_ => Or.elim hs_ (fun e_ => (fun e_ => (Kd.R_ne HO324.out BK330.out (by decide)) e_) e_) (fun e_ => (fun e_ => (Kd.R_ne HO327.out BK330.out (by decide)) e_) e_))); replace HO340 := am_ (Kd.R_mono (ok' := fun k_ => some k_ ≠ (v295 : Value).ownBlock ∧ some k_ ≠ (v298 : Value).ownBlock ∧ some k_ ≠ (.slice Ao84 t309.length co84 : Value).ownBlock ∧ some k_ ≠ (.slice Ao85 t312.length co85 : Value).ownBlock ∧ some k_ ≠ (.slice Ao57 t322.length co57 : Value).ownBlock ∧ some k_ ≠ (.slice Ao58 t325.length co58 : Value).ownBlock ∧ some k_ ≠ (.slice Ao83 t341.length co83 : Value).ownBlock ∧ some k_ ≠ (.slice Ao89 t352.length co89 : Value).ownBlock ∧ some k_ ≠ (.slice Ao90 t355.length co90 : Value).ownBlock) (Kd.R_keptB (HO340.out) hkp (fun k_ hk_ hs_ => Or.elim hs_ (fun e_ => (hk_.1.1.2.2.2.2.1) e_) (fun e_ => (hk_.1.1.2.2.2.2.2.1) e_))) (fun k_ hk_ => ⟨hk_.1.1.1.1, hk_.1.1.1.2.1, hk_.1.1.1.2.2.1, hk_.1.1.1.2.2.2.1, hk_.1.1.1.2.2.2.2.1, hk_.1.1.1.2.2.2.2.2.1, hk_.1.1.1.2.2.2.2.2.2, hk_.1.1.2, hk_.1.2⟩)); replace HO343 := am_ (Kd.R_mono (ok' := fun k_ => some k_ ≠ (v295 : Value).ownBlock ∧ some k_ ≠ (v298 : Value).ownBlock ∧ some k_ ≠ (.slice Ao84 t309.length co84 : Value).ownBlock ∧ some k_ ≠ (.slice Ao85 t312.length co85 : Value).ownBlock ∧ some k_ ≠ (.slice Ao57 t322.length co57 : Value).ownBlock ∧ some k_ ≠ (.slice Ao58 t325.length co58 : Value).ownBlock ∧ some k_ ≠ (.slice Ao82 t338.length co82 : Value).ownBlock ∧ some k_ ≠ (.slice Ao89 t352.length co89 : Value).ownBlock ∧ some k_ ≠ (.slice Ao90 t355.length co90 : Value).ownBlock) (Kd.R_keptB (HO343.out) hkp (fun k_ hk_ hs_ => Or.elim hs_ (fun e_ => (hk_.1.1.2.2.2.2.1) e_) (fun e_ => (hk_.1.1.2.2.2.2.2.1) e_))) (fun k_ hk_ => ⟨hk_.1.1.1.1, hk_.1.1.1.2.1, hk_.1.1.1.2.2.1, hk_.1.1.1.2.2.2.1, hk_.1.1.1.2.2.2.2.1, hk_.1.1.1.2.2.2.2.2.1, hk_.1.1.1.2.2.2.2.2.2, hk_.1.1.2, hk_.1.2⟩)); replace BK346 := am_ (blk_kept (qK BK346) hkp (fun hs_ => Or.elim hs_ (fun e_ => (fun e_ => (Kd.R_ne HO324.out BK346.out (by decide)) e_) e_) (fun e_ => (fun e_ => (Kd.R_ne HO327.out BK346.out (by decide)) e_) e_))); replace HO324 := am_ (Kd.R_reok rfl hy0 (fun k_ e_ => HO324.out.1 k_ e_)); replace HO327 := am_ (Kd.R_reok rfl hy1 (fun k_ e_ => HO327.out.1 k_ e_)); replace HO354 := am_ (Kd.R_mono (ok' := fun k_ => some k_ ≠ (v295 : Value).ownBlock ∧ some k_ ≠ (v298 : Value).ownBlock ∧ some k_ ≠ (.slice Ao84 t309.length co84 : Value).ownBlock ∧ some k_ ≠ (.slice Ao85 t312.length co85 : Value).ownBlock ∧ some k_ ≠ (.slice Ao57 t322.length co57 : Value).ownBlock ∧ some k_ ≠ (.slice Ao58 t325.length co58 : Value).ownBlock ∧ some k_ ≠ (.slice Ao82 t338.length co82 : Value).ownBlock ∧ some k_ ≠ (.slice Ao83 t341.length co83 : Value).ownBlock ∧ some k_ ≠ (.slice Ao90 t355.length co90 : Value).ownBlock) (Kd.R_keptB (HO354.out) hkp (fun k_ hk_ hs_ => Or.elim hs_ (fun e_ => (hk_.1.1.1.2) e_) (fun e_ => (hk_.1.1.2) e_))) (fun k_ hk_ => ⟨hk_.1.1.1.1.1.1.1.1.2, hk_.1.1.1.1.1.1.1.2, hk_.1.1.1.1.1.1.2, hk_.1.1.1.1.1.2, hk_.1.1.1.1.2, hk_.1.1.1.2, hk_.1.1.2, hk_.1.2, hk_.1.1.1.1.1.1.1.1.1⟩)); replace HO357 := am_ (Kd.R_mono (ok' := fun k_ => some k_ ≠ (v295 : Value).ownBlock ∧ some k_ ≠ (v298 : Value).ownBlock ∧ some k_ ≠ (.slice Ao84 t309.length co84 : Value).ownBlock ∧ some k_ ≠ (.slice Ao85 t312.length co85 : Value).ownBlock ∧ some k_ ≠ (.slice Ao57 t322.length co57 : Value).ownBlock ∧ some k_ ≠ (.slice Ao58 t325.length co58 : Value).ownBlock ∧ some k_ ≠ (.slice Ao82 t338.length co82 : Value).ownBlock ∧ some k_ ≠ (.slice Ao83 t341.length co83 : Value).ownBlock ∧ some k_ ≠ (.slice Ao89 t352.length co89 : Value).ownBlock) (Kd.R_keptB (HO357.out) hkp (fun k_ hk_ hs_ => Or.elim hs_ (fun e_ => (hk_.1.1.1.2) e_) (fun e_ => (hk_.1.1.2) e_))) (fun k_ hk_ => ⟨hk_.1.1.1.1.1.1.1.1.2, hk_.1.1.1.1.1.1.1.2, hk_.1.1.1.1.1.1.2, hk_.1.1.1.1.1.2, hk_.1.1.1.1.2, hk_.1.1.1.2, hk_.1.1.2, hk_.1.2, hk_.1.1.1.1.1.1.1.1.1⟩)); replace HB := am_ (hb); (try clear hb); (try clear hkp); (try clear hy0); (try clear hy1)))
     (try simp only [Act.put, List.setIfInBounds_toArray, List.set_cons_zero, List.set_cons_succ])
     go_cut [53] (fun v53 wc => ∃ (kq : Nat) (x53_28 : Bool), v53 = .bool x53_28 ∧ Aside0 (laws_FnExactTell.j0 kq x53_28 a0_0 a0_1 a0_2 a0_3 l0_4 l0_5 a0_6 a0_7 a1_0 a1_1 a1_2 t305 t306 t307 t308 t309 t312 t315 t316 t334 t335 t336 t337 t338 t341 t344 t345 = some r) ∧ Aside0 (kq ≤ k) ∧ Aside0 (Kd.R (Kd.int .u8) 5 wc w.heap.size (fun k_ => some k_ ≠ ((.slice Ao85 t312.length co85) : Value).ownBlock ∧ some k_ ≠ ((.slice Ao57 t322.length co57) : Value).ownBlock ∧ some k_ ≠ ((.slice Ao58 t325.length co58) : Value).ownBlock ∧ some k_ ≠ ((.slice Ao82 t338.length co82) : Value).ownBlock ∧ some k_ ≠ ((.slice Ao83 t341.length co83) : Value).ownBlock) (.slice Ao84 t309.length co84) t309) ∧ Aside0 (Kd.R (Kd.int .u8) 5 wc w.heap.size (fun k_ => some k_ ≠ ((.slice Ao84 t309.length co84) : Value).ownBlock ∧ some k_ ≠ ((.slice Ao57 t322.length co57) : Value).ownBlock ∧ some k_ ≠ ((.slice Ao58 t325.length co58) : Value).ownBlock ∧ some k_ ≠ ((.slice Ao82 t338.length co82) : Value).ownBlock ∧ some k_ ≠ ((.slice Ao83 t341.length co83) : Value).ownBlock) (.slice Ao85 t312.length co85) t312) ∧ Aside0 (Kd.R (Kd.int .u8) 5 wc w.heap.size (fun k_ => some k_ ≠ ((.slice Ao84 t309.length co84) : Value).ownBlock ∧ some k_ ≠ ((.slice Ao85 t312.length co85) : Value).ownBlock ∧ some k_ ≠ ((.slice Ao58 t325.length co58) : Value).ownBlock ∧ some k_ ≠ ((.slice Ao82 t338.length co82) : Value).ownBlock ∧ some k_ ≠ ((.slice Ao83 t341.length co83) : Value).ownBlock) (.slice Ao57 t322.length co57) t362) ∧ Aside0 (Kd.R (Kd.int .u8) 5 wc w.heap.size (fun k_ => some k_ ≠ ((.slice Ao84 t309.length co84) : Value).ownBlock ∧ some k_ ≠ ((.slice Ao85 t312.length co85) : Value).ownBlock ∧ some k_ ≠ ((.slice Ao57 t322.length co57) : Value).ownBlock ∧ some k_ ≠ ((.slice Ao82 t338.length co82) : Value).ownBlock ∧ some k_ ≠ ((.slice Ao83 t341.length co83) : Value).ownBlock) (.slice Ao58 t325.length co58) t363) ∧ Aside0 (Kd.R (Kd.int .u8) 5 wc w.heap.size (fun k_ => some k_ ≠ ((.slice Ao84 t309.length co84) : Value).ownBlock ∧ some k_ ≠ ((.slice Ao85 t312.length co85) : Value).ownBlock ∧ some k_ ≠ ((.slice Ao57 t322.length co57) : Value).ownBlock ∧ some k_ ≠ ((.slice Ao58 t325.length co58) : Value).ownBlock ∧ some k_ ≠ ((.slice Ao83 t341.length co83) : Value).ownBlock) (.slice Ao82 t338.length co82) t338) ∧ Aside0 (Kd.R (Kd.int .u8) 5 wc w.heap.size (fun k_ => some k_ ≠ ((.slice Ao84 t309.length co84) : Value).ownBlock ∧ some k_ ≠ ((.slice Ao85 t312.length co85) : Value).ownBlock ∧ some k_ ≠ ((.slice Ao57 t322.length co57) : Value).ownBlock ∧ some k_ ≠ ((.slice Ao58 t325.length co58) : Value).ownBlock ∧ some k_ ≠ ((.slice Ao82 t338.length co82) : Value).ownBlock) (.slice Ao83 t341.length co83) t341) ∧ Aside0 (wc.heap[gb286]? = some (.cells #[.int .i64 a0_0, .int .i64 a0_1, .int .i64 a0_2, .bool a0_3, (.slice A0_4 l0_4.length c0_4), (.slice A0_5 l0_5.length c0_5), .int .i64 a0_6, .int .i64 a0_7] 24 (0, 0))) ∧ Aside0 (wc.heap[gb287]? = some (.cells #[.int .i64 a1_0, .string a1_1, .int .i64 a1_2] 26 (0, 0))) ∧ Aside0 (wc.heap[gb317]? = some (.cells #[.int .i64 t305, .int .i64 t306, .int .i64 t307, .bool t308, (.slice Ao84 t309.length co84), (.slice Ao85 t312.length co85), .int .i64 t315, .int .i64 t316] 29 (0, 0))) ∧ Aside0 (wc.heap[gb330]? = some (.cells #[.int .i64 t318, .int .i64 t319, .int .i64 t320, .bool t321, (.slice Ao57 t322.length co57), (.slice Ao58 t325.length co58), .int .i64 t328, .int .i64 t329] 29 (0, 0))) ∧ Aside0 (wc.heap[gb346]? = some (.cells #[.int .i64 t334, .int .i64 t335, .int .i64 t336, .bool t337, (.slice Ao82 t338.length co82), (.slice Ao83 t341.length co83), .int .i64 t344, .int .i64 t345] 29 (0, 0))) ∧ Aside0 (Below w.heap.size w wc))
     case first =>
      have H := HC29.out
      clear HC29
      by_cases c94 : t361 < 0
      ·
       rw [if_pos c94] at H
       have c94b0 : decide (t361 < 0) = true := decide_eq_true c94
       clear c94
       (first | rw [c94b0] | (simp only [i64_w, i32_w]; rw [c94b0]) | skip)
       have H' := Aside0.mk H
       clear H
       go_wp2
       go_meet
       case rel => exact ⟨_, (true), (by first | rfl | (simp; done) | (simp [*]; done) | (simp [Go.Proofs.YtahfemlfdpbkkaaV.bne_nil, Go.Proofs.YtahfemlfdpbkkaaV.beq_nil]; done)), H', ⟨by first | omega | exact Nat.le_refl _⟩, ⟨by (with_reducible repeat (first | apply Kd.R_alloc | apply Kd.R_drewN | apply Kd.R_drew)); exact Kd.R_mono HO311.out (fun _ hk => ⟨hk.2.2.1, ⟨hk.2.2.2.1, ⟨hk.2.2.2.2.1, ⟨hk.2.2.2.2.2.1, hk.2.2.2.2.2.2.1⟩⟩⟩⟩)⟩, ⟨by (with_reducible repeat (first | apply Kd.R_alloc | apply Kd.R_drewN | apply Kd.R_drew)); exact Kd.R_mono HO314.out (fun _ hk => ⟨hk.2.2.1, ⟨hk.2.2.2.1, ⟨hk.2.2.2.2.1, ⟨hk.2.2.2.2.2.1, hk.2.2.2.2.2.2.1⟩⟩⟩⟩)⟩, ⟨by (with_reducible repeat (first | apply Kd.R_alloc | apply Kd.R_drewN | apply Kd.R_drew)); exact Kd.R_mono HO324.out (fun _ hk => ⟨hk.1.1.2.2.1, ⟨hk.1.1.2.2.2.1, ⟨hk.1.1.2.2.2.2.1, ⟨hk.1.1.2.2.2.2.2.1, hk.1.1.2.2.2.2.2.2⟩⟩⟩⟩)⟩, ⟨by (with_reducible repeat (first | apply Kd.R_alloc | apply Kd.R_drewN | apply Kd.R_drew)); exact Kd.R_mono HO327.out (fun _ hk => ⟨hk.1.1.2.2.1, ⟨hk.1.1.2.2.2.1, ⟨hk.1.1.2.2.2.2.1, ⟨hk.1.1.2.2.2.2.2.1, hk.1.1.2.2.2.2.2.2⟩⟩⟩⟩)⟩, ⟨by (with_reducible repeat (first | apply Kd.R_alloc | apply Kd.R_drewN | apply Kd.R_drew)); exact Kd.R_mono HO340.out (fun _ hk => ⟨hk.2.2.1, ⟨hk.2.2.2.1, ⟨hk.2.2.2.2.1, ⟨hk.2.2.2.2.2.1, hk.2.2.2.2.2.2.1⟩⟩⟩⟩)⟩, ⟨by (with_reducible repeat (first | apply Kd.R_alloc | apply Kd.R_drewN | apply Kd.R_drew)); exact Kd.R_mono HO343.out (fun _ hk => ⟨hk.2.2.1, ⟨hk.2.2.2.1, ⟨hk.2.2.2.2.1, ⟨hk.2.2.2.2.2.1, hk.2.2.2.2.2.2.1⟩⟩⟩⟩)⟩, ⟨qK BK286⟩, ⟨qK BK287⟩, ⟨qK BK317⟩, ⟨qK BK330⟩, ⟨qK BK346⟩, ⟨qB HB⟩⟩
      ·
       rw [if_neg c94] at H
       have c94b0 : decide (t361 < 0) = false := decide_eq_false c94
       clear c94
       (first | rw [c94b0] | (simp only [i64_w, i32_w]; rw [c94b0]) | skip)
       replace H := Option.bind_eq_some_iff.mp H
       obtain ⟨t364, A950, H⟩ := H
       replace H : (laws_FnExactTell.j0 k (!t364) a0_0 a0_1 a0_2 a0_3 l0_4 l0_5 a0_6 a0_7 a1_0 a1_1 a1_2 t305 t306 t307 t308 t309 t312 t315 t316 t334 t335 t336 t337 t338 t341 t344 t345) = some r := H
       have A95 := Aside0.mk A950
       clear A950
       have H' := Aside0.mk H
       clear H
       have hnb96 := NB346_286.out
       have hnc96 := NB286_346.out
       have hnb97 := NB346_287.out
       have hnc97 := NB287_346.out
       have hnb98 := NB346_317.out
       have hnc98 := NB317_346.out
       have hnb99 := NB346_330.out
       have hnc99 := NB330_346.out
       obtain ⟨hcz100_0, hcz100_1, hcz100_2, hcz100_3, hcz100_4, hcz100_5, hcz100_6, hcz100_7⟩ := cz8 BK346.out
       obtain ⟨hfz100_0, hfz100_1, hfz100_2, hfz100_3, hfz100_4, hfz100_5, hfz100_6, hfz100_7⟩ := fz8 BK346.out
       have hnb101 := NB317_286.out
       have hnc101 := NB286_317.out
       have hnb102 := NB317_287.out
       have hnc102 := NB287_317.out
       have hnb103 := NB317_330.out
       have hnc103 := NB330_317.out
       obtain ⟨hcz104_0, hcz104_1, hcz104_2, hcz104_3, hcz104_4, hcz104_5, hcz104_6, hcz104_7⟩ := cz8 BK317.out
       obtain ⟨hfz104_0, hfz104_1, hfz104_2, hfz104_3, hfz104_4, hfz104_5, hfz104_6, hfz104_7⟩ := fz8 BK317.out
       go_wp2_with (first | (go_at_call 21; (with_reducible refine (laws_eqSock.calls k t334 t335 t336 t337 _ _ t338 _ _ t341 t344 t345 t305 t306 t307 t308 _ _ t309 _ _ t312 t315 t316 t364 _ ?side1 ?side2 ?side3 ?side4 ?side5 ?side6 ?side7 ?side8 A95.out).mono ?_); (case side1 => exact qC ((Kd.R_reads' HO340.out).2.2)); (case side2 => exact (Kd.R_reads' HO340.out).2.1); (case side3 => exact qC ((Kd.R_reads' HO343.out).2.2)); (case side4 => exact (Kd.R_reads' HO343.out).2.1); (case side5 => exact qC ((Kd.R_reads' HO311.out).2.2)); (case side6 => exact (Kd.R_reads' HO311.out).2.1); (case side7 => exact qC ((Kd.R_reads' HO314.out).2.2)); (case side8 => exact (Kd.R_reads' HO314.out).2.1); rintro e w105 ⟨rfl, hb⟩; replace HO296 := am_ (Kd.R_below (qR HO296) hb); replace HO299 := am_ (Kd.R_below (qR HO299) hb); replace HO311 := am_ (Kd.R_below (qR HO311) hb); replace HO314 := am_ (Kd.R_below (qR HO314) hb); replace HO324 := am_ (Kd.R_below (qR HO324) hb); replace HO327 := am_ (Kd.R_below (qR HO327) hb); replace HO340 := am_ (Kd.R_below (qR HO340) hb); replace HO343 := am_ (Kd.R_below (qR HO343) hb); replace HO354 := am_ (Kd.R_below (qR HO354) hb); replace HO357 := am_ (Kd.R_below (qR HO357) hb); replace BK286 := am_ (blk_below (qK BK286) hb); replace BK287 := am_ (blk_below (qK BK287) hb); replace BK317 := am_ (blk_below (qK BK317) hb); replace BK330 := am_ (blk_below (qK BK330) hb); replace BK346 := am_ (blk_below (qK BK346) hb); replace HB := am_ (below_step (qB HB) hb); (try clear hb); (try clear hb2); (try clear hk); (try clear hi)))
       go_meet
       case rel => exact ⟨_, (!t364), (by first | rfl | (simp; done) | (simp [*]; done) | (simp [Go.Proofs.YtahfemlfdpbkkaaV.bne_nil, Go.Proofs.YtahfemlfdpbkkaaV.beq_nil]; done)), H', ⟨by first | omega | exact Nat.le_refl _⟩, ⟨by (with_reducible repeat (first | apply Kd.R_alloc | apply Kd.R_drewN | apply Kd.R_drew)); exact Kd.R_mono HO311.out (fun _ hk => ⟨hk.2.2.1, ⟨hk.2.2.2.1, ⟨hk.2.2.2.2.1, ⟨hk.2.2.2.2.2.1, hk.2.2.2.2.2.2.1⟩⟩⟩⟩)⟩, ⟨by (with_reducible repeat (first | apply Kd.R_alloc | apply Kd.R_drewN | apply Kd.R_drew)); exact Kd.R_mono HO314.out (fun _ hk => ⟨hk.2.2.1, ⟨hk.2.2.2.1, ⟨hk.2.2.2.2.1, ⟨hk.2.2.2.2.2.1, hk.2.2.2.2.2.2.1⟩⟩⟩⟩)⟩, ⟨by (with_reducible repeat (first | apply Kd.R_alloc | apply Kd.R_drewN | apply Kd.R_drew)); exact Kd.R_mono HO324.out (fun _ hk => ⟨hk.1.1.2.2.1, ⟨hk.1.1.2.2.2.1, ⟨hk.1.1.2.2.2.2.1, ⟨hk.1.1.2.2.2.2.2.1, hk.1.1.2.2.2.2.2.2⟩⟩⟩⟩)⟩, ⟨by (with_reducible repeat (first | apply Kd.R_alloc | apply Kd.R_drewN | apply Kd.R_drew)); exact Kd.R_mono HO327.out (fun _ hk => ⟨hk.1.1.2.2.1, ⟨hk.1.1.2.2.2.1, ⟨hk.1.1.2.2.2.2.1, ⟨hk.1.1.2.2.2.2.2.1, hk.1.1.2.2.2.2.2.2⟩⟩⟩⟩)⟩, ⟨by (with_reducible repeat (first | apply Kd.R_alloc | apply Kd.R_drewN | apply Kd.R_drew)); exact Kd.R_mono HO340.out (fun _ hk => ⟨hk.2.2.1, ⟨hk.2.2.2.1, ⟨hk.2.2.2.2.1, ⟨hk.2.2.2.2.2.1, hk.2.2.2.2.2.2.1⟩⟩⟩⟩)⟩, ⟨by (with_reducible repeat (first | apply Kd.R_alloc | apply Kd.R_drewN | apply Kd.R_drew)); exact Kd.R_mono HO343.out (fun _ hk => ⟨hk.2.2.1, ⟨hk.2.2.2.1, ⟨hk.2.2.2.2.1, ⟨hk.2.2.2.2.2.1, hk.2.2.2.2.2.2.1⟩⟩⟩⟩)⟩, ⟨qK BK286⟩, ⟨qK BK287⟩, ⟨qK BK317⟩, ⟨qK BK330⟩, ⟨qK BK346⟩, ⟨qB HB⟩⟩
     case rest =>
      clear HC29
      try clear c1
      try clear c2
      try clear p2
      try clear c7
      try clear c8
      try clear c9
      try clear c10
      try clear c18
      try clear c21
      try clear c22
      try clear c75
      try clear c76
      try clear c77
      try clear c78
      try clear c80
      try clear c94
      try clear c94b0
      try clear c96
      try clear c97
      try clear c98
      try clear c99
      try clear c101
      try clear c102
      try clear c103
      (try clear hcz100_0 hcz100_1 hcz100_2 hcz100_3 hcz100_4 hcz100_5 hcz100_6 hcz100_7)
      (try clear hcz104_0 hcz104_1 hcz104_2 hcz104_3 hcz104_4 hcz104_5 hcz104_6 hcz104_7)
      (try clear hcz79_0 hcz79_1 hcz79_2 hcz79_3 hcz79_4 hcz79_5 hcz79_6 hcz79_7)
      (try clear hcz81_0 hcz81_1 hcz81_2 hcz81_3 hcz81_4 hcz81_5 hcz81_6 hcz81_7)
      (try clear hcz92_0 hcz92_1 hcz92_2 hcz92_3 hcz92_4 hcz92_5 hcz92_6 hcz92_7)
      (try clear hfz100_0 hfz100_1 hfz100_2 hfz100_3 hfz100_4 hfz100_5 hfz100_6 hfz100_7)
      (try clear hfz104_0 hfz104_1 hfz104_2 hfz104_3 hfz104_4 hfz104_5 hfz104_6 hfz104_7)
      (try clear hfz79_0 hfz79_1 hfz79_2 hfz79_3 hfz79_4 hfz79_5 hfz79_6 hfz79_7)
      (try clear hfz81_0 hfz81_1 hfz81_2 hfz81_3 hfz81_4 hfz81_5 hfz81_6 hfz81_7)
      (try clear hfz92_0 hfz92_1 hfz92_2 hfz92_3 hfz92_4 hfz92_5 hfz92_6 hfz92_7)
      obtain ⟨kq, x53_28, rfl, HA, HJ28, HO_318004, HO_318005, HO_331004, HO_331005, HO_347004, HO_347005, BK286, BK287, BK317, BK330, BK346, HB⟩ := hcut
      have hl331004_28 := (Kd.R_reads' HO_331004.out).1
      rw [hl331004_28] at HO_331004
      (try simp only [hl331004_28])
      (try simp only [hl331004_28] at BK286)
      (try simp only [hl331004_28] at BK287)
      (try simp only [hl331004_28] at BK317)
      (try simp only [hl331004_28] at BK330)
      (try simp only [hl331004_28] at BK346)
      (try simp only [hl331004_28] at HO_318004)
      (try simp only [hl331004_28] at HO_318005)
      (try simp only [hl331004_28] at HO_331005)
      (try simp only [hl331004_28] at HO_347004)
      (try simp only [hl331004_28] at HO_347005)
      have hl331005_28 := (Kd.R_reads' HO_331005.out).1
      rw [hl331005_28] at HO_331005
      (try simp only [hl331005_28])
      (try simp only [hl331005_28] at BK286)
      (try simp only [hl331005_28] at BK287)
      (try simp only [hl331005_28] at BK317)
      (try simp only [hl331005_28] at BK330)
      (try simp only [hl331005_28] at BK346)
      (try simp only [hl331005_28] at HO_318004)
      (try simp only [hl331005_28] at HO_318005)
      (try simp only [hl331005_28] at HO_331004)
      (try simp only [hl331005_28] at HO_347004)
      (try simp only [hl331005_28] at HO_347005)
      cases kq with
      | zero => exact absurd HA.out (by simp [laws_FnExactTell.j0])
      | succ kj28 =>
       have H := HA.out
       clear HA
       simp only [laws_FnExactTell.j0] at H
       by_cases c106 : x53_28 = true
       ·
        subst c106
        have H1 : (some false) = some r := by rw [if_pos rfl] at H; exact H
        clear H
        have H := H1
        clear H1
        exact absurd (hr_.out ▸ H) (by simp)
       ·
        replace c106 := Bool.eq_false_iff.mpr c106
        subst c106
        have H1 : ((laws_markSock.f kj28 t334 t335 t336 t337 t338 t341 t344 t345 1).bind fun bt365 => ((laws_heldSock.f kj28 t334 t335 t336 t337 bt365.2.1 bt365.2.2 t344 t345 1).bind fun t368 => (if t368 < 0 then (some false) else (if t368 = bt365.1 then ((laws_toSock.f kj28 a0_0 a0_1 a0_2 a0_3 l0_4 l0_5 a0_6 a0_7).bind fun bt369 => ((laws_toFrame.f a1_0 a1_1 a1_2).bind fun bt381 => ((impl_Tell.f kj28 bt369.1 bt369.2.1 bt369.2.2.1 bt369.2.2.2.1 bt369.2.2.2.2.1 bt369.2.2.2.2.2.1 bt369.2.2.2.2.2.2.1 bt369.2.2.2.2.2.2.2 bt381.1 bt381.2.1 bt381.2.2).bind fun bt384 => ((laws_eqSock.f kj28 bt384.1 bt384.2.1 bt384.2.2.1 bt384.2.2.2.1 bt384.2.2.2.2.1 bt384.2.2.2.2.2.1 bt384.2.2.2.2.2.2.1 bt384.2.2.2.2.2.2.2 t305 t306 t307 t308 t309 t312 t315 t316).bind fun t397 => (if t397 = true then ((laws_heldSock.f kj28 t334 t335 t336 t337 bt365.2.1 bt365.2.2 t344 t345 1).bind fun t398 => (if t398 < 0 then (some false) else (if t398 = bt365.1 then (some true) else (some false)))) else (some false)))))) else (some false))))) = some r := by rw [if_neg (show ¬ (false = true) by decide)] at H; exact H
        clear H
        have H := H1
        clear H1
        replace H := Option.bind_eq_some_iff.mp H
        obtain ⟨⟨t365, t366, t367⟩, A1070, H⟩ := H
        replace H : ((laws_heldSock.f kj28 t334 t335 t336 t337 t366 t367 t344 t345 1).bind fun t368 => (if t368 < 0 then (some false) else (if t368 = t365 then ((laws_toSock.f kj28 a0_0 a0_1 a0_2 a0_3 l0_4 l0_5 a0_6 a0_7).bind fun bt369 => ((laws_toFrame.f a1_0 a1_1 a1_2).bind fun bt381 => ((impl_Tell.f kj28 bt369.1 bt369.2.1 bt369.2.2.1 bt369.2.2.2.1 bt369.2.2.2.2.1 bt369.2.2.2.2.2.1 bt369.2.2.2.2.2.2.1 bt369.2.2.2.2.2.2.2 bt381.1 bt381.2.1 bt381.2.2).bind fun bt384 => ((laws_eqSock.f kj28 bt384.1 bt384.2.1 bt384.2.2.1 bt384.2.2.2.1 bt384.2.2.2.2.1 bt384.2.2.2.2.2.1 bt384.2.2.2.2.2.2.1 bt384.2.2.2.2.2.2.2 t305 t306 t307 t308 t309 t312 t315 t316).bind fun t397 => (if t397 = true then ((laws_heldSock.f kj28 t334 t335 t336 t337 t366 t367 t344 t345 1).bind fun t398 => (if t398 < 0 then (some false) else (if t398 = t365 then (some true) else (some false)))) else (some false)))))) else (some false)))) = some r := H
        have A107 := Aside0.mk A1070
        clear A1070
        replace H := Option.bind_eq_some_iff.mp H
        obtain ⟨t368, A1080, H⟩ := H
        replace H : (if t368 < 0 then (some false) else (if t368 = t365 then ((laws_toSock.f kj28 a0_0 a0_1 a0_2 a0_3 l0_4 l0_5 a0_6 a0_7).bind fun bt369 => ((laws_toFrame.f a1_0 a1_1 a1_2).bind fun bt381 => ((impl_Tell.f kj28 bt369.1 bt369.2.1 bt369.2.2.1 bt369.2.2.2.1 bt369.2.2.2.2.1 bt369.2.2.2.2.2.1 bt369.2.2.2.2.2.2.1 bt369.2.2.2.2.2.2.2 bt381.1 bt381.2.1 bt381.2.2).bind fun bt384 => ((laws_eqSock.f kj28 bt384.1 bt384.2.1 bt384.2.2.1 bt384.2.2.2.1 bt384.2.2.2.2.1 bt384.2.2.2.2.2.1 bt384.2.2.2.2.2.2.1 bt384.2.2.2.2.2.2.2 t305 t306 t307 t308 t309 t312 t315 t316).bind fun t397 => (if t397 = true then ((laws_heldSock.f kj28 t334 t335 t336 t337 t366 t367 t344 t345 1).bind fun t398 => (if t398 < 0 then (some false) else (if t398 = t365 then (some true) else (some false)))) else (some false)))))) else (some false))) = some r := H
        have A108 := Aside0.mk A1080
        clear A1080
        by_cases c109 : t368 < 0
        ·
         rw [if_pos c109] at H
         have c109b0 : decide (t368 < 0) = true := decide_eq_true c109
         clear c109
         exact absurd (hr_.out ▸ H) (by simp)
        ·
         rw [if_neg c109] at H
         have c109b0 : decide (t368 < 0) = false := decide_eq_false c109
         clear c109
         by_cases c110 : t368 = t365
         ·
          rw [if_pos c110] at H
          have c110b0 : (t368 == t365) = true := beq_iff_eq.mpr c110
          have c110b1 : (t368 != t365) = false := bne_eq_false_iff_eq.mpr c110
          clear c110
          replace H := Option.bind_eq_some_iff.mp H
          obtain ⟨⟨t369, t370, t371, t372, t373, t376, t379, t380⟩, A1110, H⟩ := H
          replace H : ((laws_toFrame.f a1_0 a1_1 a1_2).bind fun bt381 => ((impl_Tell.f kj28 t369 t370 t371 t372 t373 t376 t379 t380 bt381.1 bt381.2.1 bt381.2.2).bind fun bt384 => ((laws_eqSock.f kj28 bt384.1 bt384.2.1 bt384.2.2.1 bt384.2.2.2.1 bt384.2.2.2.2.1 bt384.2.2.2.2.2.1 bt384.2.2.2.2.2.2.1 bt384.2.2.2.2.2.2.2 t305 t306 t307 t308 t309 t312 t315 t316).bind fun t397 => (if t397 = true then ((laws_heldSock.f kj28 t334 t335 t336 t337 t366 t367 t344 t345 1).bind fun t398 => (if t398 < 0 then (some false) else (if t398 = t365 then (some true) else (some false)))) else (some false))))) = some r := H
          have A111 := Aside0.mk A1110
          clear A1110
          replace H := Option.bind_eq_some_iff.mp H
          obtain ⟨⟨t381, t382, t383⟩, A1120, H⟩ := H
          replace H : ((impl_Tell.f kj28 t369 t370 t371 t372 t373 t376 t379 t380 t381 t382 t383).bind fun bt384 => ((laws_eqSock.f kj28 bt384.1 bt384.2.1 bt384.2.2.1 bt384.2.2.2.1 bt384.2.2.2.2.1 bt384.2.2.2.2.2.1 bt384.2.2.2.2.2.2.1 bt384.2.2.2.2.2.2.2 t305 t306 t307 t308 t309 t312 t315 t316).bind fun t397 => (if t397 = true then ((laws_heldSock.f kj28 t334 t335 t336 t337 t366 t367 t344 t345 1).bind fun t398 => (if t398 < 0 then (some false) else (if t398 = t365 then (some true) else (some false)))) else (some false)))) = some r := H
          have A112 := Aside0.mk A1120
          clear A1120
          replace H := Option.bind_eq_some_iff.mp H
          obtain ⟨⟨t384, t385, t386, t387, t388, t391, t394, t395⟩, A1130, H⟩ := H
          replace H : ((laws_eqSock.f kj28 t384 t385 t386 t387 t388 t391 t394 t395 t305 t306 t307 t308 t309 t312 t315 t316).bind fun t397 => (if t397 = true then ((laws_heldSock.f kj28 t334 t335 t336 t337 t366 t367 t344 t345 1).bind fun t398 => (if t398 < 0 then (some false) else (if t398 = t365 then (some true) else (some false)))) else (some false))) = some r := H
          have A113 := Aside0.mk A1130
          clear A1130
          replace H := Option.bind_eq_some_iff.mp H
          obtain ⟨t397, A1140, H⟩ := H
          replace H : (if t397 = true then ((laws_heldSock.f kj28 t334 t335 t336 t337 t366 t367 t344 t345 1).bind fun t398 => (if t398 < 0 then (some false) else (if t398 = t365 then (some true) else (some false)))) else (some false)) = some r := H
          have A114 := Aside0.mk A1140
          clear A1140
          by_cases c115 : t397 = true
          ·
           subst c115
           have H1 : ((laws_heldSock.f kj28 t334 t335 t336 t337 t366 t367 t344 t345 1).bind fun t398 => (if t398 < 0 then (some false) else (if t398 = t365 then (some true) else (some false)))) = some r := by rw [if_pos rfl] at H; exact H
           clear H
           have H := H1
           clear H1
           replace H := Option.bind_eq_some_iff.mp H
           obtain ⟨t398, A1160, H⟩ := H
           replace H : (if t398 < 0 then (some false) else (if t398 = t365 then (some true) else (some false))) = some r := H
           have A116 := Aside0.mk A1160
           clear A1160
           by_cases c117 : t398 < 0
           ·
            rw [if_pos c117] at H
            have c117b0 : decide (t398 < 0) = true := decide_eq_true c117
            clear c117
            exact absurd (hr_.out ▸ H) (by simp)
           ·
            rw [if_neg c117] at H
            have c117b0 : decide (t398 < 0) = false := decide_eq_false c117
            clear c117
            by_cases c118 : t398 = t365
            ·
             rw [if_pos c118] at H
             have c118b0 : (t398 == t365) = true := beq_iff_eq.mpr c118
             have c118b1 : (t398 != t365) = false := bne_eq_false_iff_eq.mpr c118
             clear c118
             obtain rfl := Option.some.inj H
             have hnb119 := NB346_286.out
             have hnc119 := NB286_346.out
             have hnb120 := NB346_287.out
             have hnc120 := NB287_346.out
             have hnb121 := NB346_317.out
             have hnc121 := NB317_346.out
             have hnb122 := NB346_330.out
             have hnc122 := NB330_346.out
             obtain ⟨hcz123_0, hcz123_1, hcz123_2, hcz123_3, hcz123_4, hcz123_5, hcz123_6, hcz123_7⟩ := cz8 BK346.out
             obtain ⟨hfz123_0, hfz123_1, hfz123_2, hfz123_3, hfz123_4, hfz123_5, hfz123_6, hfz123_7⟩ := fz8 BK346.out
             try go_wp2_with (first | ((with_reducible refine gate_callee (f := 22) rfl ?_); refine goesL_ (some 56) rfl rfl Try.func22 (by kernel_rfl) rfl #[.agg #[.int .i64 t334, .int .i64 t335, .int .i64 t336, .bool t337, .slice Ao82 t338.length co82, .slice Ao83 t341.length co83, .int .i64 t344, .int .i64 t345], .int .i64 1] rfl (by (try simp only [List.map_toArray, List.map_cons, List.map_nil]); first | done | rfl | (simp only [List.length_drop, List.length_take]; rfl)) ?_; (with_reducible refine (laws_markSock.calls kj28 t334 t335 t336 t337 (fun k_ => some k_ = (.slice Ao82 t338.length co82 : Value).ownBlock) (.slice Ao82 t338.length co82) t338 (fun k_ => some k_ = (.slice Ao83 t341.length co83 : Value).ownBlock) (.slice Ao83 t341.length co83) t341 t344 t345 1 t365 t366 t367 w _ ?side1 ?side2 ?side3 ?side4 ?side5 A107.out).mono ?_); (case side1 => repeat (first | (with_reducible first | exact HB.out | apply below_alloc | apply pw_below_drewN | apply below_drew1 | refine below_set ?_ GE286.out | refine below_set ?_ GE287.out | refine below_set ?_ GE317.out | refine below_set ?_ GE330.out | refine below_set ?_ GE346.out) | exact HB.out)); (case side2 => exact Kd.R_tight rfl HO_347004.out); (case side3 => exact fun k_ e_ => (HO_347004.out.1 k_ e_.symm).2.2.2.2); (case side4 => exact Kd.R_tight rfl HO_347005.out); (case side5 => exact fun k_ e_ => (HO_347005.out.1 k_ e_.symm).2.2.2.2); rintro e w124 ⟨rfl, hy0, hy1, hb, hkp⟩; refine ⟨_, rfl, ?_⟩; replace HO_318004 := am_ (Kd.R_mono (ok' := fun k_ => some k_ ≠ (.slice Ao85 t312.length co85 : Value).ownBlock ∧ some k_ ≠ (.slice Ao57 t362.length co57 : Value).ownBlock ∧ some k_ ≠ (.slice Ao58 t363.length co58 : Value).ownBlock ∧ some k_ ≠ (.slice Ao82 t338.length co82 : Value).ownBlock ∧ some k_ ≠ (.slice Ao83 t341.length co83 : Value).ownBlock) (Kd.R_keptB (HO_318004.out) hkp (fun k_ hk_ hs_ => Or.elim hs_ (fun e_ => (hk_.2.2.2.1) e_) (fun e_ => (hk_.2.2.2.2) e_))) (fun k_ hk_ => ⟨hk_.1.1, hk_.1.2.1, hk_.1.2.2.1, hk_.1.2.2.2.1, hk_.1.2.2.2.2⟩)); replace HO_318005 := am_ (Kd.R_mono (ok' := fun k_ => some k_ ≠ (.slice Ao84 t309.length co84 : Value).ownBlock ∧ some k_ ≠ (.slice Ao57 t362.length co57 : Value).ownBlock ∧ some k_ ≠ (.slice Ao58 t363.length co58 : Value).ownBlock ∧ some k_ ≠ (.slice Ao82 t338.length co82 : Value).ownBlock ∧ some k_ ≠ (.slice Ao83 t341.length co83 : Value).ownBlock) (Kd.R_keptB (HO_318005.out) hkp (fun k_ hk_ hs_ => Or.elim hs_ (fun e_ => (hk_.2.2.2.1) e_) (fun e_ => (hk_.2.2.2.2) e_))) (fun k_ hk_ => ⟨hk_.1.1, hk_.1.2.1, hk_.1.2.2.1, hk_.1.2.2.2.1, hk_.1.2.2.2.2⟩)); replace HO_331004 := am_ (Kd.R_mono (ok' := fun k_ => some k_ ≠ (.slice Ao84 t309.length co84 : Value).ownBlock ∧ some k_ ≠ (.slice Ao85 t312.length co85 : Value).ownBlock ∧ some k_ ≠ (.slice Ao58 t363.length co58 : Value).ownBlock ∧ some k_ ≠ (.slice Ao82 t338.length co82 : Value).ownBlock ∧ some k_ ≠ (.slice Ao83 t341.length co83 : Value).ownBlock) (Kd.R_keptB (HO_331004.out) hkp (fun k_ hk_ hs_ => Or.elim hs_ (fun e_ => (hk_.2.2.2.1) e_) (fun e_ => (hk_.2.2.2.2) e_))) (fun k_ hk_ => ⟨hk_.1.1, hk_.1.2.1, hk_.1.2.2.1, hk_.1.2.2.2.1, hk_.1.2.2.2.2⟩)); replace HO_331005 := am_ (Kd.R_mono (ok' := fun k_ => some k_ ≠ (.slice Ao84 t309.length co84 : Value).ownBlock ∧ some k_ ≠ (.slice Ao85 t312.length co85 : Value).ownBlock ∧ some k_ ≠ (.slice Ao57 t362.length co57 : Value).ownBlock ∧ some k_ ≠ (.slice Ao82 t338.length co82 : Value).ownBlock ∧ some k_ ≠ (.slice Ao83 t341.length co83 : Value).ownBlock) (Kd.R_keptB (HO_331005.out) hkp (fun k_ hk_ hs_ => Or.elim hs_ (fun e_ => (hk_.2.2.2.1) e_) (fun e_ => (hk_.2.2.2.2) e_))) (fun k_ hk_ => ⟨hk_.1.1, hk_.1.2.1, hk_.1.2.2.1, hk_.1.2.2.2.1, hk_.1.2.2.2.2⟩)); replace BK286 := am_ (blk_kept (qK BK286) hkp (fun hs_ => Or.elim hs_ (fun e_ => (fun e_ => (Kd.R_ne HO_347004.out BK286.out (by decide)) e_) e_) (fun e_ => (fun e_ => (Kd.R_ne HO_347005.out BK286.out (by decide)) e_) e_))); replace BK287 := am_ (blk_kept (qK BK287) hkp (fun hs_ => Or.elim hs_ (fun e_ => (fun e_ => (Kd.R_ne HO_347004.out BK287.out (by decide)) e_) e_) (fun e_ => (fun e_ => (Kd.R_ne HO_347005.out BK287.out (by decide)) e_) e_))); replace BK317 := am_ (blk_kept (qK BK317) hkp (fun hs_ => Or.elim hs_ (fun e_ => (fun e_ => (Kd.R_ne HO_347004.out BK317.out (by decide)) e_) e_) (fun e_ => (fun e_ => (Kd.R_ne HO_347005.out BK317.out (by decide)) e_) e_))); replace BK330 := am_ (blk_kept (qK BK330) hkp (fun hs_ => Or.elim hs_ (fun e_ => (fun e_ => (Kd.R_ne HO_347004.out BK330.out (by decide)) e_) e_) (fun e_ => (fun e_ => (Kd.R_ne HO_347005.out BK330.out (by decide)) e_) e_))); replace BK346 := am_ (blk_kept (qK BK346) hkp (fun hs_ => Or.elim hs_ (fun e_ => (fun e_ => (Kd.R_ne HO_347004.out BK346.out (by decide)) e_) e_) (fun e_ => (fun e_ => (Kd.R_ne HO_347005.out BK346.out (by decide)) e_) e_))); replace HO_347004 := am_ (Kd.R_reok rfl hy0 (fun k_ e_ => HO_347004.out.1 k_ e_)); replace HO_347005 := am_ (Kd.R_reok rfl hy1 (fun k_ e_ => HO_347005.out.1 k_ e_)); replace HB := am_ (hb); (try clear hb); (try clear hkp); (try clear hy0); (try clear hy1); obtain ⟨hcz125_0, hcz125_1, hcz125_2, hcz125_3, hcz125_4, hcz125_5, hcz125_6, hcz125_7⟩ := cz8 BK346.out; obtain ⟨hfz125_0, hfz125_1, hfz125_2, hfz125_3, hfz125_4, hfz125_5, hfz125_6, hfz125_7⟩ := fz8 BK346.out) | ((with_reducible refine gate_callee (f := 23) rfl ?_); refine goesL_ (some 59) rfl rfl Try.func23 (by kernel_rfl) rfl #[.agg #[.int .i64 t334, .int .i64 t335, .int .i64 t336, .bool t337, .slice Ao82 t366.length co82, .slice Ao83 t367.length co83, .int .i64 t344, .int .i64 t345], .int .i64 1] rfl (by (try simp only [List.map_toArray, List.map_cons, List.map_nil]); first | done | (rw [show t366.length = t338.length from (Kd.R_reads' HO_347004.out).1.symm, show t367.length = t341.length from (Kd.R_reads' HO_347005.out).1.symm] <;> rfl) | rfl | (simp only [List.length_drop, List.length_take]; rfl)) ?_; (with_reducible refine (laws_heldSock.calls kj28 t334 t335 t336 t337 _ _ t366 _ _ t367 t344 t345 1 t368 _ ?side1 ?side2 ?side3 ?side4 A108.out).mono ?_); (case side1 => exact qC ((Kd.R_reads' HO_347004.out).2.2)); (case side2 => rw [show t366.length = t338.length from (Kd.R_reads' HO_347004.out).1.symm]; exact (Kd.R_reads' HO_347004.out).2.1); (case side3 => exact qC ((Kd.R_reads' HO_347005.out).2.2)); (case side4 => rw [show t367.length = t341.length from (Kd.R_reads' HO_347005.out).1.symm]; exact (Kd.R_reads' HO_347005.out).2.1); rintro e w126 ⟨rfl, hb⟩; refine ⟨_, rfl, ?_⟩; replace HO_318004 := am_ (Kd.R_below (qR HO_318004) hb); replace HO_318005 := am_ (Kd.R_below (qR HO_318005) hb); replace HO_331004 := am_ (Kd.R_below (qR HO_331004) hb); replace HO_331005 := am_ (Kd.R_below (qR HO_331005) hb); replace HO_347004 := am_ (Kd.R_below (qR HO_347004) hb); replace HO_347005 := am_ (Kd.R_below (qR HO_347005) hb); replace BK286 := am_ (blk_below (qK BK286) hb); replace BK287 := am_ (blk_below (qK BK287) hb); replace BK317 := am_ (blk_below (qK BK317) hb); replace BK330 := am_ (blk_below (qK BK330) hb); replace BK346 := am_ (blk_below (qK BK346) hb); replace HB := am_ (below_step (qB HB) hb); (try clear hb); (try clear hb2); (try clear hk); (try clear hi)))
             replace HO_318004 := am_ (Kd.R_drew HO_318004.out)
             replace HO_318005 := am_ (Kd.R_drew HO_318005.out)
             replace HO_331004 := am_ (Kd.R_drew HO_331004.out)
             replace HO_331005 := am_ (Kd.R_drew HO_331005.out)
             replace HO_347004 := am_ (Kd.R_drew HO_347004.out)
             replace HO_347005 := am_ (Kd.R_drew HO_347005.out)
             replace BK286 := am_ (blk_drew BK286.out)
             replace BK287 := am_ (blk_drew BK287.out)
             replace BK317 := am_ (blk_drew BK317.out)
             replace BK330 := am_ (blk_drew BK330.out)
             replace BK346 := am_ (blk_drew BK346.out)
             replace HB := am_ (below_drew1 HB.out)
             refine start_ (n := 7) (S := fun w' => True) (ds := []) #[false, false, false, false, false, false, false] (by kernel_rfl) rfl rfl trivial (fun hHeld => ?_); refine with_tabW laws_FnExactTell.tab27 laws_FnExactTell.bits27 (fun HT_ HW_ => ?_)
             generalize w126.drew = w127 at HO_318004 HO_318005 HO_331004 HO_331005 HO_347004 HO_347005 BK286 BK287 BK317 BK330 BK346 HB hHeld ⊢
             refine inv_at [0, 1, 2, 3, 4, 5, 6] (fun a0_ b a w' => ∃ (v374 : Value) (v377 : Value) (v389 : Value) (v392 : Value) (gb396 : Nat) (m1_ : Value) (m4_ : Value) (m5_ : Value), a = putSel a0_ b [(0, 65, .agg #[.int .i64 a0_0, .int .i64 a0_1, .int .i64 a0_2, .bool a0_3, .slice A0_4 l0_4.length c0_4, .slice A0_5 l0_5.length c0_5, .int .i64 a0_6, .int .i64 a0_7]), (1, 66, m1_), (2, 67, .agg #[.int .i64 a1_0, .string a1_1, .int .i64 a1_2]), (3, 68, .agg #[.int .i64 t381, .string t382, .int .i64 t383]), (4, 69, m4_), (5, 12, m5_)] ∧ (b 1 = false → Kd.R (Kd.int .u8) 5 w' w.heap.size (fun k_ => some k_ ≠ (.slice Ao85 t312.length co85 : Value).ownBlock ∧ some k_ ≠ (.slice Ao57 t362.length co57 : Value).ownBlock ∧ some k_ ≠ (.slice Ao58 t363.length co58 : Value).ownBlock ∧ some k_ ≠ (.slice Ao82 t338.length co82 : Value).ownBlock ∧ some k_ ≠ (.slice Ao83 t341.length co83 : Value).ownBlock) (.slice Ao84 t309.length co84) t309) ∧ (b 1 = false → Kd.R (Kd.int .u8) 5 w' w.heap.size (fun k_ => some k_ ≠ (.slice Ao84 t309.length co84 : Value).ownBlock ∧ some k_ ≠ (.slice Ao57 t362.length co57 : Value).ownBlock ∧ some k_ ≠ (.slice Ao58 t363.length co58 : Value).ownBlock ∧ some k_ ≠ (.slice Ao82 t338.length co82 : Value).ownBlock ∧ some k_ ≠ (.slice Ao83 t341.length co83 : Value).ownBlock) (.slice Ao85 t312.length co85) t312) ∧ (b 1 = false → Kd.R (Kd.int .u8) 5 w' w.heap.size (fun k_ => some k_ ≠ (.slice Ao84 t309.length co84 : Value).ownBlock ∧ some k_ ≠ (.slice Ao85 t312.length co85 : Value).ownBlock ∧ some k_ ≠ (.slice Ao58 t363.length co58 : Value).ownBlock ∧ some k_ ≠ (.slice Ao82 t338.length co82 : Value).ownBlock ∧ some k_ ≠ (.slice Ao83 t341.length co83 : Value).ownBlock) (.slice Ao57 t362.length co57) t362) ∧ (b 1 = false → Kd.R (Kd.int .u8) 5 w' w.heap.size (fun k_ => some k_ ≠ (.slice Ao84 t309.length co84 : Value).ownBlock ∧ some k_ ≠ (.slice Ao85 t312.length co85 : Value).ownBlock ∧ some k_ ≠ (.slice Ao57 t362.length co57 : Value).ownBlock ∧ some k_ ≠ (.slice Ao82 t338.length co82 : Value).ownBlock ∧ some k_ ≠ (.slice Ao83 t341.length co83 : Value).ownBlock) (.slice Ao58 t363.length co58) t363) ∧ (b 1 = false → Kd.R (Kd.int .u8) 5 w' w.heap.size (fun k_ => some k_ ≠ (.slice Ao84 t309.length co84 : Value).ownBlock ∧ some k_ ≠ (.slice Ao85 t312.length co85 : Value).ownBlock ∧ some k_ ≠ (.slice Ao57 t362.length co57 : Value).ownBlock ∧ some k_ ≠ (.slice Ao58 t363.length co58 : Value).ownBlock ∧ some k_ ≠ (.slice Ao83 t341.length co83 : Value).ownBlock) (.slice Ao82 t338.length co82) t366) ∧ (b 1 = false → Kd.R (Kd.int .u8) 5 w' w.heap.size (fun k_ => some k_ ≠ (.slice Ao84 t309.length co84 : Value).ownBlock ∧ some k_ ≠ (.slice Ao85 t312.length co85 : Value).ownBlock ∧ some k_ ≠ (.slice Ao57 t362.length co57 : Value).ownBlock ∧ some k_ ≠ (.slice Ao58 t363.length co58 : Value).ownBlock ∧ some k_ ≠ (.slice Ao82 t338.length co82 : Value).ownBlock) (.slice Ao83 t341.length co83) t367) ∧ (w'.heap[gb286]? = some (.cells #[.int .i64 a0_0, .int .i64 a0_1, .int .i64 a0_2, .bool a0_3, .slice A0_4 l0_4.length c0_4, .slice A0_5 l0_5.length c0_5, .int .i64 a0_6, .int .i64 a0_7] 24 (0, 0))) ∧ (w'.heap[gb287]? = some (.cells #[.int .i64 a1_0, .string a1_1, .int .i64 a1_2] 26 (0, 0))) ∧ (w'.heap[gb317]? = some (.cells #[.int .i64 t305, .int .i64 t306, .int .i64 t307, .bool t308, .slice Ao84 t309.length co84, .slice Ao85 t312.length co85, .int .i64 t315, .int .i64 t316] 29 (0, 0))) ∧ (w'.heap[gb330]? = some (.cells #[.int .i64 t318, .int .i64 t319, .int .i64 t320, .bool t321, .slice Ao57 t362.length co57, .slice Ao58 t363.length co58, .int .i64 t328, .int .i64 t329] 29 (0, 0))) ∧ (w'.heap[gb346]? = some (.cells #[.int .i64 t334, .int .i64 t335, .int .i64 t336, .bool t337, .slice Ao82 t338.length co82, .slice Ao83 t341.length co83, .int .i64 t344, .int .i64 t345] 29 (0, 0))) ∧ (Below w.heap.size w w') ∧ (b 1 = true → b 4 = false → Kd.R (Kd.int .u8) 5 w' w.heap.size (fun k_ => some k_ ≠ (v377 : Value).ownBlock ∧ some k_ ≠ (.slice Ao84 t309.length co84 : Value).ownBlock ∧ some k_ ≠ (.slice Ao85 t312.length co85 : Value).ownBlock ∧ some k_ ≠ (.slice Ao57 t362.length co57 : Value).ownBlock ∧ some k_ ≠ (.slice Ao58 t363.length co58 : Value).ownBlock ∧ some k_ ≠ (.slice Ao82 t338.length co82 : Value).ownBlock ∧ some k_ ≠ (.slice Ao83 t341.length co83 : Value).ownBlock) v374 t373) ∧ (b 1 = true → b 4 = false → Kd.R (Kd.int .u8) 5 w' w.heap.size (fun k_ => some k_ ≠ (v374 : Value).ownBlock ∧ some k_ ≠ (.slice Ao84 t309.length co84 : Value).ownBlock ∧ some k_ ≠ (.slice Ao85 t312.length co85 : Value).ownBlock ∧ some k_ ≠ (.slice Ao57 t362.length co57 : Value).ownBlock ∧ some k_ ≠ (.slice Ao58 t363.length co58 : Value).ownBlock ∧ some k_ ≠ (.slice Ao82 t338.length co82 : Value).ownBlock ∧ some k_ ≠ (.slice Ao83 t341.length co83 : Value).ownBlock) v377 t376) ∧ (b 1 = true → b 4 = false → Kd.R (Kd.int .u8) 5 w' w.heap.size (fun k_ => some k_ ≠ (v374 : Value).ownBlock ∧ some k_ ≠ (v377 : Value).ownBlock ∧ some k_ ≠ (.slice Ao85 t312.length co85 : Value).ownBlock ∧ some k_ ≠ (.slice Ao57 t362.length co57 : Value).ownBlock ∧ some k_ ≠ (.slice Ao58 t363.length co58 : Value).ownBlock ∧ some k_ ≠ (.slice Ao82 t338.length co82 : Value).ownBlock ∧ some k_ ≠ (.slice Ao83 t341.length co83 : Value).ownBlock) (.slice Ao84 t309.length co84) t309) ∧ (b 1 = true → b 4 = false → Kd.R (Kd.int .u8) 5 w' w.heap.size (fun k_ => some k_ ≠ (v374 : Value).ownBlock ∧ some k_ ≠ (v377 : Value).ownBlock ∧ some k_ ≠ (.slice Ao84 t309.length co84 : Value).ownBlock ∧ some k_ ≠ (.slice Ao57 t362.length co57 : Value).ownBlock ∧ some k_ ≠ (.slice Ao58 t363.length co58 : Value).ownBlock ∧ some k_ ≠ (.slice Ao82 t338.length co82 : Value).ownBlock ∧ some k_ ≠ (.slice Ao83 t341.length co83 : Value).ownBlock) (.slice Ao85 t312.length co85) t312) ∧ (b 1 = true → b 4 = false → Kd.R (Kd.int .u8) 5 w' w.heap.size (fun k_ => some k_ ≠ (v374 : Value).ownBlock ∧ some k_ ≠ (v377 : Value).ownBlock ∧ some k_ ≠ (.slice Ao84 t309.length co84 : Value).ownBlock ∧ some k_ ≠ (.slice Ao85 t312.length co85 : Value).ownBlock ∧ some k_ ≠ (.slice Ao58 t363.length co58 : Value).ownBlock ∧ some k_ ≠ (.slice Ao82 t338.length co82 : Value).ownBlock ∧ some k_ ≠ (.slice Ao83 t341.length co83 : Value).ownBlock) (.slice Ao57 t362.length co57) t362) ∧ (b 1 = true → b 4 = false → Kd.R (Kd.int .u8) 5 w' w.heap.size (fun k_ => some k_ ≠ (v374 : Value).ownBlock ∧ some k_ ≠ (v377 : Value).ownBlock ∧ some k_ ≠ (.slice Ao84 t309.length co84 : Value).ownBlock ∧ some k_ ≠ (.slice Ao85 t312.length co85 : Value).ownBlock ∧ some k_ ≠ (.slice Ao57 t362.length co57 : Value).ownBlock ∧ some k_ ≠ (.slice Ao82 t338.length co82 : Value).ownBlock ∧ some k_ ≠ (.slice Ao83 t341.length co83 : Value).ownBlock) (.slice Ao58 t363.length co58) t363) ∧ (b 1 = true → b 4 = false → Kd.R (Kd.int .u8) 5 w' w.heap.size (fun k_ => some k_ ≠ (v374 : Value).ownBlock ∧ some k_ ≠ (v377 : Value).ownBlock ∧ some k_ ≠ (.slice Ao84 t309.length co84 : Value).ownBlock ∧ some k_ ≠ (.slice Ao85 t312.length co85 : Value).ownBlock ∧ some k_ ≠ (.slice Ao57 t362.length co57 : Value).ownBlock ∧ some k_ ≠ (.slice Ao58 t363.length co58 : Value).ownBlock ∧ some k_ ≠ (.slice Ao83 t341.length co83 : Value).ownBlock) (.slice Ao82 t338.length co82) t366) ∧ (b 1 = true → b 4 = false → Kd.R (Kd.int .u8) 5 w' w.heap.size (fun k_ => some k_ ≠ (v374 : Value).ownBlock ∧ some k_ ≠ (v377 : Value).ownBlock ∧ some k_ ≠ (.slice Ao84 t309.length co84 : Value).ownBlock ∧ some k_ ≠ (.slice Ao85 t312.length co85 : Value).ownBlock ∧ some k_ ≠ (.slice Ao57 t362.length co57 : Value).ownBlock ∧ some k_ ≠ (.slice Ao58 t363.length co58 : Value).ownBlock ∧ some k_ ≠ (.slice Ao82 t338.length co82 : Value).ownBlock) (.slice Ao83 t341.length co83) t367) ∧ (b 4 = true → Kd.R (Kd.int .u8) 5 w' w.heap.size (fun k_ => some k_ ≠ (v377 : Value).ownBlock ∧ some k_ ≠ (v389 : Value).ownBlock ∧ some k_ ≠ (v392 : Value).ownBlock ∧ some k_ ≠ (.slice Ao84 t309.length co84 : Value).ownBlock ∧ some k_ ≠ (.slice Ao85 t312.length co85 : Value).ownBlock ∧ some k_ ≠ (.slice Ao57 t362.length co57 : Value).ownBlock ∧ some k_ ≠ (.slice Ao58 t363.length co58 : Value).ownBlock ∧ some k_ ≠ (.slice Ao82 t338.length co82 : Value).ownBlock ∧ some k_ ≠ (.slice Ao83 t341.length co83 : Value).ownBlock) v374 t373) ∧ (b 4 = true → Kd.R (Kd.int .u8) 5 w' w.heap.size (fun k_ => some k_ ≠ (v374 : Value).ownBlock ∧ some k_ ≠ (v389 : Value).ownBlock ∧ some k_ ≠ (v392 : Value).ownBlock ∧ some k_ ≠ (.slice Ao84 t309.length co84 : Value).ownBlock ∧ some k_ ≠ (.slice Ao85 t312.length co85 : Value).ownBlock ∧ some k_ ≠ (.slice Ao57 t362.length co57 : Value).ownBlock ∧ some k_ ≠ (.slice Ao58 t363.length co58 : Value).ownBlock ∧ some k_ ≠ (.slice Ao82 t338.length co82 : Value).ownBlock ∧ some k_ ≠ (.slice Ao83 t341.length co83 : Value).ownBlock) v377 t376) ∧ (b 4 = true → Kd.R (Kd.int .u8) 5 w' w.heap.size (fun k_ => some k_ ≠ (v374 : Value).ownBlock ∧ some k_ ≠ (v377 : Value).ownBlock ∧ some k_ ≠ (v392 : Value).ownBlock ∧ some k_ ≠ (.slice Ao84 t309.length co84 : Value).ownBlock ∧ some k_ ≠ (.slice Ao85 t312.length co85 : Value).ownBlock ∧ some k_ ≠ (.slice Ao57 t362.length co57 : Value).ownBlock ∧ some k_ ≠ (.slice Ao58 t363.length co58 : Value).ownBlock ∧ some k_ ≠ (.slice Ao82 t338.length co82 : Value).ownBlock ∧ some k_ ≠ (.slice Ao83 t341.length co83 : Value).ownBlock) v389 t388) ∧ (b 4 = true → Kd.R (Kd.int .u8) 5 w' w.heap.size (fun k_ => some k_ ≠ (v374 : Value).ownBlock ∧ some k_ ≠ (v377 : Value).ownBlock ∧ some k_ ≠ (v389 : Value).ownBlock ∧ some k_ ≠ (.slice Ao84 t309.length co84 : Value).ownBlock ∧ some k_ ≠ (.slice Ao85 t312.length co85 : Value).ownBlock ∧ some k_ ≠ (.slice Ao57 t362.length co57 : Value).ownBlock ∧ some k_ ≠ (.slice Ao58 t363.length co58 : Value).ownBlock ∧ some k_ ≠ (.slice Ao82 t338.length co82 : Value).ownBlock ∧ some k_ ≠ (.slice Ao83 t341.length co83 : Value).ownBlock) v392 t391) ∧ (b 4 = true → Kd.R (Kd.int .u8) 5 w' w.heap.size (fun k_ => some k_ ≠ (v374 : Value).ownBlock ∧ some k_ ≠ (v377 : Value).ownBlock ∧ some k_ ≠ (v389 : Value).ownBlock ∧ some k_ ≠ (v392 : Value).ownBlock ∧ some k_ ≠ (.slice Ao85 t312.length co85 : Value).ownBlock ∧ some k_ ≠ (.slice Ao57 t362.length co57 : Value).ownBlock ∧ some k_ ≠ (.slice Ao58 t363.length co58 : Value).ownBlock ∧ some k_ ≠ (.slice Ao82 t338.length co82 : Value).ownBlock ∧ some k_ ≠ (.slice Ao83 t341.length co83 : Value).ownBlock) (.slice Ao84 t309.length co84) t309) ∧ (b 4 = true → Kd.R (Kd.int .u8) 5 w' w.heap.size (fun k_ => some k_ ≠ (v374 : Value).ownBlock ∧ some k_ ≠ (v377 : Value).ownBlock ∧ some k_ ≠ (v389 : Value).ownBlock ∧ some k_ ≠ (v392 : Value).ownBlock ∧ some k_ ≠ (.slice Ao84 t309.length co84 : Value).ownBlock ∧ some k_ ≠ (.slice Ao57 t362.length co57 : Value).ownBlock ∧ some k_ ≠ (.slice Ao58 t363.length co58 : Value).ownBlock ∧ some k_ ≠ (.slice Ao82 t338.length co82 : Value).ownBlock ∧ some k_ ≠ (.slice Ao83 t341.length co83 : Value).ownBlock) (.slice Ao85 t312.length co85) t312) ∧ (b 4 = true → Kd.R (Kd.int .u8) 5 w' w.heap.size (fun k_ => some k_ ≠ (v374 : Value).ownBlock ∧ some k_ ≠ (v377 : Value).ownBlock ∧ some k_ ≠ (v389 : Value).ownBlock ∧ some k_ ≠ (v392 : Value).ownBlock ∧ some k_ ≠ (.slice Ao84 t309.length co84 : Value).ownBlock ∧ some k_ ≠ (.slice Ao85 t312.length co85 : Value).ownBlock ∧ some k_ ≠ (.slice Ao58 t363.length co58 : Value).ownBlock ∧ some k_ ≠ (.slice Ao82 t338.length co82 : Value).ownBlock ∧ some k_ ≠ (.slice Ao83 t341.length co83 : Value).ownBlock) (.slice Ao57 t362.length co57) t362) ∧ (b 4 = true → Kd.R (Kd.int .u8) 5 w' w.heap.size (fun k_ => some k_ ≠ (v374 : Value).ownBlock ∧ some k_ ≠ (v377 : Value).ownBlock ∧ some k_ ≠ (v389 : Value).ownBlock ∧ some k_ ≠ (v392 : Value).ownBlock ∧ some k_ ≠ (.slice Ao84 t309.length co84 : Value).ownBlock ∧ some k_ ≠ (.slice Ao85 t312.length co85 : Value).ownBlock ∧ some k_ ≠ (.slice Ao57 t362.length co57 : Value).ownBlock ∧ some k_ ≠ (.slice Ao82 t338.length co82 : Value).ownBlock ∧ some k_ ≠ (.slice Ao83 t341.length co83 : Value).ownBlock) (.slice Ao58 t363.length co58) t363) ∧ (b 4 = true → Kd.R (Kd.int .u8) 5 w' w.heap.size (fun k_ => some k_ ≠ (v374 : Value).ownBlock ∧ some k_ ≠ (v377 : Value).ownBlock ∧ some k_ ≠ (v389 : Value).ownBlock ∧ some k_ ≠ (v392 : Value).ownBlock ∧ some k_ ≠ (.slice Ao84 t309.length co84 : Value).ownBlock ∧ some k_ ≠ (.slice Ao85 t312.length co85 : Value).ownBlock ∧ some k_ ≠ (.slice Ao57 t362.length co57 : Value).ownBlock ∧ some k_ ≠ (.slice Ao58 t363.length co58 : Value).ownBlock ∧ some k_ ≠ (.slice Ao83 t341.length co83 : Value).ownBlock) (.slice Ao82 t338.length co82) t366) ∧ (b 4 = true → Kd.R (Kd.int .u8) 5 w' w.heap.size (fun k_ => some k_ ≠ (v374 : Value).ownBlock ∧ some k_ ≠ (v377 : Value).ownBlock ∧ some k_ ≠ (v389 : Value).ownBlock ∧ some k_ ≠ (v392 : Value).ownBlock ∧ some k_ ≠ (.slice Ao84 t309.length co84 : Value).ownBlock ∧ some k_ ≠ (.slice Ao85 t312.length co85 : Value).ownBlock ∧ some k_ ≠ (.slice Ao57 t362.length co57 : Value).ownBlock ∧ some k_ ≠ (.slice Ao58 t363.length co58 : Value).ownBlock ∧ some k_ ≠ (.slice Ao82 t338.length co82 : Value).ownBlock) (.slice Ao83 t341.length co83) t367) ∧ (b 5 = true → b 6 = false → w'.heap[gb396]? = some (.cells #[.int .i64 0, .int .i64 0, .int .i64 0, .bool false, .slice none 0 0, .slice none 0 0, .int .i64 0, .int .i64 0] 29 (0, 0))) ∧ (b 5 = true → w.heap.size ≤ gb396) ∧ (b 5 = true → w.heap.size ≤ gb396) ∧ (b 5 = true → gb286 ≠ gb396) ∧ (b 5 = true → gb396 ≠ gb286) ∧ (b 5 = true → gb287 ≠ gb396) ∧ (b 5 = true → gb396 ≠ gb287) ∧ (b 5 = true → gb317 ≠ gb396) ∧ (b 5 = true → gb396 ≠ gb317) ∧ (b 5 = true → gb330 ≠ gb396) ∧ (b 5 = true → gb396 ≠ gb330) ∧ (b 5 = true → gb346 ≠ gb396) ∧ (b 5 = true → gb396 ≠ gb346) ∧ (b 6 = true → w'.heap[gb396]? = some (.cells #[.int .i64 t384, .int .i64 t385, .int .i64 t386, .bool t387, v389, v392, .int .i64 t394, .int .i64 t395] 29 (0, 0))) ∧ (b 1 = true → (m1_ : Value) = .agg #[.int .i64 t369, .int .i64 t370, .int .i64 t371, .bool t372, v374, v377, .int .i64 t379, .int .i64 t380]) ∧ (b 4 = true → (m4_ : Value) = .agg #[.int .i64 t384, .int .i64 t385, .int .i64 t386, .bool t387, v389, v392, .int .i64 t394, .int .i64 t395]) ∧ (b 5 = true → (m5_ : Value) = .pointer (some ⟨gb396, 0, none⟩))) HT_.out HW_.out (by kernel_rfl) (by kernel_rfl) ?_ ?_ ?_
             ·
              exact ⟨.bool false, .bool false, .bool false, .bool false, 0, .bool false, .bool false, .bool false, by simp only [putSel, Bool.false_eq_true, if_false], fun _ => HO_318004.out, fun _ => HO_318005.out, fun _ => HO_331004.out, fun _ => HO_331005.out, fun _ => HO_347004.out, fun _ => HO_347005.out, BK286.out, BK287.out, BK317.out, BK330.out, BK346.out, HB.out, xd_, xd_, xd_, xd_, xd_, xd_, xd_, xd_, xd_, xd_, xd_, xd_, xd_, xd_, xd_, xd_, xd_, xd_, xd_, xd_, xd_, xd_, xd_, xd_, xd_, xd_, xd_, xd_, xd_, xd_, xd_, xd_, xd_, xd_, xd_⟩
             ·
              skip
              clear BK286 BK287 BK317 BK330 BK346 HB HO_318004 HO_318005 HO_331004 HO_331005 HO_347004 HO_347005
              refine steps_cons ?_ ?_
              ·
               rintro b a w' ⟨v374, v377, v389, v392, gb396, m1_, m4_, m5_, ha, Q_HO_318004, Q_HO_318005, Q_HO_331004, Q_HO_331005, Q_HO_347004, Q_HO_347005, Q_BK286, Q_BK287, Q_BK317, Q_BK330, Q_BK346, Q_HB, Q_HO375, Q_HO378, Q_HO_318004_e1, Q_HO_318005_e1, Q_HO_331004_e1, Q_HO_331005_e1, Q_HO_347004_e1, Q_HO_347005_e1, Q_HO375_e4, Q_HO378_e4, Q_HO390, Q_HO393, Q_HO_318004_e4, Q_HO_318005_e4, Q_HO_331004_e4, Q_HO_331005_e4, Q_HO_347004_e4, Q_HO_347005_e4, Q_BK396, Q_GW396, Q_GE396, Q_NB286_396, Q_NB396_286, Q_NB287_396, Q_NB396_287, Q_NB317_396, Q_NB396_317, Q_NB330_396, Q_NB396_330, Q_NB346_396, Q_NB396_346, Q_BK396_e6, Q_X1_, Q_X4_, Q_X5_⟩ hb_ hon hoff
               refine ⟨_, rfl, fun K hK => ?_⟩
               have e2 : a.tmps[2]? = some (.pointer (some ⟨gb286, 0, none⟩)) := by rw [ha]; exact (putSel_off rfl).trans rfl
               replace ha := Aside0.mk ha
               have HO_318004 := Aside0.mk (Q_HO_318004 (hoff 1 (by kernel_rfl)))
               have HO_318005 := Aside0.mk (Q_HO_318005 (hoff 1 (by kernel_rfl)))
               have HO_331004 := Aside0.mk (Q_HO_331004 (hoff 1 (by kernel_rfl)))
               have HO_331005 := Aside0.mk (Q_HO_331005 (hoff 1 (by kernel_rfl)))
               have HO_347004 := Aside0.mk (Q_HO_347004 (hoff 1 (by kernel_rfl)))
               have HO_347005 := Aside0.mk (Q_HO_347005 (hoff 1 (by kernel_rfl)))
               have BK286 := Aside0.mk Q_BK286
               have BK287 := Aside0.mk Q_BK287
               have BK317 := Aside0.mk Q_BK317
               have BK330 := Aside0.mk Q_BK330
               have BK346 := Aside0.mk Q_BK346
               have HB := Aside0.mk Q_HB
               have hc0_ : w'.cell? ⟨gb286, 0, none⟩ = some (.int .i64 a0_0) := (blk_cell BK286.out 0).trans rfl
               have hc1_ : w'.cell? ⟨gb286, 1, none⟩ = some (.int .i64 a0_1) := (blk_cell BK286.out 1).trans rfl
               have hc2_ : w'.cell? ⟨gb286, 2, none⟩ = some (.int .i64 a0_2) := (blk_cell BK286.out 2).trans rfl
               have hc3_ : w'.cell? ⟨gb286, 3, none⟩ = some (.bool a0_3) := (blk_cell BK286.out 3).trans rfl
               have hc4_ : w'.cell? ⟨gb286, 4, none⟩ = some (.slice A0_4 l0_4.length c0_4) := (blk_cell BK286.out 4).trans rfl
               have hc5_ : w'.cell? ⟨gb286, 5, none⟩ = some (.slice A0_5 l0_5.length c0_5) := (blk_cell BK286.out 5).trans rfl
               have hc6_ : w'.cell? ⟨gb286, 6, none⟩ = some (.int .i64 a0_6) := (blk_cell BK286.out 6).trans rfl
               have hc7_ : w'.cell? ⟨gb286, 7, none⟩ = some (.int .i64 a0_7) := (blk_cell BK286.out 7).trans rfl
               refine value_ (w1 := w') (v := .agg #[.int .i64 a0_0, .int .i64 a0_1, .int .i64 a0_2, .bool a0_3, .slice A0_4 l0_4.length c0_4, .slice A0_5 l0_5.length c0_5, .int .i64 a0_6, .int .i64 a0_7]) (by rfl) rfl ?_ ?_
               ·
                go_simp
                (try simp only [i64_w])
                try rfl
               refine hK.out _ _ ⟨v374, v377, v389, v392, gb396, m1_, m4_, m5_, (by rw [ha.out]; exact putSel_upk 0 hb_ rfl rfl rfl), Q_HO_318004, Q_HO_318005, Q_HO_331004, Q_HO_331005, Q_HO_347004, Q_HO_347005, Q_BK286, Q_BK287, Q_BK317, Q_BK330, Q_BK346, Q_HB, fun h0_ _ => absurd ((hoff 1 (by kernel_rfl)).symm.trans h0_) (by decide), fun h0_ _ => absurd ((hoff 1 (by kernel_rfl)).symm.trans h0_) (by decide), fun h0_ _ => absurd ((hoff 1 (by kernel_rfl)).symm.trans h0_) (by decide), fun h0_ _ => absurd ((hoff 1 (by kernel_rfl)).symm.trans h0_) (by decide), fun h0_ _ => absurd ((hoff 1 (by kernel_rfl)).symm.trans h0_) (by decide), fun h0_ _ => absurd ((hoff 1 (by kernel_rfl)).symm.trans h0_) (by decide), fun h0_ _ => absurd ((hoff 1 (by kernel_rfl)).symm.trans h0_) (by decide), fun h0_ _ => absurd ((hoff 1 (by kernel_rfl)).symm.trans h0_) (by decide), xo_ (hoff 4 (by kernel_rfl)), xo_ (hoff 4 (by kernel_rfl)), xo_ (hoff 4 (by kernel_rfl)), xo_ (hoff 4 (by kernel_rfl)), xo_ (hoff 4 (by kernel_rfl)), xo_ (hoff 4 (by kernel_rfl)), xo_ (hoff 4 (by kernel_rfl)), xo_ (hoff 4 (by kernel_rfl)), xo_ (hoff 4 (by kernel_rfl)), xo_ (hoff 4 (by kernel_rfl)), Q_BK396, Q_GW396, Q_GE396, Q_NB286_396, Q_NB396_286, Q_NB287_396, Q_NB396_287, Q_NB317_396, Q_NB396_317, Q_NB330_396, Q_NB396_330, Q_NB346_396, Q_NB396_346, xo_ (hoff 6 (by kernel_rfl)), xo_ (hoff 1 (by kernel_rfl)), xo_ (hoff 4 (by kernel_rfl)), Q_X5_⟩
              refine steps_cons ?_ ?_
              ·
               rintro b a w' ⟨v374, v377, v389, v392, gb396, m1_, m4_, m5_, ha, Q_HO_318004, Q_HO_318005, Q_HO_331004, Q_HO_331005, Q_HO_347004, Q_HO_347005, Q_BK286, Q_BK287, Q_BK317, Q_BK330, Q_BK346, Q_HB, Q_HO375, Q_HO378, Q_HO_318004_e1, Q_HO_318005_e1, Q_HO_331004_e1, Q_HO_331005_e1, Q_HO_347004_e1, Q_HO_347005_e1, Q_HO375_e4, Q_HO378_e4, Q_HO390, Q_HO393, Q_HO_318004_e4, Q_HO_318005_e4, Q_HO_331004_e4, Q_HO_331005_e4, Q_HO_347004_e4, Q_HO_347005_e4, Q_BK396, Q_GW396, Q_GE396, Q_NB286_396, Q_NB396_286, Q_NB287_396, Q_NB396_287, Q_NB317_396, Q_NB396_317, Q_NB330_396, Q_NB396_330, Q_NB346_396, Q_NB396_346, Q_BK396_e6, Q_X1_, Q_X4_, Q_X5_⟩ hb_ hon hoff
               refine ⟨_, rfl, fun K hK => ?_⟩
               have e65 : a.tmps[65]? = some (.agg #[.int .i64 a0_0, .int .i64 a0_1, .int .i64 a0_2, .bool a0_3, .slice A0_4 l0_4.length c0_4, .slice A0_5 l0_5.length c0_5, .int .i64 a0_6, .int .i64 a0_7]) := by rw [ha]; exact putSel_on (e := (0, 65, .agg #[.int .i64 a0_0, .int .i64 a0_1, .int .i64 a0_2, .bool a0_3, .slice A0_4 l0_4.length c0_4, .slice A0_5 l0_5.length c0_5, .int .i64 a0_6, .int .i64 a0_7])) 0 rfl rfl (hon 0 (by kernel_rfl)) rfl
               replace ha := Aside0.mk ha
               have HO_318004 := Aside0.mk (Q_HO_318004 hb_)
               have HO_318005 := Aside0.mk (Q_HO_318005 hb_)
               have HO_331004 := Aside0.mk (Q_HO_331004 hb_)
               have HO_331005 := Aside0.mk (Q_HO_331005 hb_)
               have HO_347004 := Aside0.mk (Q_HO_347004 hb_)
               have HO_347005 := Aside0.mk (Q_HO_347005 hb_)
               have BK286 := Aside0.mk Q_BK286
               have BK287 := Aside0.mk Q_BK287
               have BK317 := Aside0.mk Q_BK317
               have BK330 := Aside0.mk Q_BK330
               have BK346 := Aside0.mk Q_BK346
               have HB := Aside0.mk Q_HB
               refine goes_ Try.func18 (by kernel_rfl) rfl #[.agg #[.int .i64 a0_0, .int .i64 a0_1, .int .i64 a0_2, .bool a0_3, .slice A0_4 l0_4.length c0_4, .slice A0_5 l0_5.length c0_5, .int .i64 a0_6, .int .i64 a0_7]] (by rfl) rfl rfl (by first | (simp only [List.map_toArray, List.map_cons, List.map_nil, Act.eval, Array.getD_eq_getD_getElem?, Option.getD_some, e65]; done) | (simp only [List.map_toArray, List.map_cons, List.map_nil, Act.eval, Array.getD_eq_getD_getElem?, Option.getD_some, e65]; rfl)) ?_
               with_reducible refine (laws_toSock.calls kj28 a0_0 a0_1 a0_2 a0_3 _ _ l0_4 _ _ l0_5 a0_6 a0_7 t369 t370 t371 t372 t373 t376 t379 t380 _ ?side1 ?side2 ?side3 ?side4 A111.out).mono ?_
               (case side1 => exact qC (Kd.C_below HR0_4.out HB.out))
               (case side2 => exact HC0_4.out)
               (case side3 => exact qC (Kd.C_below HR0_5.out HB.out))
               (case side4 => exact HC0_5.out)
               rintro e w128 ⟨v374, v377, rfl, ho0, ho1, hb⟩
               refine ⟨_, rfl, ?_⟩
               have n0_ := Aside0.mk (Kd.R_mono (Kd.R_told (Kd.R_told (Kd.R_old (qR HO_318004) hb) (Kd.R_base ho0)) (Kd.R_base ho1)) (fun _ h_ => h_.1))
               have n1_ := Aside0.mk (Kd.R_mono (Kd.R_told (Kd.R_told (Kd.R_old (qR HO_318005) hb) (Kd.R_base ho0)) (Kd.R_base ho1)) (fun _ h_ => h_.1))
               have n2_ := Aside0.mk (Kd.R_mono (Kd.R_told (Kd.R_told (Kd.R_old (qR HO_331004) hb) (Kd.R_base ho0)) (Kd.R_base ho1)) (fun _ h_ => h_.1))
               have n3_ := Aside0.mk (Kd.R_mono (Kd.R_told (Kd.R_told (Kd.R_old (qR HO_331005) hb) (Kd.R_base ho0)) (Kd.R_base ho1)) (fun _ h_ => h_.1))
               have n4_ := Aside0.mk (Kd.R_mono (Kd.R_told (Kd.R_told (Kd.R_old (qR HO_347004) hb) (Kd.R_base ho0)) (Kd.R_base ho1)) (fun _ h_ => h_.1))
               have n5_ := Aside0.mk (Kd.R_mono (Kd.R_told (Kd.R_told (Kd.R_old (qR HO_347005) hb) (Kd.R_base ho0)) (Kd.R_base ho1)) (fun _ h_ => h_.1))
               have n6_ := Aside0.mk (Kd.R_lower (Kd.R_new' (Kd.R_new' (Kd.R_new' (Kd.R_new' (Kd.R_new' (Kd.R_new' ho0 (Kd.R_lt (qR HO_318004))) (Kd.R_lt (qR HO_318005))) (Kd.R_lt (qR HO_331004))) (Kd.R_lt (qR HO_331005))) (Kd.R_lt (qR HO_347004))) (Kd.R_lt (qR HO_347005))) (below_size (qB HB)))
               have n7_ := Aside0.mk (Kd.R_lower (Kd.R_new' (Kd.R_new' (Kd.R_new' (Kd.R_new' (Kd.R_new' (Kd.R_new' ho1 (Kd.R_lt (qR HO_318004))) (Kd.R_lt (qR HO_318005))) (Kd.R_lt (qR HO_331004))) (Kd.R_lt (qR HO_331005))) (Kd.R_lt (qR HO_347004))) (Kd.R_lt (qR HO_347005))) (below_size (qB HB)))
               have n8_ := Aside0.mk (blk_below (qK BK286) hb)
               have n9_ := Aside0.mk (blk_below (qK BK287) hb)
               have n10_ := Aside0.mk (blk_below (qK BK317) hb)
               have n11_ := Aside0.mk (blk_below (qK BK330) hb)
               have n12_ := Aside0.mk (blk_below (qK BK346) hb)
               have n13_ := Aside0.mk (below_step (qB HB) hb)
               have z_BK396 := fun (h0_ : b 5 = true) (h1_ : b 6 = false) => (show w128.heap[gb396]? = some (.cells #[.int .i64 0, .int .i64 0, .int .i64 0, .bool false, .slice none 0 0, .slice none 0 0, .int .i64 0, .int .i64 0] 29 (0, 0)) from by first | exact (blk_below (g := gb396) (o := .cells #[.int .i64 0, .int .i64 0, .int .i64 0, .bool false, .slice none 0 0, .slice none 0 0, .int .i64 0, .int .i64 0] 29 (0, 0)) (by (with_reducible repeat (first | refine blk_drewN ?_ _ | refine blk_drew ?_ | refine blk_alloc ?_ _)); exact (Q_BK396 h0_ h1_)) hb))
               clear HO_318004
               clear HO_318005
               clear HO_331004
               clear HO_331005
               clear HO_347004
               clear HO_347005
               clear BK286
               clear BK287
               clear BK317
               clear BK330
               clear BK346
               clear HB
               have HO_318004 := n0_
               have HO_318005 := n1_
               have HO_331004 := n2_
               have HO_331005 := n3_
               have HO_347004 := n4_
               have HO_347005 := n5_
               have HO375 := n6_
               have HO378 := n7_
               have BK286 := n8_
               have BK287 := n9_
               have BK317 := n10_
               have BK330 := n11_
               have BK346 := n12_
               have HB := n13_
               clear n0_ n1_ n2_ n3_ n4_ n5_ n6_ n7_ n8_ n9_ n10_ n11_ n12_ n13_
               (try clear hb ho0 ho1)
               refine hK.out _ _ ⟨v374, v377, v389, v392, gb396, (.agg #[.int .i64 t369, .int .i64 t370, .int .i64 t371, .bool t372, v374, v377, .int .i64 t379, .int .i64 t380]), m4_, m5_, (by rw [ha.out]; exact putSel_upk 1 hb_ rfl rfl rfl), xo_ (up_self b 1), xo_ (up_self b 1), xo_ (up_self b 1), xo_ (up_self b 1), xo_ (up_self b 1), xo_ (up_self b 1), (qK BK286), (qK BK287), (qK BK317), (qK BK330), (qK BK346), (qB HB), fun _ _ => (tR (Kd.R_mono HO375.out (fun _ hk => ⟨hk.1.1.1.1.1.1, ⟨hk.1.1.1.1.1.2, ⟨hk.1.1.1.1.2, ⟨hk.1.1.1.2, ⟨hk.1.1.2, ⟨hk.1.2, hk.2⟩⟩⟩⟩⟩⟩))), fun _ _ => (tR (Kd.R_mono HO378.out (fun _ hk => ⟨hk.1.1.1.1.1.1, ⟨hk.1.1.1.1.1.2, ⟨hk.1.1.1.1.2, ⟨hk.1.1.1.2, ⟨hk.1.1.2, ⟨hk.1.2, hk.2⟩⟩⟩⟩⟩⟩))), fun _ _ => (tR (Kd.R_mono HO_318004.out (fun _ hk => ⟨hk.1.2, ⟨hk.2, ⟨hk.1.1.1, ⟨hk.1.1.2.1, ⟨hk.1.1.2.2.1, ⟨hk.1.1.2.2.2.1, hk.1.1.2.2.2.2⟩⟩⟩⟩⟩⟩))), fun _ _ => (tR (Kd.R_mono HO_318005.out (fun _ hk => ⟨hk.1.2, ⟨hk.2, ⟨hk.1.1.1, ⟨hk.1.1.2.1, ⟨hk.1.1.2.2.1, ⟨hk.1.1.2.2.2.1, hk.1.1.2.2.2.2⟩⟩⟩⟩⟩⟩))), fun _ _ => (tR (Kd.R_mono HO_331004.out (fun _ hk => ⟨hk.1.2, ⟨hk.2, ⟨hk.1.1.1, ⟨hk.1.1.2.1, ⟨hk.1.1.2.2.1, ⟨hk.1.1.2.2.2.1, hk.1.1.2.2.2.2⟩⟩⟩⟩⟩⟩))), fun _ _ => (tR (Kd.R_mono HO_331005.out (fun _ hk => ⟨hk.1.2, ⟨hk.2, ⟨hk.1.1.1, ⟨hk.1.1.2.1, ⟨hk.1.1.2.2.1, ⟨hk.1.1.2.2.2.1, hk.1.1.2.2.2.2⟩⟩⟩⟩⟩⟩))), fun _ _ => (tR (Kd.R_mono HO_347004.out (fun _ hk => ⟨hk.1.2, ⟨hk.2, ⟨hk.1.1.1, ⟨hk.1.1.2.1, ⟨hk.1.1.2.2.1, ⟨hk.1.1.2.2.2.1, hk.1.1.2.2.2.2⟩⟩⟩⟩⟩⟩))), fun _ _ => (tR (Kd.R_mono HO_347005.out (fun _ hk => ⟨hk.1.2, ⟨hk.2, ⟨hk.1.1.1, ⟨hk.1.1.2.1, ⟨hk.1.1.2.2.1, ⟨hk.1.1.2.2.2.1, hk.1.1.2.2.2.2⟩⟩⟩⟩⟩⟩))), xo_ (hoff 4 (by kernel_rfl)), xo_ (hoff 4 (by kernel_rfl)), xo_ (hoff 4 (by kernel_rfl)), xo_ (hoff 4 (by kernel_rfl)), xo_ (hoff 4 (by kernel_rfl)), xo_ (hoff 4 (by kernel_rfl)), xo_ (hoff 4 (by kernel_rfl)), xo_ (hoff 4 (by kernel_rfl)), xo_ (hoff 4 (by kernel_rfl)), xo_ (hoff 4 (by kernel_rfl)), z_BK396, Q_GW396, Q_GE396, Q_NB286_396, Q_NB396_286, Q_NB287_396, Q_NB396_287, Q_NB317_396, Q_NB396_317, Q_NB330_396, Q_NB396_330, Q_NB346_396, Q_NB396_346, xo_ (hoff 6 (by kernel_rfl)), fun _ => rfl, xo_ (hoff 4 (by kernel_rfl)), Q_X5_⟩
              refine steps_cons ?_ ?_
              ·
               rintro b a w' ⟨v374, v377, v389, v392, gb396, m1_, m4_, m5_, ha, Q_HO_318004, Q_HO_318005, Q_HO_331004, Q_HO_331005, Q_HO_347004, Q_HO_347005, Q_BK286, Q_BK287, Q_BK317, Q_BK330, Q_BK346, Q_HB, Q_HO375, Q_HO378, Q_HO_318004_e1, Q_HO_318005_e1, Q_HO_331004_e1, Q_HO_331005_e1, Q_HO_347004_e1, Q_HO_347005_e1, Q_HO375_e4, Q_HO378_e4, Q_HO390, Q_HO393, Q_HO_318004_e4, Q_HO_318005_e4, Q_HO_331004_e4, Q_HO_331005_e4, Q_HO_347004_e4, Q_HO_347005_e4, Q_BK396, Q_GW396, Q_GE396, Q_NB286_396, Q_NB396_286, Q_NB287_396, Q_NB396_287, Q_NB317_396, Q_NB396_317, Q_NB330_396, Q_NB396_330, Q_NB346_396, Q_NB396_346, Q_BK396_e6, Q_X1_, Q_X4_, Q_X5_⟩ hb_ hon hoff
               refine ⟨_, rfl, fun K hK => ?_⟩
               have e3 : a.tmps[3]? = some (.pointer (some ⟨gb287, 0, none⟩)) := by rw [ha]; exact (putSel_off rfl).trans rfl
               replace ha := Aside0.mk ha
               have BK286 := Aside0.mk Q_BK286
               have BK287 := Aside0.mk Q_BK287
               have BK317 := Aside0.mk Q_BK317
               have BK330 := Aside0.mk Q_BK330
               have BK346 := Aside0.mk Q_BK346
               have HB := Aside0.mk Q_HB
               have hc0_ : w'.cell? ⟨gb287, 0, none⟩ = some (.int .i64 a1_0) := (blk_cell BK287.out 0).trans rfl
               have hc1_ : w'.cell? ⟨gb287, 1, none⟩ = some (.string a1_1) := (blk_cell BK287.out 1).trans rfl
               have hc2_ : w'.cell? ⟨gb287, 2, none⟩ = some (.int .i64 a1_2) := (blk_cell BK287.out 2).trans rfl
               refine value_ (w1 := w') (v := .agg #[.int .i64 a1_0, .string a1_1, .int .i64 a1_2]) (by rfl) rfl ?_ ?_
               ·
                go_simp
                (try simp only [i64_w])
                try rfl
               refine hK.out _ _ ⟨v374, v377, v389, v392, gb396, m1_, m4_, m5_, (by rw [ha.out]; exact putSel_upk 2 hb_ rfl rfl rfl), Q_HO_318004, Q_HO_318005, Q_HO_331004, Q_HO_331005, Q_HO_347004, Q_HO_347005, Q_BK286, Q_BK287, Q_BK317, Q_BK330, Q_BK346, Q_HB, Q_HO375, Q_HO378, Q_HO_318004_e1, Q_HO_318005_e1, Q_HO_331004_e1, Q_HO_331005_e1, Q_HO_347004_e1, Q_HO_347005_e1, xo_ (hoff 4 (by kernel_rfl)), xo_ (hoff 4 (by kernel_rfl)), xo_ (hoff 4 (by kernel_rfl)), xo_ (hoff 4 (by kernel_rfl)), xo_ (hoff 4 (by kernel_rfl)), xo_ (hoff 4 (by kernel_rfl)), xo_ (hoff 4 (by kernel_rfl)), xo_ (hoff 4 (by kernel_rfl)), xo_ (hoff 4 (by kernel_rfl)), xo_ (hoff 4 (by kernel_rfl)), Q_BK396, Q_GW396, Q_GE396, Q_NB286_396, Q_NB396_286, Q_NB287_396, Q_NB396_287, Q_NB317_396, Q_NB396_317, Q_NB330_396, Q_NB396_330, Q_NB346_396, Q_NB396_346, xo_ (hoff 6 (by kernel_rfl)), Q_X1_, xo_ (hoff 4 (by kernel_rfl)), Q_X5_⟩
              refine steps_cons ?_ ?_
              ·
               rintro b a w' ⟨v374, v377, v389, v392, gb396, m1_, m4_, m5_, ha, Q_HO_318004, Q_HO_318005, Q_HO_331004, Q_HO_331005, Q_HO_347004, Q_HO_347005, Q_BK286, Q_BK287, Q_BK317, Q_BK330, Q_BK346, Q_HB, Q_HO375, Q_HO378, Q_HO_318004_e1, Q_HO_318005_e1, Q_HO_331004_e1, Q_HO_331005_e1, Q_HO_347004_e1, Q_HO_347005_e1, Q_HO375_e4, Q_HO378_e4, Q_HO390, Q_HO393, Q_HO_318004_e4, Q_HO_318005_e4, Q_HO_331004_e4, Q_HO_331005_e4, Q_HO_347004_e4, Q_HO_347005_e4, Q_BK396, Q_GW396, Q_GE396, Q_NB286_396, Q_NB396_286, Q_NB287_396, Q_NB396_287, Q_NB317_396, Q_NB396_317, Q_NB330_396, Q_NB396_330, Q_NB346_396, Q_NB396_346, Q_BK396_e6, Q_X1_, Q_X4_, Q_X5_⟩ hb_ hon hoff
               refine ⟨_, rfl, fun K hK => ?_⟩
               have e67 : a.tmps[67]? = some (.agg #[.int .i64 a1_0, .string a1_1, .int .i64 a1_2]) := by rw [ha]; exact putSel_on (e := (2, 67, .agg #[.int .i64 a1_0, .string a1_1, .int .i64 a1_2])) 2 rfl rfl (hon 2 (by kernel_rfl)) rfl
               replace ha := Aside0.mk ha
               have BK286 := Aside0.mk Q_BK286
               have BK287 := Aside0.mk Q_BK287
               have BK317 := Aside0.mk Q_BK317
               have BK330 := Aside0.mk Q_BK330
               have BK346 := Aside0.mk Q_BK346
               have HB := Aside0.mk Q_HB
               have HO375 := Aside0.mk (Q_HO375 (hon 1 (by kernel_rfl)) (hoff 4 (by kernel_rfl)))
               have HO378 := Aside0.mk (Q_HO378 (hon 1 (by kernel_rfl)) (hoff 4 (by kernel_rfl)))
               have HO_318004 := Aside0.mk (Q_HO_318004_e1 (hon 1 (by kernel_rfl)) (hoff 4 (by kernel_rfl)))
               have HO_318005 := Aside0.mk (Q_HO_318005_e1 (hon 1 (by kernel_rfl)) (hoff 4 (by kernel_rfl)))
               have HO_331004 := Aside0.mk (Q_HO_331004_e1 (hon 1 (by kernel_rfl)) (hoff 4 (by kernel_rfl)))
               have HO_331005 := Aside0.mk (Q_HO_331005_e1 (hon 1 (by kernel_rfl)) (hoff 4 (by kernel_rfl)))
               have HO_347004 := Aside0.mk (Q_HO_347004_e1 (hon 1 (by kernel_rfl)) (hoff 4 (by kernel_rfl)))
               have HO_347005 := Aside0.mk (Q_HO_347005_e1 (hon 1 (by kernel_rfl)) (hoff 4 (by kernel_rfl)))
               refine goes_ Try.func19 (by kernel_rfl) rfl #[.agg #[.int .i64 a1_0, .string a1_1, .int .i64 a1_2]] (by rfl) rfl rfl (by first | (simp only [List.map_toArray, List.map_cons, List.map_nil, Act.eval, Array.getD_eq_getD_getElem?, Option.getD_some, e67]; done) | (simp only [List.map_toArray, List.map_cons, List.map_nil, Act.eval, Array.getD_eq_getD_getElem?, Option.getD_some, e67]; rfl)) ?_
               with_reducible refine (laws_toFrame.calls a1_0 a1_1 a1_2 t381 t382 t383 _ A112.out).mono ?_
               rintro e w130 ⟨rfl, hb⟩
               refine ⟨_, rfl, ?_⟩
               have n0_ := Aside0.mk (Kd.R_below (qR HO_318004) hb)
               have n1_ := Aside0.mk (Kd.R_below (qR HO_318005) hb)
               have n2_ := Aside0.mk (Kd.R_below (qR HO_331004) hb)
               have n3_ := Aside0.mk (Kd.R_below (qR HO_331005) hb)
               have n4_ := Aside0.mk (Kd.R_below (qR HO_347004) hb)
               have n5_ := Aside0.mk (Kd.R_below (qR HO_347005) hb)
               have n6_ := Aside0.mk (Kd.R_below (qR HO375) hb)
               have n7_ := Aside0.mk (Kd.R_below (qR HO378) hb)
               have n8_ := Aside0.mk (blk_below (qK BK286) hb)
               have n9_ := Aside0.mk (blk_below (qK BK287) hb)
               have n10_ := Aside0.mk (blk_below (qK BK317) hb)
               have n11_ := Aside0.mk (blk_below (qK BK330) hb)
               have n12_ := Aside0.mk (blk_below (qK BK346) hb)
               have n13_ := Aside0.mk (below_step (qB HB) hb)
               have z_BK396 := fun (h0_ : b 5 = true) (h1_ : b 6 = false) => (show w130.heap[gb396]? = some (.cells #[.int .i64 0, .int .i64 0, .int .i64 0, .bool false, .slice none 0 0, .slice none 0 0, .int .i64 0, .int .i64 0] 29 (0, 0)) from by first | exact (blk_below (g := gb396) (o := .cells #[.int .i64 0, .int .i64 0, .int .i64 0, .bool false, .slice none 0 0, .slice none 0 0, .int .i64 0, .int .i64 0] 29 (0, 0)) (by (with_reducible repeat (first | refine blk_drewN ?_ _ | refine blk_drew ?_ | refine blk_alloc ?_ _)); exact (Q_BK396 h0_ h1_)) hb))
               clear HO_318004
               clear HO_318005
               clear HO_331004
               clear HO_331005
               clear HO_347004
               clear HO_347005
               clear HO375
               clear HO378
               clear BK286
               clear BK287
               clear BK317
               clear BK330
               clear BK346
               clear HB
               have HO_318004 := n0_
               have HO_318005 := n1_
               have HO_331004 := n2_
               have HO_331005 := n3_
               have HO_347004 := n4_
               have HO_347005 := n5_
               have HO375 := n6_
               have HO378 := n7_
               have BK286 := n8_
               have BK287 := n9_
               have BK317 := n10_
               have BK330 := n11_
               have BK346 := n12_
               have HB := n13_
               clear n0_ n1_ n2_ n3_ n4_ n5_ n6_ n7_ n8_ n9_ n10_ n11_ n12_ n13_
               (try clear hb)
               refine hK.out _ _ ⟨v374, v377, v389, v392, gb396, m1_, m4_, m5_, (by rw [ha.out]; exact putSel_upk 3 hb_ rfl rfl rfl), xo_ (hon 1 (by kernel_rfl)), xo_ (hon 1 (by kernel_rfl)), xo_ (hon 1 (by kernel_rfl)), xo_ (hon 1 (by kernel_rfl)), xo_ (hon 1 (by kernel_rfl)), xo_ (hon 1 (by kernel_rfl)), (qK BK286), (qK BK287), (qK BK317), (qK BK330), (qK BK346), (qB HB), fun _ _ => (qR HO375), fun _ _ => (qR HO378), fun _ _ => (qR HO_318004), fun _ _ => (qR HO_318005), fun _ _ => (qR HO_331004), fun _ _ => (qR HO_331005), fun _ _ => (qR HO_347004), fun _ _ => (qR HO_347005), xo_ (hoff 4 (by kernel_rfl)), xo_ (hoff 4 (by kernel_rfl)), xo_ (hoff 4 (by kernel_rfl)), xo_ (hoff 4 (by kernel_rfl)), xo_ (hoff 4 (by kernel_rfl)), xo_ (hoff 4 (by kernel_rfl)), xo_ (hoff 4 (by kernel_rfl)), xo_ (hoff 4 (by kernel_rfl)), xo_ (hoff 4 (by kernel_rfl)), xo_ (hoff 4 (by kernel_rfl)), z_BK396, Q_GW396, Q_GE396, Q_NB286_396, Q_NB396_286, Q_NB287_396, Q_NB396_287, Q_NB317_396, Q_NB396_317, Q_NB330_396, Q_NB396_330, Q_NB346_396, Q_NB396_346, xo_ (hoff 6 (by kernel_rfl)), Q_X1_, xo_ (hoff 4 (by kernel_rfl)), Q_X5_⟩
              refine steps_cons ?_ ?_
              ·
               rintro b a w' ⟨v374, v377, v389, v392, gb396, m1_, m4_, m5_, ha, Q_HO_318004, Q_HO_318005, Q_HO_331004, Q_HO_331005, Q_HO_347004, Q_HO_347005, Q_BK286, Q_BK287, Q_BK317, Q_BK330, Q_BK346, Q_HB, Q_HO375, Q_HO378, Q_HO_318004_e1, Q_HO_318005_e1, Q_HO_331004_e1, Q_HO_331005_e1, Q_HO_347004_e1, Q_HO_347005_e1, Q_HO375_e4, Q_HO378_e4, Q_HO390, Q_HO393, Q_HO_318004_e4, Q_HO_318005_e4, Q_HO_331004_e4, Q_HO_331005_e4, Q_HO_347004_e4, Q_HO_347005_e4, Q_BK396, Q_GW396, Q_GE396, Q_NB286_396, Q_NB396_286, Q_NB287_396, Q_NB396_287, Q_NB317_396, Q_NB396_317, Q_NB330_396, Q_NB396_330, Q_NB346_396, Q_NB396_346, Q_BK396_e6, Q_X1_, Q_X4_, Q_X5_⟩ hb_ hon hoff
               refine ⟨_, rfl, fun K hK => ?_⟩
               have e66 : a.tmps[66]? = some (m1_) := by rw [ha]; exact putSel_on (e := (1, 66, m1_)) 1 rfl rfl (hon 1 (by kernel_rfl)) rfl
               rw [Q_X1_ (hon 1 (by kernel_rfl))] at e66
               have e68 : a.tmps[68]? = some (.agg #[.int .i64 t381, .string t382, .int .i64 t383]) := by rw [ha]; exact putSel_on (e := (3, 68, .agg #[.int .i64 t381, .string t382, .int .i64 t383])) 3 rfl rfl (hon 3 (by kernel_rfl)) rfl
               replace ha := Aside0.mk ha
               have BK286 := Aside0.mk Q_BK286
               have BK287 := Aside0.mk Q_BK287
               have BK317 := Aside0.mk Q_BK317
               have BK330 := Aside0.mk Q_BK330
               have BK346 := Aside0.mk Q_BK346
               have HB := Aside0.mk Q_HB
               have HO375 := Aside0.mk (Q_HO375 (hon 1 (by kernel_rfl)) hb_)
               have HO378 := Aside0.mk (Q_HO378 (hon 1 (by kernel_rfl)) hb_)
               have HO_318004 := Aside0.mk (Q_HO_318004_e1 (hon 1 (by kernel_rfl)) hb_)
               have HO_318005 := Aside0.mk (Q_HO_318005_e1 (hon 1 (by kernel_rfl)) hb_)
               have HO_331004 := Aside0.mk (Q_HO_331004_e1 (hon 1 (by kernel_rfl)) hb_)
               have HO_331005 := Aside0.mk (Q_HO_331005_e1 (hon 1 (by kernel_rfl)) hb_)
               have HO_347004 := Aside0.mk (Q_HO_347004_e1 (hon 1 (by kernel_rfl)) hb_)
               have HO_347005 := Aside0.mk (Q_HO_347005_e1 (hon 1 (by kernel_rfl)) hb_)
               obtain ⟨Ao131, co131, eo131⟩ := Kd.R_slice HO375.out
               (first | subst eo131 | (injection eo131 with f1_ f2_ f3_; have f4_ := f1_.symm; have f5_ := f3_.symm; clear f1_ f2_ f3_; subst f4_; subst f5_))
               obtain ⟨Ao132, co132, eo132⟩ := Kd.R_slice HO378.out
               (first | subst eo132 | (injection eo132 with f1_ f2_ f3_; have f4_ := f1_.symm; have f5_ := f3_.symm; clear f1_ f2_ f3_; subst f4_; subst f5_))
               refine goes_ Try.func20 (by kernel_rfl) rfl #[.agg #[.int .i64 t369, .int .i64 t370, .int .i64 t371, .bool t372, .slice Ao131 t373.length co131, .slice Ao132 t376.length co132, .int .i64 t379, .int .i64 t380], .agg #[.int .i64 t381, .string t382, .int .i64 t383]] (by rfl) rfl rfl (by first | (simp only [List.map_toArray, List.map_cons, List.map_nil, Act.eval, Array.getD_eq_getD_getElem?, Option.getD_some, e66, e68]; done) | (simp only [List.map_toArray, List.map_cons, List.map_nil, Act.eval, Array.getD_eq_getD_getElem?, Option.getD_some, e66, e68]; rfl)) ?_
               with_reducible refine (impl_Tell.calls kj28 t369 t370 t371 t372 _ _ t373 _ _ t376 t379 t380 t381 t382 t383 t384 t385 t386 t387 t388 t391 t394 t395 _ ?side1 ?side2 ?side3 ?side4 A113.out).mono ?_
               (case side1 => exact qC ((Kd.R_reads' HO375.out).2.2))
               (case side2 => exact (Kd.R_reads' HO375.out).2.1)
               (case side3 => exact qC ((Kd.R_reads' HO378.out).2.2))
               (case side4 => exact (Kd.R_reads' HO378.out).2.1)
               rintro e w133 ⟨v389, v392, rfl, ho0, ho1, hb⟩
               refine ⟨_, rfl, ?_⟩
               have n0_ := Aside0.mk (Kd.R_mono (Kd.R_told (Kd.R_told (Kd.R_old (qR HO_318004) hb) (Kd.R_base ho0)) (Kd.R_base ho1)) (fun _ h_ => h_.1))
               have n1_ := Aside0.mk (Kd.R_mono (Kd.R_told (Kd.R_told (Kd.R_old (qR HO_318005) hb) (Kd.R_base ho0)) (Kd.R_base ho1)) (fun _ h_ => h_.1))
               have n2_ := Aside0.mk (Kd.R_mono (Kd.R_told (Kd.R_told (Kd.R_old (qR HO_331004) hb) (Kd.R_base ho0)) (Kd.R_base ho1)) (fun _ h_ => h_.1))
               have n3_ := Aside0.mk (Kd.R_mono (Kd.R_told (Kd.R_told (Kd.R_old (qR HO_331005) hb) (Kd.R_base ho0)) (Kd.R_base ho1)) (fun _ h_ => h_.1))
               have n4_ := Aside0.mk (Kd.R_mono (Kd.R_told (Kd.R_told (Kd.R_old (qR HO_347004) hb) (Kd.R_base ho0)) (Kd.R_base ho1)) (fun _ h_ => h_.1))
               have n5_ := Aside0.mk (Kd.R_mono (Kd.R_told (Kd.R_told (Kd.R_old (qR HO_347005) hb) (Kd.R_base ho0)) (Kd.R_base ho1)) (fun _ h_ => h_.1))
               have n6_ := Aside0.mk (Kd.R_mono (Kd.R_told (Kd.R_told (Kd.R_old (qR HO375) hb) (Kd.R_base ho0)) (Kd.R_base ho1)) (fun _ h_ => h_.1))
               have n7_ := Aside0.mk (Kd.R_mono (Kd.R_told (Kd.R_told (Kd.R_old (qR HO378) hb) (Kd.R_base ho0)) (Kd.R_base ho1)) (fun _ h_ => h_.1))
               have n8_ := Aside0.mk (Kd.R_lower (Kd.R_new' (Kd.R_new' (Kd.R_new' (Kd.R_new' (Kd.R_new' (Kd.R_new' (Kd.R_new' (Kd.R_new' ho0 (Kd.R_lt (qR HO_318004))) (Kd.R_lt (qR HO_318005))) (Kd.R_lt (qR HO_331004))) (Kd.R_lt (qR HO_331005))) (Kd.R_lt (qR HO_347004))) (Kd.R_lt (qR HO_347005))) (Kd.R_lt (qR HO375))) (Kd.R_lt (qR HO378))) (below_size (qB HB)))
               have n9_ := Aside0.mk (Kd.R_lower (Kd.R_new' (Kd.R_new' (Kd.R_new' (Kd.R_new' (Kd.R_new' (Kd.R_new' (Kd.R_new' (Kd.R_new' ho1 (Kd.R_lt (qR HO_318004))) (Kd.R_lt (qR HO_318005))) (Kd.R_lt (qR HO_331004))) (Kd.R_lt (qR HO_331005))) (Kd.R_lt (qR HO_347004))) (Kd.R_lt (qR HO_347005))) (Kd.R_lt (qR HO375))) (Kd.R_lt (qR HO378))) (below_size (qB HB)))
               have n10_ := Aside0.mk (blk_below (qK BK286) hb)
               have n11_ := Aside0.mk (blk_below (qK BK287) hb)
               have n12_ := Aside0.mk (blk_below (qK BK317) hb)
               have n13_ := Aside0.mk (blk_below (qK BK330) hb)
               have n14_ := Aside0.mk (blk_below (qK BK346) hb)
               have n15_ := Aside0.mk (below_step (qB HB) hb)
               have z_BK396 := fun (h0_ : b 5 = true) (h1_ : b 6 = false) => (show w133.heap[gb396]? = some (.cells #[.int .i64 0, .int .i64 0, .int .i64 0, .bool false, .slice none 0 0, .slice none 0 0, .int .i64 0, .int .i64 0] 29 (0, 0)) from by first | exact (blk_below (g := gb396) (o := .cells #[.int .i64 0, .int .i64 0, .int .i64 0, .bool false, .slice none 0 0, .slice none 0 0, .int .i64 0, .int .i64 0] 29 (0, 0)) (by (with_reducible repeat (first | refine blk_drewN ?_ _ | refine blk_drew ?_ | refine blk_alloc ?_ _)); exact (Q_BK396 h0_ h1_)) hb))
               clear HO_318004
               clear HO_318005
               clear HO_331004
               clear HO_331005
               clear HO_347004
               clear HO_347005
               clear HO375
               clear HO378
               clear BK286
               clear BK287
               clear BK317
               clear BK330
               clear BK346
               clear HB
               have HO_318004 := n0_
               have HO_318005 := n1_
               have HO_331004 := n2_
               have HO_331005 := n3_
               have HO_347004 := n4_
               have HO_347005 := n5_
               have HO375 := n6_
               have HO378 := n7_
               have HO390 := n8_
               have HO393 := n9_
               have BK286 := n10_
               have BK287 := n11_
               have BK317 := n12_
               have BK330 := n13_
               have BK346 := n14_
               have HB := n15_
               clear n0_ n1_ n2_ n3_ n4_ n5_ n6_ n7_ n8_ n9_ n10_ n11_ n12_ n13_ n14_ n15_
               (try clear hb ho0 ho1)
               refine hK.out _ _ ⟨.slice Ao131 t373.length co131, .slice Ao132 t376.length co132, v389, v392, gb396, m1_, (.agg #[.int .i64 t384, .int .i64 t385, .int .i64 t386, .bool t387, v389, v392, .int .i64 t394, .int .i64 t395]), m5_, (by rw [ha.out]; exact putSel_upk 4 hb_ rfl rfl rfl), xo_ (hon 1 (by kernel_rfl)), xo_ (hon 1 (by kernel_rfl)), xo_ (hon 1 (by kernel_rfl)), xo_ (hon 1 (by kernel_rfl)), xo_ (hon 1 (by kernel_rfl)), xo_ (hon 1 (by kernel_rfl)), (qK BK286), (qK BK287), (qK BK317), (qK BK330), (qK BK346), (qB HB), fun _ => xo_ (up_self b 4), fun _ => xo_ (up_self b 4), fun _ => xo_ (up_self b 4), fun _ => xo_ (up_self b 4), fun _ => xo_ (up_self b 4), fun _ => xo_ (up_self b 4), fun _ => xo_ (up_self b 4), fun _ => xo_ (up_self b 4), fun _ => (tR (Kd.R_mono HO375.out (fun _ hk => ⟨hk.1.1.1, ⟨hk.1.2, ⟨hk.2, ⟨hk.1.1.2.1, ⟨hk.1.1.2.2.1, ⟨hk.1.1.2.2.2.1, ⟨hk.1.1.2.2.2.2.1, ⟨hk.1.1.2.2.2.2.2.1, hk.1.1.2.2.2.2.2.2⟩⟩⟩⟩⟩⟩⟩⟩))), fun _ => (tR (Kd.R_mono HO378.out (fun _ hk => ⟨hk.1.1.1, ⟨hk.1.2, ⟨hk.2, ⟨hk.1.1.2.1, ⟨hk.1.1.2.2.1, ⟨hk.1.1.2.2.2.1, ⟨hk.1.1.2.2.2.2.1, ⟨hk.1.1.2.2.2.2.2.1, hk.1.1.2.2.2.2.2.2⟩⟩⟩⟩⟩⟩⟩⟩))), fun _ => (tR (Kd.R_mono HO390.out (fun _ hk => ⟨hk.1.2, ⟨hk.2, ⟨hk.1.1.1.1.1.1.1.1, ⟨hk.1.1.1.1.1.1.1.2, ⟨hk.1.1.1.1.1.1.2, ⟨hk.1.1.1.1.1.2, ⟨hk.1.1.1.1.2, ⟨hk.1.1.1.2, hk.1.1.2⟩⟩⟩⟩⟩⟩⟩⟩))), fun _ => (tR (Kd.R_mono HO393.out (fun _ hk => ⟨hk.1.2, ⟨hk.2, ⟨hk.1.1.1.1.1.1.1.1, ⟨hk.1.1.1.1.1.1.1.2, ⟨hk.1.1.1.1.1.1.2, ⟨hk.1.1.1.1.1.2, ⟨hk.1.1.1.1.2, ⟨hk.1.1.1.2, hk.1.1.2⟩⟩⟩⟩⟩⟩⟩⟩))), fun _ => (tR (Kd.R_mono HO_318004.out (fun _ hk => ⟨hk.1.1.1, ⟨hk.1.1.2.1, ⟨hk.1.2, ⟨hk.2, ⟨hk.1.1.2.2.1, ⟨hk.1.1.2.2.2.1, ⟨hk.1.1.2.2.2.2.1, ⟨hk.1.1.2.2.2.2.2.1, hk.1.1.2.2.2.2.2.2⟩⟩⟩⟩⟩⟩⟩⟩))), fun _ => (tR (Kd.R_mono HO_318005.out (fun _ hk => ⟨hk.1.1.1, ⟨hk.1.1.2.1, ⟨hk.1.2, ⟨hk.2, ⟨hk.1.1.2.2.1, ⟨hk.1.1.2.2.2.1, ⟨hk.1.1.2.2.2.2.1, ⟨hk.1.1.2.2.2.2.2.1, hk.1.1.2.2.2.2.2.2⟩⟩⟩⟩⟩⟩⟩⟩))), fun _ => (tR (Kd.R_mono HO_331004.out (fun _ hk => ⟨hk.1.1.1, ⟨hk.1.1.2.1, ⟨hk.1.2, ⟨hk.2, ⟨hk.1.1.2.2.1, ⟨hk.1.1.2.2.2.1, ⟨hk.1.1.2.2.2.2.1, ⟨hk.1.1.2.2.2.2.2.1, hk.1.1.2.2.2.2.2.2⟩⟩⟩⟩⟩⟩⟩⟩))), fun _ => (tR (Kd.R_mono HO_331005.out (fun _ hk => ⟨hk.1.1.1, ⟨hk.1.1.2.1, ⟨hk.1.2, ⟨hk.2, ⟨hk.1.1.2.2.1, ⟨hk.1.1.2.2.2.1, ⟨hk.1.1.2.2.2.2.1, ⟨hk.1.1.2.2.2.2.2.1, hk.1.1.2.2.2.2.2.2⟩⟩⟩⟩⟩⟩⟩⟩))), fun _ => (tR (Kd.R_mono HO_347004.out (fun _ hk => ⟨hk.1.1.1, ⟨hk.1.1.2.1, ⟨hk.1.2, ⟨hk.2, ⟨hk.1.1.2.2.1, ⟨hk.1.1.2.2.2.1, ⟨hk.1.1.2.2.2.2.1, ⟨hk.1.1.2.2.2.2.2.1, hk.1.1.2.2.2.2.2.2⟩⟩⟩⟩⟩⟩⟩⟩))), fun _ => (tR (Kd.R_mono HO_347005.out (fun _ hk => ⟨hk.1.1.1, ⟨hk.1.1.2.1, ⟨hk.1.2, ⟨hk.2, ⟨hk.1.1.2.2.1, ⟨hk.1.1.2.2.2.1, ⟨hk.1.1.2.2.2.2.1, ⟨hk.1.1.2.2.2.2.2.1, hk.1.1.2.2.2.2.2.2⟩⟩⟩⟩⟩⟩⟩⟩))), z_BK396, Q_GW396, Q_GE396, Q_NB286_396, Q_NB396_286, Q_NB287_396, Q_NB396_287, Q_NB317_396, Q_NB396_317, Q_NB330_396, Q_NB396_330, Q_NB346_396, Q_NB396_346, xo_ (hoff 6 (by kernel_rfl)), Q_X1_, fun _ => rfl, Q_X5_⟩
              refine steps_cons ?_ ?_
              ·
               rintro b a w' ⟨v374, v377, v389, v392, gb396, m1_, m4_, m5_, ha, Q_HO_318004, Q_HO_318005, Q_HO_331004, Q_HO_331005, Q_HO_347004, Q_HO_347005, Q_BK286, Q_BK287, Q_BK317, Q_BK330, Q_BK346, Q_HB, Q_HO375, Q_HO378, Q_HO_318004_e1, Q_HO_318005_e1, Q_HO_331004_e1, Q_HO_331005_e1, Q_HO_347004_e1, Q_HO_347005_e1, Q_HO375_e4, Q_HO378_e4, Q_HO390, Q_HO393, Q_HO_318004_e4, Q_HO_318005_e4, Q_HO_331004_e4, Q_HO_331005_e4, Q_HO_347004_e4, Q_HO_347005_e4, Q_BK396, Q_GW396, Q_GE396, Q_NB286_396, Q_NB396_286, Q_NB287_396, Q_NB396_287, Q_NB317_396, Q_NB396_317, Q_NB330_396, Q_NB396_330, Q_NB346_396, Q_NB396_346, Q_BK396_e6, Q_X1_, Q_X4_, Q_X5_⟩ hb_ hon hoff
               refine ⟨_, rfl, fun K hK => ?_⟩
               replace ha := Aside0.mk ha
               have BK286 := Aside0.mk Q_BK286
               have BK287 := Aside0.mk Q_BK287
               have BK317 := Aside0.mk Q_BK317
               have BK330 := Aside0.mk Q_BK330
               have BK346 := Aside0.mk Q_BK346
               have HB := Aside0.mk Q_HB
               refine box_step ?hg (N := 12) ?hd (cs := #[.int .i64 0, .int .i64 0, .int .i64 0, .bool false, .slice none 0 0, .slice none 0 0, .int .i64 0, .int .i64 0]) (t := 29) ?hr ?_; (case hd => rfl); (case hg => rfl); (case hr => first | (go_simp; done) | (go_simp; rfl))
               intro gb396 hg w128 hbox hb
               have n6_ := Aside0.mk (blk_below (qK BK286) hb)
               have n7_ := Aside0.mk (blk_below (qK BK287) hb)
               have n8_ := Aside0.mk (blk_below (qK BK317) hb)
               have n9_ := Aside0.mk (blk_below (qK BK330) hb)
               have n10_ := Aside0.mk (blk_below (qK BK346) hb)
               have n11_ := Aside0.mk (below_step (qB HB) hb)
               have n12_ := Aside0.mk (hbox)
               have n13_ := Aside0.mk ((gG_ hg (qB HB)))
               have n14_ := Aside0.mk ((gG_ hg (qB HB)))
               have n15_ := Aside0.mk ((gN_ hg (qK BK286)))
               have n16_ := Aside0.mk ((gM_ hg (qK BK286)))
               have n17_ := Aside0.mk ((gN_ hg (qK BK287)))
               have n18_ := Aside0.mk ((gM_ hg (qK BK287)))
               have n19_ := Aside0.mk ((gN_ hg (qK BK317)))
               have n20_ := Aside0.mk ((gM_ hg (qK BK317)))
               have n21_ := Aside0.mk ((gN_ hg (qK BK330)))
               have n22_ := Aside0.mk ((gM_ hg (qK BK330)))
               have n23_ := Aside0.mk ((gN_ hg (qK BK346)))
               have n24_ := Aside0.mk ((gM_ hg (qK BK346)))
               have z_HO_318004 := fun (h0_ : b 1 = false) => (show Kd.R (Kd.int .u8) 5 w128 w.heap.size (fun k_ => some k_ ≠ (.slice Ao85 t312.length co85 : Value).ownBlock ∧ some k_ ≠ (.slice Ao57 t362.length co57 : Value).ownBlock ∧ some k_ ≠ (.slice Ao58 t363.length co58 : Value).ownBlock ∧ some k_ ≠ (.slice Ao82 t338.length co82 : Value).ownBlock ∧ some k_ ≠ (.slice Ao83 t341.length co83 : Value).ownBlock) (.slice Ao84 t309.length co84) t309 from mR_ (Kd.R_below (tR (Q_HO_318004 h0_)) hb))
               have z_HO_318005 := fun (h0_ : b 1 = false) => (show Kd.R (Kd.int .u8) 5 w128 w.heap.size (fun k_ => some k_ ≠ (.slice Ao84 t309.length co84 : Value).ownBlock ∧ some k_ ≠ (.slice Ao57 t362.length co57 : Value).ownBlock ∧ some k_ ≠ (.slice Ao58 t363.length co58 : Value).ownBlock ∧ some k_ ≠ (.slice Ao82 t338.length co82 : Value).ownBlock ∧ some k_ ≠ (.slice Ao83 t341.length co83 : Value).ownBlock) (.slice Ao85 t312.length co85) t312 from mR_ (Kd.R_below (tR (Q_HO_318005 h0_)) hb))
               have z_HO_331004 := fun (h0_ : b 1 = false) => (show Kd.R (Kd.int .u8) 5 w128 w.heap.size (fun k_ => some k_ ≠ (.slice Ao84 t309.length co84 : Value).ownBlock ∧ some k_ ≠ (.slice Ao85 t312.length co85 : Value).ownBlock ∧ some k_ ≠ (.slice Ao58 t363.length co58 : Value).ownBlock ∧ some k_ ≠ (.slice Ao82 t338.length co82 : Value).ownBlock ∧ some k_ ≠ (.slice Ao83 t341.length co83 : Value).ownBlock) (.slice Ao57 t362.length co57) t362 from mR_ (Kd.R_below (tR (Q_HO_331004 h0_)) hb))
               have z_HO_331005 := fun (h0_ : b 1 = false) => (show Kd.R (Kd.int .u8) 5 w128 w.heap.size (fun k_ => some k_ ≠ (.slice Ao84 t309.length co84 : Value).ownBlock ∧ some k_ ≠ (.slice Ao85 t312.length co85 : Value).ownBlock ∧ some k_ ≠ (.slice Ao57 t362.length co57 : Value).ownBlock ∧ some k_ ≠ (.slice Ao82 t338.length co82 : Value).ownBlock ∧ some k_ ≠ (.slice Ao83 t341.length co83 : Value).ownBlock) (.slice Ao58 t363.length co58) t363 from mR_ (Kd.R_below (tR (Q_HO_331005 h0_)) hb))
               have z_HO_347004 := fun (h0_ : b 1 = false) => (show Kd.R (Kd.int .u8) 5 w128 w.heap.size (fun k_ => some k_ ≠ (.slice Ao84 t309.length co84 : Value).ownBlock ∧ some k_ ≠ (.slice Ao85 t312.length co85 : Value).ownBlock ∧ some k_ ≠ (.slice Ao57 t362.length co57 : Value).ownBlock ∧ some k_ ≠ (.slice Ao58 t363.length co58 : Value).ownBlock ∧ some k_ ≠ (.slice Ao83 t341.length co83 : Value).ownBlock) (.slice Ao82 t338.length co82) t366 from mR_ (Kd.R_below (tR (Q_HO_347004 h0_)) hb))
               have z_HO_347005 := fun (h0_ : b 1 = false) => (show Kd.R (Kd.int .u8) 5 w128 w.heap.size (fun k_ => some k_ ≠ (.slice Ao84 t309.length co84 : Value).ownBlock ∧ some k_ ≠ (.slice Ao85 t312.length co85 : Value).ownBlock ∧ some k_ ≠ (.slice Ao57 t362.length co57 : Value).ownBlock ∧ some k_ ≠ (.slice Ao58 t363.length co58 : Value).ownBlock ∧ some k_ ≠ (.slice Ao82 t338.length co82 : Value).ownBlock) (.slice Ao83 t341.length co83) t367 from mR_ (Kd.R_below (tR (Q_HO_347005 h0_)) hb))
               have z_HO375 := fun (h0_ : b 1 = true) (h1_ : b 4 = false) => (show Kd.R (Kd.int .u8) 5 w128 w.heap.size (fun k_ => some k_ ≠ (v377 : Value).ownBlock ∧ some k_ ≠ (.slice Ao84 t309.length co84 : Value).ownBlock ∧ some k_ ≠ (.slice Ao85 t312.length co85 : Value).ownBlock ∧ some k_ ≠ (.slice Ao57 t362.length co57 : Value).ownBlock ∧ some k_ ≠ (.slice Ao58 t363.length co58 : Value).ownBlock ∧ some k_ ≠ (.slice Ao82 t338.length co82 : Value).ownBlock ∧ some k_ ≠ (.slice Ao83 t341.length co83 : Value).ownBlock) v374 t373 from mR_ (Kd.R_below (tR (Q_HO375 h0_ h1_)) hb))
               have z_HO378 := fun (h0_ : b 1 = true) (h1_ : b 4 = false) => (show Kd.R (Kd.int .u8) 5 w128 w.heap.size (fun k_ => some k_ ≠ (v374 : Value).ownBlock ∧ some k_ ≠ (.slice Ao84 t309.length co84 : Value).ownBlock ∧ some k_ ≠ (.slice Ao85 t312.length co85 : Value).ownBlock ∧ some k_ ≠ (.slice Ao57 t362.length co57 : Value).ownBlock ∧ some k_ ≠ (.slice Ao58 t363.length co58 : Value).ownBlock ∧ some k_ ≠ (.slice Ao82 t338.length co82 : Value).ownBlock ∧ some k_ ≠ (.slice Ao83 t341.length co83 : Value).ownBlock) v377 t376 from mR_ (Kd.R_below (tR (Q_HO378 h0_ h1_)) hb))
               have z_HO_318004_e1 := fun (h0_ : b 1 = true) (h1_ : b 4 = false) => (show Kd.R (Kd.int .u8) 5 w128 w.heap.size (fun k_ => some k_ ≠ (v374 : Value).ownBlock ∧ some k_ ≠ (v377 : Value).ownBlock ∧ some k_ ≠ (.slice Ao85 t312.length co85 : Value).ownBlock ∧ some k_ ≠ (.slice Ao57 t362.length co57 : Value).ownBlock ∧ some k_ ≠ (.slice Ao58 t363.length co58 : Value).ownBlock ∧ some k_ ≠ (.slice Ao82 t338.length co82 : Value).ownBlock ∧ some k_ ≠ (.slice Ao83 t341.length co83 : Value).ownBlock) (.slice Ao84 t309.length co84) t309 from mR_ (Kd.R_below (tR (Q_HO_318004_e1 h0_ h1_)) hb))
               have z_HO_318005_e1 := fun (h0_ : b 1 = true) (h1_ : b 4 = false) => (show Kd.R (Kd.int .u8) 5 w128 w.heap.size (fun k_ => some k_ ≠ (v374 : Value).ownBlock ∧ some k_ ≠ (v377 : Value).ownBlock ∧ some k_ ≠ (.slice Ao84 t309.length co84 : Value).ownBlock ∧ some k_ ≠ (.slice Ao57 t362.length co57 : Value).ownBlock ∧ some k_ ≠ (.slice Ao58 t363.length co58 : Value).ownBlock ∧ some k_ ≠ (.slice Ao82 t338.length co82 : Value).ownBlock ∧ some k_ ≠ (.slice Ao83 t341.length co83 : Value).ownBlock) (.slice Ao85 t312.length co85) t312 from mR_ (Kd.R_below (tR (Q_HO_318005_e1 h0_ h1_)) hb))
               have z_HO_331004_e1 := fun (h0_ : b 1 = true) (h1_ : b 4 = false) => (show Kd.R (Kd.int .u8) 5 w128 w.heap.size (fun k_ => some k_ ≠ (v374 : Value).ownBlock ∧ some k_ ≠ (v377 : Value).ownBlock ∧ some k_ ≠ (.slice Ao84 t309.length co84 : Value).ownBlock ∧ some k_ ≠ (.slice Ao85 t312.length co85 : Value).ownBlock ∧ some k_ ≠ (.slice Ao58 t363.length co58 : Value).ownBlock ∧ some k_ ≠ (.slice Ao82 t338.length co82 : Value).ownBlock ∧ some k_ ≠ (.slice Ao83 t341.length co83 : Value).ownBlock) (.slice Ao57 t362.length co57) t362 from mR_ (Kd.R_below (tR (Q_HO_331004_e1 h0_ h1_)) hb))
               have z_HO_331005_e1 := fun (h0_ : b 1 = true) (h1_ : b 4 = false) => (show Kd.R (Kd.int .u8) 5 w128 w.heap.size (fun k_ => some k_ ≠ (v374 : Value).ownBlock ∧ some k_ ≠ (v377 : Value).ownBlock ∧ some k_ ≠ (.slice Ao84 t309.length co84 : Value).ownBlock ∧ some k_ ≠ (.slice Ao85 t312.length co85 : Value).ownBlock ∧ some k_ ≠ (.slice Ao57 t362.length co57 : Value).ownBlock ∧ some k_ ≠ (.slice Ao82 t338.length co82 : Value).ownBlock ∧ some k_ ≠ (.slice Ao83 t341.length co83 : Value).ownBlock) (.slice Ao58 t363.length co58) t363 from mR_ (Kd.R_below (tR (Q_HO_331005_e1 h0_ h1_)) hb))
               have z_HO_347004_e1 := fun (h0_ : b 1 = true) (h1_ : b 4 = false) => (show Kd.R (Kd.int .u8) 5 w128 w.heap.size (fun k_ => some k_ ≠ (v374 : Value).ownBlock ∧ some k_ ≠ (v377 : Value).ownBlock ∧ some k_ ≠ (.slice Ao84 t309.length co84 : Value).ownBlock ∧ some k_ ≠ (.slice Ao85 t312.length co85 : Value).ownBlock ∧ some k_ ≠ (.slice Ao57 t362.length co57 : Value).ownBlock ∧ some k_ ≠ (.slice Ao58 t363.length co58 : Value).ownBlock ∧ some k_ ≠ (.slice Ao83 t341.length co83 : Value).ownBlock) (.slice Ao82 t338.length co82) t366 from mR_ (Kd.R_below (tR (Q_HO_347004_e1 h0_ h1_)) hb))
               have z_HO_347005_e1 := fun (h0_ : b 1 = true) (h1_ : b 4 = false) => (show Kd.R (Kd.int .u8) 5 w128 w.heap.size (fun k_ => some k_ ≠ (v374 : Value).ownBlock ∧ some k_ ≠ (v377 : Value).ownBlock ∧ some k_ ≠ (.slice Ao84 t309.length co84 : Value).ownBlock ∧ some k_ ≠ (.slice Ao85 t312.length co85 : Value).ownBlock ∧ some k_ ≠ (.slice Ao57 t362.length co57 : Value).ownBlock ∧ some k_ ≠ (.slice Ao58 t363.length co58 : Value).ownBlock ∧ some k_ ≠ (.slice Ao82 t338.length co82 : Value).ownBlock) (.slice Ao83 t341.length co83) t367 from mR_ (Kd.R_below (tR (Q_HO_347005_e1 h0_ h1_)) hb))
               have z_HO375_e4 := fun (h0_ : b 4 = true) => (show Kd.R (Kd.int .u8) 5 w128 w.heap.size (fun k_ => some k_ ≠ (v377 : Value).ownBlock ∧ some k_ ≠ (v389 : Value).ownBlock ∧ some k_ ≠ (v392 : Value).ownBlock ∧ some k_ ≠ (.slice Ao84 t309.length co84 : Value).ownBlock ∧ some k_ ≠ (.slice Ao85 t312.length co85 : Value).ownBlock ∧ some k_ ≠ (.slice Ao57 t362.length co57 : Value).ownBlock ∧ some k_ ≠ (.slice Ao58 t363.length co58 : Value).ownBlock ∧ some k_ ≠ (.slice Ao82 t338.length co82 : Value).ownBlock ∧ some k_ ≠ (.slice Ao83 t341.length co83 : Value).ownBlock) v374 t373 from mR_ (Kd.R_below (tR (Q_HO375_e4 h0_)) hb))
               have z_HO378_e4 := fun (h0_ : b 4 = true) => (show Kd.R (Kd.int .u8) 5 w128 w.heap.size (fun k_ => some k_ ≠ (v374 : Value).ownBlock ∧ some k_ ≠ (v389 : Value).ownBlock ∧ some k_ ≠ (v392 : Value).ownBlock ∧ some k_ ≠ (.slice Ao84 t309.length co84 : Value).ownBlock ∧ some k_ ≠ (.slice Ao85 t312.length co85 : Value).ownBlock ∧ some k_ ≠ (.slice Ao57 t362.length co57 : Value).ownBlock ∧ some k_ ≠ (.slice Ao58 t363.length co58 : Value).ownBlock ∧ some k_ ≠ (.slice Ao82 t338.length co82 : Value).ownBlock ∧ some k_ ≠ (.slice Ao83 t341.length co83 : Value).ownBlock) v377 t376 from mR_ (Kd.R_below (tR (Q_HO378_e4 h0_)) hb))
               have z_HO390 := fun (h0_ : b 4 = true) => (show Kd.R (Kd.int .u8) 5 w128 w.heap.size (fun k_ => some k_ ≠ (v374 : Value).ownBlock ∧ some k_ ≠ (v377 : Value).ownBlock ∧ some k_ ≠ (v392 : Value).ownBlock ∧ some k_ ≠ (.slice Ao84 t309.length co84 : Value).ownBlock ∧ some k_ ≠ (.slice Ao85 t312.length co85 : Value).ownBlock ∧ some k_ ≠ (.slice Ao57 t362.length co57 : Value).ownBlock ∧ some k_ ≠ (.slice Ao58 t363.length co58 : Value).ownBlock ∧ some k_ ≠ (.slice Ao82 t338.length co82 : Value).ownBlock ∧ some k_ ≠ (.slice Ao83 t341.length co83 : Value).ownBlock) v389 t388 from mR_ (Kd.R_below (tR (Q_HO390 h0_)) hb))
               have z_HO393 := fun (h0_ : b 4 = true) => (show Kd.R (Kd.int .u8) 5 w128 w.heap.size (fun k_ => some k_ ≠ (v374 : Value).ownBlock ∧ some k_ ≠ (v377 : Value).ownBlock ∧ some k_ ≠ (v389 : Value).ownBlock ∧ some k_ ≠ (.slice Ao84 t309.length co84 : Value).ownBlock ∧ some k_ ≠ (.slice Ao85 t312.length co85 : Value).ownBlock ∧ some k_ ≠ (.slice Ao57 t362.length co57 : Value).ownBlock ∧ some k_ ≠ (.slice Ao58 t363.length co58 : Value).ownBlock ∧ some k_ ≠ (.slice Ao82 t338.length co82 : Value).ownBlock ∧ some k_ ≠ (.slice Ao83 t341.length co83 : Value).ownBlock) v392 t391 from mR_ (Kd.R_below (tR (Q_HO393 h0_)) hb))
               have z_HO_318004_e4 := fun (h0_ : b 4 = true) => (show Kd.R (Kd.int .u8) 5 w128 w.heap.size (fun k_ => some k_ ≠ (v374 : Value).ownBlock ∧ some k_ ≠ (v377 : Value).ownBlock ∧ some k_ ≠ (v389 : Value).ownBlock ∧ some k_ ≠ (v392 : Value).ownBlock ∧ some k_ ≠ (.slice Ao85 t312.length co85 : Value).ownBlock ∧ some k_ ≠ (.slice Ao57 t362.length co57 : Value).ownBlock ∧ some k_ ≠ (.slice Ao58 t363.length co58 : Value).ownBlock ∧ some k_ ≠ (.slice Ao82 t338.length co82 : Value).ownBlock ∧ some k_ ≠ (.slice Ao83 t341.length co83 : Value).ownBlock) (.slice Ao84 t309.length co84) t309 from mR_ (Kd.R_below (tR (Q_HO_318004_e4 h0_)) hb))
               have z_HO_318005_e4 := fun (h0_ : b 4 = true) => (show Kd.R (Kd.int .u8) 5 w128 w.heap.size (fun k_ => some k_ ≠ (v374 : Value).ownBlock ∧ some k_ ≠ (v377 : Value).ownBlock ∧ some k_ ≠ (v389 : Value).ownBlock ∧ some k_ ≠ (v392 : Value).ownBlock ∧ some k_ ≠ (.slice Ao84 t309.length co84 : Value).ownBlock ∧ some k_ ≠ (.slice Ao57 t362.length co57 : Value).ownBlock ∧ some k_ ≠ (.slice Ao58 t363.length co58 : Value).ownBlock ∧ some k_ ≠ (.slice Ao82 t338.length co82 : Value).ownBlock ∧ some k_ ≠ (.slice Ao83 t341.length co83 : Value).ownBlock) (.slice Ao85 t312.length co85) t312 from mR_ (Kd.R_below (tR (Q_HO_318005_e4 h0_)) hb))
               have z_HO_331004_e4 := fun (h0_ : b 4 = true) => (show Kd.R (Kd.int .u8) 5 w128 w.heap.size (fun k_ => some k_ ≠ (v374 : Value).ownBlock ∧ some k_ ≠ (v377 : Value).ownBlock ∧ some k_ ≠ (v389 : Value).ownBlock ∧ some k_ ≠ (v392 : Value).ownBlock ∧ some k_ ≠ (.slice Ao84 t309.length co84 : Value).ownBlock ∧ some k_ ≠ (.slice Ao85 t312.length co85 : Value).ownBlock ∧ some k_ ≠ (.slice Ao58 t363.length co58 : Value).ownBlock ∧ some k_ ≠ (.slice Ao82 t338.length co82 : Value).ownBlock ∧ some k_ ≠ (.slice Ao83 t341.length co83 : Value).ownBlock) (.slice Ao57 t362.length co57) t362 from mR_ (Kd.R_below (tR (Q_HO_331004_e4 h0_)) hb))
               have z_HO_331005_e4 := fun (h0_ : b 4 = true) => (show Kd.R (Kd.int .u8) 5 w128 w.heap.size (fun k_ => some k_ ≠ (v374 : Value).ownBlock ∧ some k_ ≠ (v377 : Value).ownBlock ∧ some k_ ≠ (v389 : Value).ownBlock ∧ some k_ ≠ (v392 : Value).ownBlock ∧ some k_ ≠ (.slice Ao84 t309.length co84 : Value).ownBlock ∧ some k_ ≠ (.slice Ao85 t312.length co85 : Value).ownBlock ∧ some k_ ≠ (.slice Ao57 t362.length co57 : Value).ownBlock ∧ some k_ ≠ (.slice Ao82 t338.length co82 : Value).ownBlock ∧ some k_ ≠ (.slice Ao83 t341.length co83 : Value).ownBlock) (.slice Ao58 t363.length co58) t363 from mR_ (Kd.R_below (tR (Q_HO_331005_e4 h0_)) hb))
               have z_HO_347004_e4 := fun (h0_ : b 4 = true) => (show Kd.R (Kd.int .u8) 5 w128 w.heap.size (fun k_ => some k_ ≠ (v374 : Value).ownBlock ∧ some k_ ≠ (v377 : Value).ownBlock ∧ some k_ ≠ (v389 : Value).ownBlock ∧ some k_ ≠ (v392 : Value).ownBlock ∧ some k_ ≠ (.slice Ao84 t309.length co84 : Value).ownBlock ∧ some k_ ≠ (.slice Ao85 t312.length co85 : Value).ownBlock ∧ some k_ ≠ (.slice Ao57 t362.length co57 : Value).ownBlock ∧ some k_ ≠ (.slice Ao58 t363.length co58 : Value).ownBlock ∧ some k_ ≠ (.slice Ao83 t341.length co83 : Value).ownBlock) (.slice Ao82 t338.length co82) t366 from mR_ (Kd.R_below (tR (Q_HO_347004_e4 h0_)) hb))
               have z_HO_347005_e4 := fun (h0_ : b 4 = true) => (show Kd.R (Kd.int .u8) 5 w128 w.heap.size (fun k_ => some k_ ≠ (v374 : Value).ownBlock ∧ some k_ ≠ (v377 : Value).ownBlock ∧ some k_ ≠ (v389 : Value).ownBlock ∧ some k_ ≠ (v392 : Value).ownBlock ∧ some k_ ≠ (.slice Ao84 t309.length co84 : Value).ownBlock ∧ some k_ ≠ (.slice Ao85 t312.length co85 : Value).ownBlock ∧ some k_ ≠ (.slice Ao57 t362.length co57 : Value).ownBlock ∧ some k_ ≠ (.slice Ao58 t363.length co58 : Value).ownBlock ∧ some k_ ≠ (.slice Ao82 t338.length co82 : Value).ownBlock) (.slice Ao83 t341.length co83) t367 from mR_ (Kd.R_below (tR (Q_HO_347005_e4 h0_)) hb))
               clear BK286
               clear BK287
               clear BK317
               clear BK330
               clear BK346
               clear HB
               have BK286 := n6_
               have BK287 := n7_
               have BK317 := n8_
               have BK330 := n9_
               have BK346 := n10_
               have HB := n11_
               have BK396 := n12_
               have GW396 := n13_
               have IGW396 := gI_ GW396
               have GE396 := n14_
               have IGE396 := gI_ GE396
               have NB286_396 := n15_
               have NB396_286 := n16_
               have NB287_396 := n17_
               have NB396_287 := n18_
               have NB317_396 := n19_
               have NB396_317 := n20_
               have NB330_396 := n21_
               have NB396_330 := n22_
               have NB346_396 := n23_
               have NB396_346 := n24_
               clear n6_ n7_ n8_ n9_ n10_ n11_ n12_ n13_ n14_ n15_ n16_ n17_ n18_ n19_ n20_ n21_ n22_ n23_ n24_
               clear hb hbox hg
               refine hK.out _ _ ⟨v374, v377, v389, v392, gb396, m1_, m4_, (.pointer (some ⟨gb396, 0, none⟩)), (by rw [ha.out]; exact putSel_upk 5 hb_ rfl rfl rfl), z_HO_318004, z_HO_318005, z_HO_331004, z_HO_331005, z_HO_347004, z_HO_347005, (qK BK286), (qK BK287), (qK BK317), (qK BK330), (qK BK346), (qB HB), z_HO375, z_HO378, z_HO_318004_e1, z_HO_318005_e1, z_HO_331004_e1, z_HO_331005_e1, z_HO_347004_e1, z_HO_347005_e1, z_HO375_e4, z_HO378_e4, z_HO390, z_HO393, z_HO_318004_e4, z_HO_318005_e4, z_HO_331004_e4, z_HO_331005_e4, z_HO_347004_e4, z_HO_347005_e4, fun _ _ => (qK BK396), fun _ => GW396.out, fun _ => GE396.out, fun _ => NB286_396.out, fun _ => NB396_286.out, fun _ => NB287_396.out, fun _ => NB396_287.out, fun _ => NB317_396.out, fun _ => NB396_317.out, fun _ => NB330_396.out, fun _ => NB396_330.out, fun _ => NB346_396.out, fun _ => NB396_346.out, xo_ (hoff 6 (by kernel_rfl)), Q_X1_, Q_X4_, fun _ => rfl⟩
              refine steps_cons ?_ ?_
              ·
               rintro b a w' ⟨v374, v377, v389, v392, gb396, m1_, m4_, m5_, ha, Q_HO_318004, Q_HO_318005, Q_HO_331004, Q_HO_331005, Q_HO_347004, Q_HO_347005, Q_BK286, Q_BK287, Q_BK317, Q_BK330, Q_BK346, Q_HB, Q_HO375, Q_HO378, Q_HO_318004_e1, Q_HO_318005_e1, Q_HO_331004_e1, Q_HO_331005_e1, Q_HO_347004_e1, Q_HO_347005_e1, Q_HO375_e4, Q_HO378_e4, Q_HO390, Q_HO393, Q_HO_318004_e4, Q_HO_318005_e4, Q_HO_331004_e4, Q_HO_331005_e4, Q_HO_347004_e4, Q_HO_347005_e4, Q_BK396, Q_GW396, Q_GE396, Q_NB286_396, Q_NB396_286, Q_NB287_396, Q_NB396_287, Q_NB317_396, Q_NB396_317, Q_NB330_396, Q_NB396_330, Q_NB346_396, Q_NB396_346, Q_BK396_e6, Q_X1_, Q_X4_, Q_X5_⟩ hb_ hon hoff
               refine ⟨_, rfl, fun K hK => ?_⟩
               have e12 : a.tmps[12]? = some (m5_) := by rw [ha]; exact putSel_on (e := (5, 12, m5_)) 5 rfl rfl (hon 5 (by kernel_rfl)) rfl
               rw [Q_X5_ (hon 5 (by kernel_rfl))] at e12
               have e69 : a.tmps[69]? = some (m4_) := by rw [ha]; exact putSel_on (e := (4, 69, m4_)) 4 rfl rfl (hon 4 (by kernel_rfl)) rfl
               rw [Q_X4_ (hon 4 (by kernel_rfl))] at e69
               replace ha := Aside0.mk ha
               have BK286 := Aside0.mk Q_BK286
               have BK287 := Aside0.mk Q_BK287
               have BK317 := Aside0.mk Q_BK317
               have BK330 := Aside0.mk Q_BK330
               have BK346 := Aside0.mk Q_BK346
               have HB := Aside0.mk Q_HB
               have HO375 := Aside0.mk (Q_HO375_e4 (hon 4 (by kernel_rfl)))
               have HO378 := Aside0.mk (Q_HO378_e4 (hon 4 (by kernel_rfl)))
               have HO390 := Aside0.mk (Q_HO390 (hon 4 (by kernel_rfl)))
               have HO393 := Aside0.mk (Q_HO393 (hon 4 (by kernel_rfl)))
               have HO_318004 := Aside0.mk (Q_HO_318004_e4 (hon 4 (by kernel_rfl)))
               have HO_318005 := Aside0.mk (Q_HO_318005_e4 (hon 4 (by kernel_rfl)))
               have HO_331004 := Aside0.mk (Q_HO_331004_e4 (hon 4 (by kernel_rfl)))
               have HO_331005 := Aside0.mk (Q_HO_331005_e4 (hon 4 (by kernel_rfl)))
               have HO_347004 := Aside0.mk (Q_HO_347004_e4 (hon 4 (by kernel_rfl)))
               have HO_347005 := Aside0.mk (Q_HO_347005_e4 (hon 4 (by kernel_rfl)))
               have BK396 := Aside0.mk (Q_BK396 (hon 5 (by kernel_rfl)) hb_)
               have GW396 := Aside0.mk (Q_GW396 (hon 5 (by kernel_rfl)))
               have IGW396 := gI_ GW396
               have GE396 := Aside0.mk (Q_GE396 (hon 5 (by kernel_rfl)))
               have IGE396 := gI_ GE396
               have NB286_396 := Aside0.mk (Q_NB286_396 (hon 5 (by kernel_rfl)))
               have NB396_286 := Aside0.mk (Q_NB396_286 (hon 5 (by kernel_rfl)))
               have NB287_396 := Aside0.mk (Q_NB287_396 (hon 5 (by kernel_rfl)))
               have NB396_287 := Aside0.mk (Q_NB396_287 (hon 5 (by kernel_rfl)))
               have NB317_396 := Aside0.mk (Q_NB317_396 (hon 5 (by kernel_rfl)))
               have NB396_317 := Aside0.mk (Q_NB396_317 (hon 5 (by kernel_rfl)))
               have NB330_396 := Aside0.mk (Q_NB330_396 (hon 5 (by kernel_rfl)))
               have NB396_330 := Aside0.mk (Q_NB396_330 (hon 5 (by kernel_rfl)))
               have NB346_396 := Aside0.mk (Q_NB346_396 (hon 5 (by kernel_rfl)))
               have NB396_346 := Aside0.mk (Q_NB396_346 (hon 5 (by kernel_rfl)))
               obtain ⟨Ao139, co139, eo139⟩ := Kd.R_slice HO390.out
               (first | subst eo139 | (injection eo139 with f1_ f2_ f3_; have f4_ := f1_.symm; have f5_ := f3_.symm; clear f1_ f2_ f3_; subst f4_; subst f5_))
               obtain ⟨Ao141, co141, eo141⟩ := Kd.R_slice HO393.out
               (first | subst eo141 | (injection eo141 with f1_ f2_ f3_; have f4_ := f1_.symm; have f5_ := f3_.symm; clear f1_ f2_ f3_; subst f4_; subst f5_))
               have hs135 : w'.cell? ⟨gb396, 0, none⟩ = some (.int .i64 0) := (blk_cell BK396.out 0).trans rfl
               have hfs135 := blk_frozen BK396.out 0
               have hns135_0 := NB286_396.out
               have hns135_1 := NB287_396.out
               have hns135_2 := NB317_396.out
               have hns135_3 := NB330_396.out
               have hns135_4 := NB346_396.out
               have hms135_0 := NB396_286.out
               have hms135_1 := NB396_287.out
               have hms135_2 := NB396_317.out
               have hms135_3 := NB396_330.out
               have hms135_4 := NB396_346.out
               have hs136 : w'.cell? ⟨gb396, 1, none⟩ = some (.int .i64 0) := (blk_cell BK396.out 1).trans rfl
               have hfs136 := blk_frozen BK396.out 1
               have hns136_0 := NB286_396.out
               have hns136_1 := NB287_396.out
               have hns136_2 := NB317_396.out
               have hns136_3 := NB330_396.out
               have hns136_4 := NB346_396.out
               have hms136_0 := NB396_286.out
               have hms136_1 := NB396_287.out
               have hms136_2 := NB396_317.out
               have hms136_3 := NB396_330.out
               have hms136_4 := NB396_346.out
               have hs137 : w'.cell? ⟨gb396, 2, none⟩ = some (.int .i64 0) := (blk_cell BK396.out 2).trans rfl
               have hfs137 := blk_frozen BK396.out 2
               have hns137_0 := NB286_396.out
               have hns137_1 := NB287_396.out
               have hns137_2 := NB317_396.out
               have hns137_3 := NB330_396.out
               have hns137_4 := NB346_396.out
               have hms137_0 := NB396_286.out
               have hms137_1 := NB396_287.out
               have hms137_2 := NB396_317.out
               have hms137_3 := NB396_330.out
               have hms137_4 := NB396_346.out
               have hs138 : w'.cell? ⟨gb396, 3, none⟩ = some (.bool false) := (blk_cell BK396.out 3).trans rfl
               have hfs138 := blk_frozen BK396.out 3
               have hns138_0 := NB286_396.out
               have hns138_1 := NB287_396.out
               have hns138_2 := NB317_396.out
               have hns138_3 := NB330_396.out
               have hns138_4 := NB346_396.out
               have hms138_0 := NB396_286.out
               have hms138_1 := NB396_287.out
               have hms138_2 := NB396_317.out
               have hms138_3 := NB396_330.out
               have hms138_4 := NB396_346.out
               have hs140 : w'.cell? ⟨gb396, 4, none⟩ = some (.slice none 0 0) := (blk_cell BK396.out 4).trans rfl
               have hfs140 := blk_frozen BK396.out 4
               have hns140_0 := NB286_396.out
               have hns140_1 := NB287_396.out
               have hns140_2 := NB317_396.out
               have hns140_3 := NB330_396.out
               have hns140_4 := NB346_396.out
               have hms140_0 := NB396_286.out
               have hms140_1 := NB396_287.out
               have hms140_2 := NB396_317.out
               have hms140_3 := NB396_330.out
               have hms140_4 := NB396_346.out
               have hs142 : w'.cell? ⟨gb396, 5, none⟩ = some (.slice none 0 0) := (blk_cell BK396.out 5).trans rfl
               have hfs142 := blk_frozen BK396.out 5
               have hns142_0 := NB286_396.out
               have hns142_1 := NB287_396.out
               have hns142_2 := NB317_396.out
               have hns142_3 := NB330_396.out
               have hns142_4 := NB346_396.out
               have hms142_0 := NB396_286.out
               have hms142_1 := NB396_287.out
               have hms142_2 := NB396_317.out
               have hms142_3 := NB396_330.out
               have hms142_4 := NB396_346.out
               have hs143 : w'.cell? ⟨gb396, 6, none⟩ = some (.int .i64 0) := (blk_cell BK396.out 6).trans rfl
               have hfs143 := blk_frozen BK396.out 6
               have hns143_0 := NB286_396.out
               have hns143_1 := NB287_396.out
               have hns143_2 := NB317_396.out
               have hns143_3 := NB330_396.out
               have hns143_4 := NB346_396.out
               have hms143_0 := NB396_286.out
               have hms143_1 := NB396_287.out
               have hms143_2 := NB396_317.out
               have hms143_3 := NB396_330.out
               have hms143_4 := NB396_346.out
               have hs144 : w'.cell? ⟨gb396, 7, none⟩ = some (.int .i64 0) := (blk_cell BK396.out 7).trans rfl
               have hfs144 := blk_frozen BK396.out 7
               have hns144_0 := NB286_396.out
               have hns144_1 := NB287_396.out
               have hns144_2 := NB317_396.out
               have hns144_3 := NB330_396.out
               have hns144_4 := NB346_396.out
               have hms144_0 := NB396_286.out
               have hms144_1 := NB396_287.out
               have hms144_2 := NB396_317.out
               have hms144_3 := NB396_330.out
               have hms144_4 := NB396_346.out
               refine skip_ (w1 := ?_) (by rfl) rfl ?_ ?_
               rotate_left
               ·
                go_simp
                rfl
               refine hK.out _ _ ⟨v374, v377, .slice Ao139 t388.length co139, .slice Ao141 t391.length co141, gb396, m1_, m4_, m5_, (by rw [ha.out]; exact putSel_none (v := undef) rfl), xo_ (hon 1 (by kernel_rfl)), xo_ (hon 1 (by kernel_rfl)), xo_ (hon 1 (by kernel_rfl)), xo_ (hon 1 (by kernel_rfl)), xo_ (hon 1 (by kernel_rfl)), xo_ (hon 1 (by kernel_rfl)), (by (with_reducible repeat (first | refine blk_drewN ?_ _ | refine blk_drew ?_ | refine blk_alloc ?_ _)); refine Go.Proofs.YtahfemlfdpbkkaaV.blk_far8 ?_ NB286_396.out; (with_reducible repeat (first | refine blk_drewN ?_ _ | refine blk_drew ?_ | refine blk_alloc ?_ _)); exact BK286.out), (by (with_reducible repeat (first | refine blk_drewN ?_ _ | refine blk_drew ?_ | refine blk_alloc ?_ _)); refine Go.Proofs.YtahfemlfdpbkkaaV.blk_far8 ?_ NB287_396.out; (with_reducible repeat (first | refine blk_drewN ?_ _ | refine blk_drew ?_ | refine blk_alloc ?_ _)); exact BK287.out), (by (with_reducible repeat (first | refine blk_drewN ?_ _ | refine blk_drew ?_ | refine blk_alloc ?_ _)); refine Go.Proofs.YtahfemlfdpbkkaaV.blk_far8 ?_ NB317_396.out; (with_reducible repeat (first | refine blk_drewN ?_ _ | refine blk_drew ?_ | refine blk_alloc ?_ _)); exact BK317.out), (by (with_reducible repeat (first | refine blk_drewN ?_ _ | refine blk_drew ?_ | refine blk_alloc ?_ _)); refine Go.Proofs.YtahfemlfdpbkkaaV.blk_far8 ?_ NB330_396.out; (with_reducible repeat (first | refine blk_drewN ?_ _ | refine blk_drew ?_ | refine blk_alloc ?_ _)); exact BK330.out), (by (with_reducible repeat (first | refine blk_drewN ?_ _ | refine blk_drew ?_ | refine blk_alloc ?_ _)); refine Go.Proofs.YtahfemlfdpbkkaaV.blk_far8 ?_ NB346_396.out; (with_reducible repeat (first | refine blk_drewN ?_ _ | refine blk_drew ?_ | refine blk_alloc ?_ _)); exact BK346.out), (qB HB), fun _ => xo_ (hon 4 (by kernel_rfl)), fun _ => xo_ (hon 4 (by kernel_rfl)), fun _ => xo_ (hon 4 (by kernel_rfl)), fun _ => xo_ (hon 4 (by kernel_rfl)), fun _ => xo_ (hon 4 (by kernel_rfl)), fun _ => xo_ (hon 4 (by kernel_rfl)), fun _ => xo_ (hon 4 (by kernel_rfl)), fun _ => xo_ (hon 4 (by kernel_rfl)), fun _ => (by (with_reducible repeat (first | apply Kd.R_alloc | apply Kd.R_drewN | apply Kd.R_drew)); exact Kd.R_mono (Go.Proofs.YtahfemlfdpbkkaaV.R_far8 (g := gb396) (Kd.R_types HO375.out BK396.out (by decide)) (fun _ hk => hk.2)) (fun _ hk => ⟨hk.1.1, ⟨hk.1.2.1, ⟨hk.1.2.2.1, ⟨hk.1.2.2.2.1, ⟨hk.1.2.2.2.2.1, ⟨hk.1.2.2.2.2.2.1, ⟨hk.1.2.2.2.2.2.2.1, ⟨hk.1.2.2.2.2.2.2.2.1, hk.1.2.2.2.2.2.2.2.2⟩⟩⟩⟩⟩⟩⟩⟩)), fun _ => (by (with_reducible repeat (first | apply Kd.R_alloc | apply Kd.R_drewN | apply Kd.R_drew)); exact Kd.R_mono (Go.Proofs.YtahfemlfdpbkkaaV.R_far8 (g := gb396) (Kd.R_types HO378.out BK396.out (by decide)) (fun _ hk => hk.2)) (fun _ hk => ⟨hk.1.1, ⟨hk.1.2.1, ⟨hk.1.2.2.1, ⟨hk.1.2.2.2.1, ⟨hk.1.2.2.2.2.1, ⟨hk.1.2.2.2.2.2.1, ⟨hk.1.2.2.2.2.2.2.1, ⟨hk.1.2.2.2.2.2.2.2.1, hk.1.2.2.2.2.2.2.2.2⟩⟩⟩⟩⟩⟩⟩⟩)), fun _ => (by (with_reducible repeat (first | apply Kd.R_alloc | apply Kd.R_drewN | apply Kd.R_drew)); exact Kd.R_mono (Go.Proofs.YtahfemlfdpbkkaaV.R_far8 (g := gb396) (Kd.R_types HO390.out BK396.out (by decide)) (fun _ hk => hk.2)) (fun _ hk => ⟨hk.1.1, ⟨hk.1.2.1, ⟨hk.1.2.2.1, ⟨hk.1.2.2.2.1, ⟨hk.1.2.2.2.2.1, ⟨hk.1.2.2.2.2.2.1, ⟨hk.1.2.2.2.2.2.2.1, ⟨hk.1.2.2.2.2.2.2.2.1, hk.1.2.2.2.2.2.2.2.2⟩⟩⟩⟩⟩⟩⟩⟩)), fun _ => (by (with_reducible repeat (first | apply Kd.R_alloc | apply Kd.R_drewN | apply Kd.R_drew)); exact Kd.R_mono (Go.Proofs.YtahfemlfdpbkkaaV.R_far8 (g := gb396) (Kd.R_types HO393.out BK396.out (by decide)) (fun _ hk => hk.2)) (fun _ hk => ⟨hk.1.1, ⟨hk.1.2.1, ⟨hk.1.2.2.1, ⟨hk.1.2.2.2.1, ⟨hk.1.2.2.2.2.1, ⟨hk.1.2.2.2.2.2.1, ⟨hk.1.2.2.2.2.2.2.1, ⟨hk.1.2.2.2.2.2.2.2.1, hk.1.2.2.2.2.2.2.2.2⟩⟩⟩⟩⟩⟩⟩⟩)), fun _ => (by (with_reducible repeat (first | apply Kd.R_alloc | apply Kd.R_drewN | apply Kd.R_drew)); exact Kd.R_mono (Go.Proofs.YtahfemlfdpbkkaaV.R_far8 (g := gb396) (Kd.R_types HO_318004.out BK396.out (by decide)) (fun _ hk => hk.2)) (fun _ hk => ⟨hk.1.1, ⟨hk.1.2.1, ⟨hk.1.2.2.1, ⟨hk.1.2.2.2.1, ⟨hk.1.2.2.2.2.1, ⟨hk.1.2.2.2.2.2.1, ⟨hk.1.2.2.2.2.2.2.1, ⟨hk.1.2.2.2.2.2.2.2.1, hk.1.2.2.2.2.2.2.2.2⟩⟩⟩⟩⟩⟩⟩⟩)), fun _ => (by (with_reducible repeat (first | apply Kd.R_alloc | apply Kd.R_drewN | apply Kd.R_drew)); exact Kd.R_mono (Go.Proofs.YtahfemlfdpbkkaaV.R_far8 (g := gb396) (Kd.R_types HO_318005.out BK396.out (by decide)) (fun _ hk => hk.2)) (fun _ hk => ⟨hk.1.1, ⟨hk.1.2.1, ⟨hk.1.2.2.1, ⟨hk.1.2.2.2.1, ⟨hk.1.2.2.2.2.1, ⟨hk.1.2.2.2.2.2.1, ⟨hk.1.2.2.2.2.2.2.1, ⟨hk.1.2.2.2.2.2.2.2.1, hk.1.2.2.2.2.2.2.2.2⟩⟩⟩⟩⟩⟩⟩⟩)), fun _ => (by (with_reducible repeat (first | apply Kd.R_alloc | apply Kd.R_drewN | apply Kd.R_drew)); exact Kd.R_mono (Go.Proofs.YtahfemlfdpbkkaaV.R_far8 (g := gb396) (Kd.R_types HO_331004.out BK396.out (by decide)) (fun _ hk => hk.2)) (fun _ hk => ⟨hk.1.1, ⟨hk.1.2.1, ⟨hk.1.2.2.1, ⟨hk.1.2.2.2.1, ⟨hk.1.2.2.2.2.1, ⟨hk.1.2.2.2.2.2.1, ⟨hk.1.2.2.2.2.2.2.1, ⟨hk.1.2.2.2.2.2.2.2.1, hk.1.2.2.2.2.2.2.2.2⟩⟩⟩⟩⟩⟩⟩⟩)), fun _ => (by (with_reducible repeat (first | apply Kd.R_alloc | apply Kd.R_drewN | apply Kd.R_drew)); exact Kd.R_mono (Go.Proofs.YtahfemlfdpbkkaaV.R_far8 (g := gb396) (Kd.R_types HO_331005.out BK396.out (by decide)) (fun _ hk => hk.2)) (fun _ hk => ⟨hk.1.1, ⟨hk.1.2.1, ⟨hk.1.2.2.1, ⟨hk.1.2.2.2.1, ⟨hk.1.2.2.2.2.1, ⟨hk.1.2.2.2.2.2.1, ⟨hk.1.2.2.2.2.2.2.1, ⟨hk.1.2.2.2.2.2.2.2.1, hk.1.2.2.2.2.2.2.2.2⟩⟩⟩⟩⟩⟩⟩⟩)), fun _ => (by (with_reducible repeat (first | apply Kd.R_alloc | apply Kd.R_drewN | apply Kd.R_drew)); exact Kd.R_mono (Go.Proofs.YtahfemlfdpbkkaaV.R_far8 (g := gb396) (Kd.R_types HO_347004.out BK396.out (by decide)) (fun _ hk => hk.2)) (fun _ hk => ⟨hk.1.1, ⟨hk.1.2.1, ⟨hk.1.2.2.1, ⟨hk.1.2.2.2.1, ⟨hk.1.2.2.2.2.1, ⟨hk.1.2.2.2.2.2.1, ⟨hk.1.2.2.2.2.2.2.1, ⟨hk.1.2.2.2.2.2.2.2.1, hk.1.2.2.2.2.2.2.2.2⟩⟩⟩⟩⟩⟩⟩⟩)), fun _ => (by (with_reducible repeat (first | apply Kd.R_alloc | apply Kd.R_drewN | apply Kd.R_drew)); exact Kd.R_mono (Go.Proofs.YtahfemlfdpbkkaaV.R_far8 (g := gb396) (Kd.R_types HO_347005.out BK396.out (by decide)) (fun _ hk => hk.2)) (fun _ hk => ⟨hk.1.1, ⟨hk.1.2.1, ⟨hk.1.2.2.1, ⟨hk.1.2.2.2.1, ⟨hk.1.2.2.2.2.1, ⟨hk.1.2.2.2.2.2.1, ⟨hk.1.2.2.2.2.2.2.1, ⟨hk.1.2.2.2.2.2.2.2.1, hk.1.2.2.2.2.2.2.2.2⟩⟩⟩⟩⟩⟩⟩⟩)), fun _ => xo_ (up_self b 6), fun _ => GW396.out, fun _ => GE396.out, fun _ => NB286_396.out, fun _ => NB396_286.out, fun _ => NB287_396.out, fun _ => NB396_287.out, fun _ => NB317_396.out, fun _ => NB396_317.out, fun _ => NB330_396.out, fun _ => NB396_330.out, fun _ => NB346_396.out, fun _ => NB396_346.out, fun _ => (by (with_reducible repeat (first | refine blk_drewN ?_ _ | refine blk_drew ?_ | refine blk_alloc ?_ _)); refine Go.Proofs.YtahfemlfdpbkkaaV.blk_all8 (show _ = some (Go.Obj.cells #[.int .i64 0, .int .i64 0, .int .i64 0, .bool false, .slice none 0 0, .slice none 0 0, .int .i64 0, .int .i64 0] _ (0, 0)) from ?_); (with_reducible repeat (first | refine blk_drewN ?_ _ | refine blk_drew ?_ | refine blk_alloc ?_ _)); exact BK396.out), Q_X1_, Q_X4_, Q_X5_⟩
              exact steps_nil
             rintro b a w144 hall ⟨v374, v377, v389, v392, gb396, m1_, m4_, m5_, ha, Q_HO_318004, Q_HO_318005, Q_HO_331004, Q_HO_331005, Q_HO_347004, Q_HO_347005, Q_BK286, Q_BK287, Q_BK317, Q_BK330, Q_BK346, Q_HB, Q_HO375, Q_HO378, Q_HO_318004_e1, Q_HO_318005_e1, Q_HO_331004_e1, Q_HO_331005_e1, Q_HO_347004_e1, Q_HO_347005_e1, Q_HO375_e4, Q_HO378_e4, Q_HO390, Q_HO393, Q_HO_318004_e4, Q_HO_318005_e4, Q_HO_331004_e4, Q_HO_331005_e4, Q_HO_347004_e4, Q_HO_347005_e4, Q_BK396, Q_GW396, Q_GE396, Q_NB286_396, Q_NB396_286, Q_NB287_396, Q_NB396_287, Q_NB317_396, Q_NB396_317, Q_NB330_396, Q_NB396_330, Q_NB346_396, Q_NB396_346, Q_BK396_e6, Q_X1_, Q_X4_, Q_X5_⟩
             clear BK286 BK287 BK317 BK330 BK346 HB HO_318004 HO_318005 HO_331004 HO_331005 HO_347004 HO_347005
             have hb0_ := hall 0 (by kernel_rfl)
             have hb1_ := hall 1 (by kernel_rfl)
             have hb2_ := hall 2 (by kernel_rfl)
             have hb3_ := hall 3 (by kernel_rfl)
             have hb4_ := hall 4 (by kernel_rfl)
             have hb5_ := hall 5 (by kernel_rfl)
             have hb6_ := hall 6 (by kernel_rfl)
             subst ha
             obtain rfl := Q_X1_ hb1_
             obtain rfl := Q_X4_ hb4_
             obtain rfl := Q_X5_ hb5_
             simp only [putSel, hb0_, hb1_, hb2_, hb3_, hb4_, hb5_, hb6_, if_true, Act.put, List.setIfInBounds_toArray, List.set_cons_zero, List.set_cons_succ]
             clear Q_HO_318004
             clear Q_HO_318005
             clear Q_HO_331004
             clear Q_HO_331005
             clear Q_HO_347004
             clear Q_HO_347005
             have BK286 := Aside0.mk Q_BK286
             clear Q_BK286
             have BK287 := Aside0.mk Q_BK287
             clear Q_BK287
             have BK317 := Aside0.mk Q_BK317
             clear Q_BK317
             have BK330 := Aside0.mk Q_BK330
             clear Q_BK330
             have BK346 := Aside0.mk Q_BK346
             clear Q_BK346
             have HB := Aside0.mk Q_HB
             clear Q_HB
             clear Q_HO375
             clear Q_HO378
             clear Q_HO_318004_e1
             clear Q_HO_318005_e1
             clear Q_HO_331004_e1
             clear Q_HO_331005_e1
             clear Q_HO_347004_e1
             clear Q_HO_347005_e1
             have HO375 := Aside0.mk (Q_HO375_e4 hb4_)
             clear Q_HO375_e4
             have HO378 := Aside0.mk (Q_HO378_e4 hb4_)
             clear Q_HO378_e4
             have HO390 := Aside0.mk (Q_HO390 hb4_)
             clear Q_HO390
             have HO393 := Aside0.mk (Q_HO393 hb4_)
             clear Q_HO393
             have HO_318004 := Aside0.mk (Q_HO_318004_e4 hb4_)
             clear Q_HO_318004_e4
             have HO_318005 := Aside0.mk (Q_HO_318005_e4 hb4_)
             clear Q_HO_318005_e4
             have HO_331004 := Aside0.mk (Q_HO_331004_e4 hb4_)
             clear Q_HO_331004_e4
             have HO_331005 := Aside0.mk (Q_HO_331005_e4 hb4_)
             clear Q_HO_331005_e4
             have HO_347004 := Aside0.mk (Q_HO_347004_e4 hb4_)
             clear Q_HO_347004_e4
             have HO_347005 := Aside0.mk (Q_HO_347005_e4 hb4_)
             clear Q_HO_347005_e4
             clear Q_BK396
             have GW396 := Aside0.mk (Q_GW396 hb5_)
             have IGW396 := gI_ GW396
             clear Q_GW396
             have GE396 := Aside0.mk (Q_GE396 hb5_)
             have IGE396 := gI_ GE396
             clear Q_GE396
             have NB286_396 := Aside0.mk (Q_NB286_396 hb5_)
             clear Q_NB286_396
             have NB396_286 := Aside0.mk (Q_NB396_286 hb5_)
             clear Q_NB396_286
             have NB287_396 := Aside0.mk (Q_NB287_396 hb5_)
             clear Q_NB287_396
             have NB396_287 := Aside0.mk (Q_NB396_287 hb5_)
             clear Q_NB396_287
             have NB317_396 := Aside0.mk (Q_NB317_396 hb5_)
             clear Q_NB317_396
             have NB396_317 := Aside0.mk (Q_NB396_317 hb5_)
             clear Q_NB396_317
             have NB330_396 := Aside0.mk (Q_NB330_396 hb5_)
             clear Q_NB330_396
             have NB396_330 := Aside0.mk (Q_NB396_330 hb5_)
             clear Q_NB396_330
             have NB346_396 := Aside0.mk (Q_NB346_396 hb5_)
             clear Q_NB346_396
             have NB396_346 := Aside0.mk (Q_NB396_346 hb5_)
             clear Q_NB396_346
             have BK396 := Aside0.mk (Q_BK396_e6 hb6_)
             clear Q_BK396_e6
             clear hall hb0_ hb1_ hb2_ hb3_ hb4_ hb5_ hb6_
             have hnb145 := NB396_286.out
             have hnc145 := NB286_396.out
             have hnb146 := NB396_287.out
             have hnc146 := NB287_396.out
             have hnb147 := NB396_317.out
             have hnc147 := NB317_396.out
             have hnb148 := NB396_330.out
             have hnc148 := NB330_396.out
             have hnb149 := NB396_346.out
             have hnc149 := NB346_396.out
             obtain ⟨hcz150_0, hcz150_1, hcz150_2, hcz150_3, hcz150_4, hcz150_5, hcz150_6, hcz150_7⟩ := cz8 BK396.out
             obtain ⟨hfz150_0, hfz150_1, hfz150_2, hfz150_3, hfz150_4, hfz150_5, hfz150_6, hfz150_7⟩ := fz8 BK396.out
             have hnb151 := NB317_286.out
             have hnc151 := NB286_317.out
             have hnb152 := NB317_287.out
             have hnc152 := NB287_317.out
             have hnb153 := NB317_330.out
             have hnc153 := NB330_317.out
             obtain ⟨hcz154_0, hcz154_1, hcz154_2, hcz154_3, hcz154_4, hcz154_5, hcz154_6, hcz154_7⟩ := cz8 BK317.out
             obtain ⟨hfz154_0, hfz154_1, hfz154_2, hfz154_3, hfz154_4, hfz154_5, hfz154_6, hfz154_7⟩ := fz8 BK317.out
             obtain ⟨Ao155, co155, eo155⟩ := Kd.R_slice HO390.out
             subst eo155
             obtain ⟨Ao156, co156, eo156⟩ := Kd.R_slice HO393.out
             subst eo156
             try go_wp2_with (first | ((with_reducible refine gate_callee (f := 21) rfl ?_); refine goesL_ (some 72) rfl rfl Try.func21 (by kernel_rfl) rfl #[.agg #[.int .i64 t384, .int .i64 t385, .int .i64 t386, .bool t387, .slice Ao155 t388.length co155, .slice Ao156 t391.length co156, .int .i64 t394, .int .i64 t395], .agg #[.int .i64 t305, .int .i64 t306, .int .i64 t307, .bool t308, .slice Ao84 t309.length co84, .slice Ao85 t312.length co85, .int .i64 t315, .int .i64 t316]] rfl (by (try simp only [List.map_toArray, List.map_cons, List.map_nil]); first | done | rfl | (simp only [List.length_drop, List.length_take]; rfl)) ?_; (with_reducible refine (laws_eqSock.calls kj28 t384 t385 t386 t387 _ _ t388 _ _ t391 t394 t395 t305 t306 t307 t308 _ _ t309 _ _ t312 t315 t316 true _ ?side1 ?side2 ?side3 ?side4 ?side5 ?side6 ?side7 ?side8 A114.out).mono ?_); (case side1 => exact qC ((Kd.R_reads' HO390.out).2.2)); (case side2 => exact (Kd.R_reads' HO390.out).2.1); (case side3 => exact qC ((Kd.R_reads' HO393.out).2.2)); (case side4 => exact (Kd.R_reads' HO393.out).2.1); (case side5 => exact qC ((Kd.R_reads' HO_318004.out).2.2)); (case side6 => exact (Kd.R_reads' HO_318004.out).2.1); (case side7 => exact qC ((Kd.R_reads' HO_318005.out).2.2)); (case side8 => exact (Kd.R_reads' HO_318005.out).2.1); rintro e w157 ⟨rfl, hb⟩; refine ⟨_, rfl, ?_⟩; replace HO_318004 := am_ (Kd.R_below (qR HO_318004) hb); replace HO_318005 := am_ (Kd.R_below (qR HO_318005) hb); replace HO_331004 := am_ (Kd.R_below (qR HO_331004) hb); replace HO_331005 := am_ (Kd.R_below (qR HO_331005) hb); replace HO_347004 := am_ (Kd.R_below (qR HO_347004) hb); replace HO_347005 := am_ (Kd.R_below (qR HO_347005) hb); replace HO375 := am_ (Kd.R_below (qR HO375) hb); replace HO378 := am_ (Kd.R_below (qR HO378) hb); replace HO390 := am_ (Kd.R_below (qR HO390) hb); replace HO393 := am_ (Kd.R_below (qR HO393) hb); replace BK286 := am_ (blk_below (qK BK286) hb); replace BK287 := am_ (blk_below (qK BK287) hb); replace BK317 := am_ (blk_below (qK BK317) hb); replace BK330 := am_ (blk_below (qK BK330) hb); replace BK346 := am_ (blk_below (qK BK346) hb); replace BK396 := am_ (blk_below (qK BK396) hb); replace HB := am_ (below_step (qB HB) hb); (try clear hb); (try clear hb2); (try clear hk); (try clear hi); obtain ⟨hcz158_0, hcz158_1, hcz158_2, hcz158_3, hcz158_4, hcz158_5, hcz158_6, hcz158_7⟩ := cz8 BK346.out; obtain ⟨hfz158_0, hfz158_1, hfz158_2, hfz158_3, hfz158_4, hfz158_5, hfz158_6, hfz158_7⟩ := fz8 BK346.out) | ((with_reducible refine gate_callee (f := 23) rfl ?_); refine goesL_ (some 76) rfl rfl Try.func23 (by kernel_rfl) rfl #[.agg #[.int .i64 t334, .int .i64 t335, .int .i64 t336, .bool t337, .slice Ao82 t366.length co82, .slice Ao83 t367.length co83, .int .i64 t344, .int .i64 t345], .int .i64 1] rfl (by (try simp only [List.map_toArray, List.map_cons, List.map_nil]); first | done | (rw [show t366.length = t338.length from (Kd.R_reads' HO_347004.out).1.symm, show t367.length = t341.length from (Kd.R_reads' HO_347005.out).1.symm] <;> rfl) | rfl | (simp only [List.length_drop, List.length_take]; rfl)) ?_; (with_reducible refine (laws_heldSock.calls kj28 t334 t335 t336 t337 _ _ t366 _ _ t367 t344 t345 1 t398 _ ?side1 ?side2 ?side3 ?side4 A116.out).mono ?_); (case side1 => exact qC ((Kd.R_reads' HO_347004.out).2.2)); (case side2 => rw [show t366.length = t338.length from (Kd.R_reads' HO_347004.out).1.symm]; exact (Kd.R_reads' HO_347004.out).2.1); (case side3 => exact qC ((Kd.R_reads' HO_347005.out).2.2)); (case side4 => rw [show t367.length = t341.length from (Kd.R_reads' HO_347005.out).1.symm]; exact (Kd.R_reads' HO_347005.out).2.1); rintro e w159 ⟨rfl, hb⟩; refine ⟨_, rfl, ?_⟩; replace HO_318004 := am_ (Kd.R_below (qR HO_318004) hb); replace HO_318005 := am_ (Kd.R_below (qR HO_318005) hb); replace HO_331004 := am_ (Kd.R_below (qR HO_331004) hb); replace HO_331005 := am_ (Kd.R_below (qR HO_331005) hb); replace HO_347004 := am_ (Kd.R_below (qR HO_347004) hb); replace HO_347005 := am_ (Kd.R_below (qR HO_347005) hb); replace HO375 := am_ (Kd.R_below (qR HO375) hb); replace HO378 := am_ (Kd.R_below (qR HO378) hb); replace HO390 := am_ (Kd.R_below (qR HO390) hb); replace HO393 := am_ (Kd.R_below (qR HO393) hb); replace BK286 := am_ (blk_below (qK BK286) hb); replace BK287 := am_ (blk_below (qK BK287) hb); replace BK317 := am_ (blk_below (qK BK317) hb); replace BK330 := am_ (blk_below (qK BK330) hb); replace BK346 := am_ (blk_below (qK BK346) hb); replace BK396 := am_ (blk_below (qK BK396) hb); replace HB := am_ (below_step (qB HB) hb); (try clear hb); (try clear hb2); (try clear hk); (try clear hi)))
             go_ret
             exact ⟨by first | rfl | (simp [errW_none, errW_some] <;> rfl) | (simp [*, errW_none, errW_some] <;> rfl), qB HB⟩
            ·
             rw [if_neg c118] at H
             have c118b0 : (t398 == t365) = false := beq_eq_false_iff_ne.mpr c118
             have c118b1 : (t398 != t365) = true := bne_iff_ne.mpr c118
             exact absurd (hr_.out ▸ H) (by simp)
          ·
           replace c115 := Bool.eq_false_iff.mpr c115
           subst c115
           have H1 : (some false) = some r := by rw [if_neg (show ¬ (false = true) by decide)] at H; exact H
           clear H
           have H := H1
           clear H1
           exact absurd (hr_.out ▸ H) (by simp)
         ·
          rw [if_neg c110] at H
          have c110b0 : (t368 == t365) = false := beq_eq_false_iff_ne.mpr c110
          have c110b1 : (t368 != t365) = true := bne_iff_ne.mpr c110
          exact absurd (hr_.out ▸ H) (by simp)
    ·
     replace c27 := Bool.eq_false_iff.mpr c27
     subst c27
     have H1 : (some false) = some r := by rw [if_neg (show ¬ (false = true) by decide)] at H; exact H
     clear H
     have H := H1
     clear H1
     exact absurd (hr_.out ▸ H) (by simp)
   ·
    replace c24 := Bool.eq_false_iff.mpr c24
    subst c24
    have H1 : (some false) = some r := by rw [if_neg (show ¬ (false = true) by decide)] at H; exact H
    clear H
    have H := H1
    clear H1
    exact absurd (hr_.out ▸ H) (by simp)

end Go.Proofs.Ytahfemlfdpbkkaa.PFnExactTell
