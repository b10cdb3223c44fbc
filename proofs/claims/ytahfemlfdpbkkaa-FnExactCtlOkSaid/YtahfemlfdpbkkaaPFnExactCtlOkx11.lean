-- Written by a program of this session (myprint.py, over the kit's print): contracts of FnExactCtlOk
import Derived.Test.YtahfemlfdpbkkaaPFnExactCtlOkx0
import Derived.Test.YtahfemlfdpbkkaaPFnExactCtlOkx1
import Derived.Test.YtahfemlfdpbkkaaPFnExactCtlOkx2
import Derived.Test.YtahfemlfdpbkkaaPFnExactCtlOkx8
import Derived.Test.YtahfemlfdpbkkaaPFnExactCtlOkx9
import Derived.Test.YtahfemlfdpbkkaaPFnExactCtlOkx10
namespace Go.Proofs.Ytahfemlfdpbkkaa.PFnExactCtlOk
open Go.RowKit Go.Proofs.YtahfemlfdpbkkaaW.PrintWords Go.Proofs.YtahfemlfdpbkkaaW.PrintLast Go.Proofs.YtahfemlfdpbkkaaW.PrintMore Go.Proofs.YtahfemlfdpbkkaaV
attribute [local go_sem] max2_int min2_int max_two min_two max_three min_three max_four min_four   -- for this text's walks alone
set_option linter.unusedVariables false
set_option linter.unusedSimpArgs false

attribute [local go_sem high] eqA45 eqA46
/-! ### impl_PutItem: function 27 -/
mutual
def impl_PutItem.j0 : Nat → List Int → Bool → Int → Int → ByteArray → Int → Int → Int → ByteArray → Int → Int → Int → ByteArray → Int → Int → Int → Int → Int → Option (List Int)
 | 0, _, _, _, _, _, _, _, _, _, _, _, _, _, _, _, _, _, _ => none
 | k + 1, x3, x8, x347000, x347001, x347002, x347003, x347004, x347005, x347006, x347007, x347008, x347009, x347010, x347011, x347012, x347013, x347014, x347015 => if x8 = true then ((impl_PutWord.f x3 x347001).bind fun t352 => ((some (([(x347003) % 256] : List Int) : List Int)).bind fun y355 => (if t352.length + y355.length < 140737488355328 then ((impl_PutText.f k (t352 ++ y355) x347002).bind fun t361 => ((impl_PutWord.f t361 x347004).bind fun t364 => ((impl_putSince.f t364 x347005).bind fun t367 => ((impl_PutText.f k t367 x347006).bind fun t370 => ((impl_PutWord.f t370 x347007).bind fun t373 => ((impl_PutWord.f t373 x347008).bind fun t376 => (some t376))))))) else (none)))) else (if x347000 = 2 then ((impl_LineOk.f k x347009 x347010 x347011 x347012 x347013 x347014 x347015).bind fun t379 => (if t379 = true then (if (x347001 == 0 && (x347002.toList == ([] : List UInt8) && (x347003 == 0 && (x347004 == 0 && (x347005 == 0 && (x347006.toList == ([] : List UInt8) && (x347007 == 0 && (x347008 == 0)))))))) = true then ((impl_wordOk.f x347015).bind fun t380 => (impl_PutItem.j1 k x3 t380 x347000 x347001 x347002 x347003 x347004 x347005 x347006 x347007 x347008 x347009 x347010 x347011 x347012 x347013 x347014 x347015)) else (impl_PutItem.j1 k x3 false x347000 x347001 x347002 x347003 x347004 x347005 x347006 x347007 x347008 x347009 x347010 x347011 x347012 x347013 x347014 x347015)) else (impl_PutItem.j1 k x3 false x347000 x347001 x347002 x347003 x347004 x347005 x347006 x347007 x347008 x347009 x347010 x347011 x347012 x347013 x347014 x347015))) else (impl_PutItem.j1 k x3 false x347000 x347001 x347002 x347003 x347004 x347005 x347006 x347007 x347008 x347009 x347010 x347011 x347012 x347013 x347014 x347015))
def impl_PutItem.j1 : Nat → List Int → Bool → Int → Int → ByteArray → Int → Int → Int → ByteArray → Int → Int → Int → ByteArray → Int → Int → Int → Int → Int → Option (List Int)
 | 0, _, _, _, _, _, _, _, _, _, _, _, _, _, _, _, _, _, _ => none
 | k + 1, x3, x66, x347000, x347001, x347002, x347003, x347004, x347005, x347006, x347007, x347008, x347009, x347010, x347011, x347012, x347013, x347014, x347015 => if x66 = true then ((impl_PutWord.f x3 x347009).bind fun t381 => ((some (([(x347012) % 256] : List Int) : List Int)).bind fun y384 => (if t381.length + y384.length < 140737488355328 then ((impl_PutText.f k (t381 ++ y384) x347010).bind fun t390 => ((impl_PutWord.f t390 x347011).bind fun t393 => ((impl_putSince.f t393 x347013).bind fun t396 => ((impl_PutWord.f t396 x347014).bind fun t399 => ((impl_PutWord.f t399 x347015).bind fun t402 => (some t402)))))) else (none)))) else (some (([] : List Int)))
end
def impl_PutItem.f (k : Nat) (a0_0 : Int) (a0_1 : Int) (a0_2 : ByteArray) (a0_3 : Int) (a0_4 : Int) (a0_5 : Int) (a0_6 : ByteArray) (a0_7 : Int) (a0_8 : Int) (a0_9 : Int) (a0_10 : ByteArray) (a0_11 : Int) (a0_12 : Int) (a0_13 : Int) (a0_14 : Int) (a0_15 : Int) : Option (List Int) := (some (([(a0_0) % 256] : List Int) : List Int)).bind fun y347 => (if a0_0 = 1 then ((impl_AskerOk.f k a0_1 a0_2 a0_3 a0_4 a0_5 a0_6 a0_7 a0_8).bind fun t350 => (if t350 = true then (if (a0_9 == 0 && (a0_10.toList == ([] : List UInt8) && (a0_11 == 0 && (a0_12 == 0 && (a0_13 == 0 && (a0_14 == 0 && (a0_15 == 0))))))) = true then ((impl_wordOk.f a0_8).bind fun t351 => (impl_PutItem.j0 k y347 t351 a0_0 a0_1 a0_2 a0_3 a0_4 a0_5 a0_6 a0_7 a0_8 a0_9 a0_10 a0_11 a0_12 a0_13 a0_14 a0_15)) else (impl_PutItem.j0 k y347 false a0_0 a0_1 a0_2 a0_3 a0_4 a0_5 a0_6 a0_7 a0_8 a0_9 a0_10 a0_11 a0_12 a0_13 a0_14 a0_15)) else (impl_PutItem.j0 k y347 false a0_0 a0_1 a0_2 a0_3 a0_4 a0_5 a0_6 a0_7 a0_8 a0_9 a0_10 a0_11 a0_12 a0_13 a0_14 a0_15))) else (impl_PutItem.j0 k y347 false a0_0 a0_1 a0_2 a0_3 a0_4 a0_5 a0_6 a0_7 a0_8 a0_9 a0_10 a0_11 a0_12 a0_13 a0_14 a0_15))
theorem impl_PutItem.mono_l : ∀ k, (∀ y0 y1 y2 y3 y4 y5 y6 y7 y8 y9 y10 y11 y12 y13 y14 y15 y16 y17, LeO (impl_PutItem.j0 k y0 y1 y2 y3 y4 y5 y6 y7 y8 y9 y10 y11 y12 y13 y14 y15 y16 y17) (impl_PutItem.j0 (k + 1) y0 y1 y2 y3 y4 y5 y6 y7 y8 y9 y10 y11 y12 y13 y14 y15 y16 y17)) ∧ (∀ y0 y1 y2 y3 y4 y5 y6 y7 y8 y9 y10 y11 y12 y13 y14 y15 y16 y17, LeO (impl_PutItem.j1 k y0 y1 y2 y3 y4 y5 y6 y7 y8 y9 y10 y11 y12 y13 y14 y15 y16 y17) (impl_PutItem.j1 (k + 1) y0 y1 y2 y3 y4 y5 y6 y7 y8 y9 y10 y11 y12 y13 y14 y15 y16 y17))
 | 0 => ⟨fun _ _ _ _ _ _ _ _ _ _ _ _ _ _ _ _ _ _ r h => by simp [impl_PutItem.j0] at h, fun _ _ _ _ _ _ _ _ _ _ _ _ _ _ _ _ _ _ r h => by simp [impl_PutItem.j1] at h⟩
 | k + 1 => by
  obtain ⟨ih0, ih1⟩ := impl_PutItem.mono_l k
  refine ⟨?_, ?_⟩
  ·
   intro y0 y1 y2 y3 y4 y5 y6 y7 y8 y9 y10 y11 y12 y13 y14 y15 y16 y17
   unfold impl_PutItem.j0
   repeat' first
   | (with_reducible exact ih0 _ _ _ _ _ _ _ _ _ _ _ _ _ _ _ _ _ _)
   | (with_reducible exact ih1 _ _ _ _ _ _ _ _ _ _ _ _ _ _ _ _ _ _)
   | (with_reducible exact impl_AskerOk.mono _ _ _ _ _ _ _ _ _)
   | (with_reducible exact impl_LineOk.mono _ _ _ _ _ _ _ _)
   | (with_reducible exact impl_PutText.mono _ _ _)
   | (with_reducible exact LeO.refl _)
   | (with_reducible exact LeO.none _)
   | (with_reducible refine LeO.ite ?_ ?_)
   | (with_reducible refine LeO.bind ?_ (fun _ => ?_))
   | exact ih0 _ _ _ _ _ _ _ _ _ _ _ _ _ _ _ _ _ _
   | exact ih1 _ _ _ _ _ _ _ _ _ _ _ _ _ _ _ _ _ _
   | exact impl_AskerOk.mono _ _ _ _ _ _ _ _ _
   | exact impl_LineOk.mono _ _ _ _ _ _ _ _
   | exact impl_PutText.mono _ _ _
   | exact LeO.none _
   | refine LeO.ite ?_ ?_
   | refine LeO.bind ?_ (fun _ => ?_)
  ·
   intro y0 y1 y2 y3 y4 y5 y6 y7 y8 y9 y10 y11 y12 y13 y14 y15 y16 y17
   unfold impl_PutItem.j1
   repeat' first
   | (with_reducible exact ih0 _ _ _ _ _ _ _ _ _ _ _ _ _ _ _ _ _ _)
   | (with_reducible exact ih1 _ _ _ _ _ _ _ _ _ _ _ _ _ _ _ _ _ _)
   | (with_reducible exact impl_AskerOk.mono _ _ _ _ _ _ _ _ _)
   | (with_reducible exact impl_LineOk.mono _ _ _ _ _ _ _ _)
   | (with_reducible exact impl_PutText.mono _ _ _)
   | (with_reducible exact LeO.refl _)
   | (with_reducible exact LeO.none _)
   | (with_reducible refine LeO.ite ?_ ?_)
   | (with_reducible refine LeO.bind ?_ (fun _ => ?_))
   | exact ih0 _ _ _ _ _ _ _ _ _ _ _ _ _ _ _ _ _ _
   | exact ih1 _ _ _ _ _ _ _ _ _ _ _ _ _ _ _ _ _ _
   | exact impl_AskerOk.mono _ _ _ _ _ _ _ _ _
   | exact impl_LineOk.mono _ _ _ _ _ _ _ _
   | exact impl_PutText.mono _ _ _
   | exact LeO.none _
   | refine LeO.ite ?_ ?_
   | refine LeO.bind ?_ (fun _ => ?_)
theorem impl_PutItem.mono : ∀ a0 a1 a2 a3 a4 a5 a6 a7 a8 a9 a10 a11 a12 a13 a14 a15 k, LeO (impl_PutItem.f k a0 a1 a2 a3 a4 a5 a6 a7 a8 a9 a10 a11 a12 a13 a14 a15) (impl_PutItem.f (k + 1) a0 a1 a2 a3 a4 a5 a6 a7 a8 a9 a10 a11 a12 a13 a14 a15) := by
 intro a0 a1 a2 a3 a4 a5 a6 a7 a8 a9 a10 a11 a12 a13 a14 a15 k
 obtain ⟨ih0, ih1⟩ := impl_PutItem.mono_l k
 unfold impl_PutItem.f
 repeat' first
   | (with_reducible exact ih0 _ _ _ _ _ _ _ _ _ _ _ _ _ _ _ _ _ _)
   | (with_reducible exact ih1 _ _ _ _ _ _ _ _ _ _ _ _ _ _ _ _ _ _)
   | (with_reducible exact impl_AskerOk.mono _ _ _ _ _ _ _ _ _)
   | (with_reducible exact impl_LineOk.mono _ _ _ _ _ _ _ _)
   | (with_reducible exact impl_PutText.mono _ _ _)
   | (with_reducible exact LeO.refl _)
   | (with_reducible exact LeO.none _)
   | (with_reducible refine LeO.ite ?_ ?_)
   | (with_reducible refine LeO.bind ?_ (fun _ => ?_))
   | exact ih0 _ _ _ _ _ _ _ _ _ _ _ _ _ _ _ _ _ _
   | exact ih1 _ _ _ _ _ _ _ _ _ _ _ _ _ _ _ _ _ _
   | exact impl_AskerOk.mono _ _ _ _ _ _ _ _ _
   | exact impl_LineOk.mono _ _ _ _ _ _ _ _
   | exact impl_PutText.mono _ _ _
   | exact LeO.none _
   | refine LeO.ite ?_ ?_
   | refine LeO.bind ?_ (fun _ => ?_)
def impl_PutItem.T3 : Bool × List (List Nat × List Nat) := (true, [([], []), ([], []), ([1], [1]), ([2], [2]), ([0, 3], [0, 3]), ([], []), ([5], [5]), ([6], [6]), ([7], [7]), ([8], [8]), ([4, 9, 4], [4, 9]), ([], []), ([11], [11]), ([12], [12]), ([10, 13, 10], [10, 13]), ([14, 14, 0, 1, 2, 3, 4, 5, 6, 7, 8, 9, 10, 11, 12, 13, 14], [0, 14])])
def impl_PutItem.B3 : List Nat := [0, 0, 2, 6, 15, 0, 32, 96, 224, 480, 1023, 0, 2048, 6144, 16383, 32767]
theorem impl_PutItem.tab3 : rtab .any (opsOf Try.f27 3) = impl_PutItem.T3 := by kernel_rfl
theorem impl_PutItem.bits3 : waitsOk impl_PutItem.T3.2 impl_PutItem.B3 = true := by kernel_rfl
def impl_PutItem.T4 : Bool × List (List Nat × List Nat) := (true, [([], []), ([], []), ([1], [1]), ([2], [2]), ([0, 3], [0, 3]), ([], []), ([5], [5]), ([6], [6]), ([4, 7, 4], [4, 7]), ([], []), ([9], [9]), ([10], [10]), ([8, 11, 8], [8, 11]), ([12, 12, 0, 1, 2, 3, 4, 5, 6, 7, 8, 9, 10, 11, 12], [0, 12])])
def impl_PutItem.B4 : List Nat := [0, 0, 2, 6, 15, 0, 32, 96, 255, 0, 512, 1536, 4095, 8191]
theorem impl_PutItem.tab4 : rtab .any (opsOf Try.f27 4) = impl_PutItem.T4 := by kernel_rfl
theorem impl_PutItem.bits4 : waitsOk impl_PutItem.T4.2 impl_PutItem.B4 = true := by kernel_rfl
def impl_PutItem.T5 : Bool × List (List Nat × List Nat) := (true, [([], []), ([], []), ([1], [1]), ([2], [2]), ([0, 3], [0, 3]), ([], []), ([5], [5]), ([6], [6]), ([4, 7, 4], [4, 7]), ([8, 8, 0, 1, 2, 3, 4, 5, 6, 7, 8], [8])])
def impl_PutItem.B5 : List Nat := [0, 0, 2, 6, 15, 0, 32, 96, 255, 511]
theorem impl_PutItem.tab5 : rtab .any (opsOf Try.f27 5) = impl_PutItem.T5 := by kernel_rfl
theorem impl_PutItem.bits5 : waitsOk impl_PutItem.T5.2 impl_PutItem.B5 = true := by kernel_rfl
def impl_PutItem.T7 : Bool × List (List Nat × List Nat) := (true, [([], []), ([], []), ([1], [1]), ([2], [2]), ([0, 3], [0, 3]), ([], []), ([5], [5]), ([6], [6]), ([7], [7]), ([8], [8]), ([4, 9, 4], [4, 9]), ([], []), ([11], [11]), ([12], [12]), ([10, 13, 10], [10, 13]), ([14, 14, 0, 1, 2, 3, 4, 5, 6, 7, 8, 9, 10, 11, 12, 13, 14], [0, 14])])
def impl_PutItem.B7 : List Nat := [0, 0, 2, 6, 15, 0, 32, 96, 224, 480, 1023, 0, 2048, 6144, 16383, 32767]
theorem impl_PutItem.tab7 : rtab .any (opsOf Try.f27 7) = impl_PutItem.T7 := by kernel_rfl
theorem impl_PutItem.bits7 : waitsOk impl_PutItem.T7.2 impl_PutItem.B7 = true := by kernel_rfl
def impl_PutItem.T8 : Bool × List (List Nat × List Nat) := (true, [([], []), ([], []), ([1], [1]), ([2], [2]), ([0, 3], [0, 3]), ([], []), ([5], [5]), ([6], [6]), ([4, 7, 4], [4, 7]), ([8, 8, 0, 1, 2, 3, 4, 5, 6, 7, 8], [0, 8])])
def impl_PutItem.B8 : List Nat := [0, 0, 2, 6, 15, 0, 32, 96, 255, 511]
theorem impl_PutItem.tab8 : rtab .any (opsOf Try.f27 8) = impl_PutItem.T8 := by kernel_rfl
theorem impl_PutItem.bits8 : waitsOk impl_PutItem.T8.2 impl_PutItem.B8 = true := by kernel_rfl
def impl_PutItem.T9 : Bool × List (List Nat × List Nat) := (true, [([], []), ([], []), ([1], [1]), ([2], [2]), ([0, 3], [0, 3]), ([], []), ([5], [5]), ([6], [6]), ([4, 7, 4], [4, 7]), ([8, 8, 0, 1, 2, 3, 4, 5, 6, 7, 8], [8])])
def impl_PutItem.B9 : List Nat := [0, 0, 2, 6, 15, 0, 32, 96, 255, 511]
theorem impl_PutItem.tab9 : rtab .any (opsOf Try.f27 9) = impl_PutItem.T9 := by kernel_rfl
theorem impl_PutItem.bits9 : waitsOk impl_PutItem.T9.2 impl_PutItem.B9 = true := by kernel_rfl
set_option maxHeartbeats 8000000 in
set_option maxRecDepth 100000 in
theorem impl_PutItem.calls (k : Nat) (a0_0 : Int) (a0_1 : Int) (a0_2 : ByteArray) (a0_3 : Int) (a0_4 : Int) (a0_5 : Int) (a0_6 : ByteArray) (a0_7 : Int) (a0_8 : Int) (a0_9 : Int) (a0_10 : ByteArray) (a0_11 : Int) (a0_12 : Int) (a0_13 : Int) (a0_14 : Int) (a0_15 : Int) (r : List Int) (w : World) (h : impl_PutItem.f k a0_0 a0_1 a0_2 a0_3 a0_4 a0_5 a0_6 a0_7 a0_8 a0_9 a0_10 a0_11 a0_12 a0_13 a0_14 a0_15 = some r) :
  Calls Try.prog 27 #[.agg #[.int .i64 a0_0, .int .i64 a0_1, .string a0_2, .int .i64 a0_3, .int .i64 a0_4, .int .i64 a0_5, .string a0_6, .int .i64 a0_7, .int .i64 a0_8, .int .i64 a0_9, .string a0_10, .int .i64 a0_11, .int .i64 a0_12, .int .i64 a0_13, .int .i64 a0_14, .int .i64 a0_15]] w fun e w' => ∃ v0_ : Value, e = .returned (v0_) ∧ Kd.R (Kd.int .u8) 5 w' w.heap.size (fun _ => True) v0_ r ∧ Below w.heap.size w w' := by
 have hu48 := Try.underlying48
 have hu45 := Try.underlying45
 have hu46 := Try.underlying46
 have HB := Aside0.mk (Below.refl w.heap.size w)
 have H : ((some (([(a0_0) % 256] : List Int) : List Int)).bind fun y347 => (if a0_0 = 1 then ((impl_AskerOk.f k a0_1 a0_2 a0_3 a0_4 a0_5 a0_6 a0_7 a0_8).bind fun t350 => (if t350 = true then (if (a0_9 == 0 && (a0_10.toList == ([] : List UInt8) && (a0_11 == 0 && (a0_12 == 0 && (a0_13 == 0 && (a0_14 == 0 && (a0_15 == 0))))))) = true then ((impl_wordOk.f a0_8).bind fun t351 => (impl_PutItem.j0 k y347 t351 a0_0 a0_1 a0_2 a0_3 a0_4 a0_5 a0_6 a0_7 a0_8 a0_9 a0_10 a0_11 a0_12 a0_13 a0_14 a0_15)) else (impl_PutItem.j0 k y347 false a0_0 a0_1 a0_2 a0_3 a0_4 a0_5 a0_6 a0_7 a0_8 a0_9 a0_10 a0_11 a0_12 a0_13 a0_14 a0_15)) else (impl_PutItem.j0 k y347 false a0_0 a0_1 a0_2 a0_3 a0_4 a0_5 a0_6 a0_7 a0_8 a0_9 a0_10 a0_11 a0_12 a0_13 a0_14 a0_15))) else (impl_PutItem.j0 k y347 false a0_0 a0_1 a0_2 a0_3 a0_4 a0_5 a0_6 a0_7 a0_8 a0_9 a0_10 a0_11 a0_12 a0_13 a0_14 a0_15))) = some r := h
 clear h
 obtain ⟨y347, hy347⟩ : ∃ y_ : List Int, y_ = (([(a0_0) % 256] : List Int)) := ⟨_, rfl⟩
 replace H : (if a0_0 = 1 then ((impl_AskerOk.f k a0_1 a0_2 a0_3 a0_4 a0_5 a0_6 a0_7 a0_8).bind fun t350 => (if t350 = true then (if (a0_9 == 0 && (a0_10.toList == ([] : List UInt8) && (a0_11 == 0 && (a0_12 == 0 && (a0_13 == 0 && (a0_14 == 0 && (a0_15 == 0))))))) = true then ((impl_wordOk.f a0_8).bind fun t351 => (impl_PutItem.j0 k y347 t351 a0_0 a0_1 a0_2 a0_3 a0_4 a0_5 a0_6 a0_7 a0_8 a0_9 a0_10 a0_11 a0_12 a0_13 a0_14 a0_15)) else (impl_PutItem.j0 k y347 false a0_0 a0_1 a0_2 a0_3 a0_4 a0_5 a0_6 a0_7 a0_8 a0_9 a0_10 a0_11 a0_12 a0_13 a0_14 a0_15)) else (impl_PutItem.j0 k y347 false a0_0 a0_1 a0_2 a0_3 a0_4 a0_5 a0_6 a0_7 a0_8 a0_9 a0_10 a0_11 a0_12 a0_13 a0_14 a0_15))) else (impl_PutItem.j0 k y347 false a0_0 a0_1 a0_2 a0_3 a0_4 a0_5 a0_6 a0_7 a0_8 a0_9 a0_10 a0_11 a0_12 a0_13 a0_14 a0_15)) = some r := by first | (rw [hy347]; with_reducible exact H) | (have H2_ := (Option.bind_some _ _).symm.trans H; rw [hy347]; with_reducible exact H2_) | (have H2_ := (Option.bind_some _ _).symm.trans H; with_reducible exact H2_) | with_reducible exact H | (rw [hy347]; exact H) | exact H
 have Ny347 := Aside0.mk hy347
 clear hy347
 have HC2 := Aside0.mk H
 clear H
 go_enter Try.func27, Try.ntmps27
 go_upto_region 2 with (first | ((with_reducible refine gate_dst (N := 1) rfl ?_); refine box_event ?hg (N := 1) ?hd (cs := #[.int .i64 a0_0, .int .i64 a0_1, .string a0_2, .int .i64 a0_3, .int .i64 a0_4, .int .i64 a0_5, .string a0_6, .int .i64 a0_7, .int .i64 a0_8, .int .i64 a0_9, .string a0_10, .int .i64 a0_11, .int .i64 a0_12, .int .i64 a0_13, .int .i64 a0_14, .int .i64 a0_15]) (t := 48) ?hr ?_; (case hd => rfl); (case hg => rfl); (case hr => first | (go_simp; done) | (go_simp; rfl)); intro gb346 hg w3 hbox hb; have BK346 := am_ (hbox); have GW346 := am_ ((gG_ hg (qB HB))); have IGW346 := gI_ GW346; have GE346 := am_ ((gG_ hg (qB HB))); have IGE346 := gI_ GE346; replace HB := am_ (below_step (qB HB) hb); clear hb hbox hg; obtain ⟨hcz4_0, hcz4_1, hcz4_2, hcz4_3, hcz4_4, hcz4_5, hcz4_6, hcz4_7, hcz4_8, hcz4_9, hcz4_10, hcz4_11, hcz4_12, hcz4_13, hcz4_14, hcz4_15⟩ := cz16 BK346.out; obtain ⟨hfz4_0, hfz4_1, hfz4_2, hfz4_3, hfz4_4, hfz4_5, hfz4_6, hfz4_7, hfz4_8, hfz4_9, hfz4_10, hfz4_11, hfz4_12, hfz4_13, hfz4_14, hfz4_15⟩ := fz16 BK346.out) | ((with_reducible refine gate_dst (N := 7) rfl ?_); refine Kd.R_lit (Kd.int .u8) _ 5 ?hg (N := 7) ?hd (xs := ([(a0_0) % 256] : List Int)) (inner := [.int .u8 ((a0_0) % 256)]) (ok := fun _ => True) (okp := fun _ => True) ?hr ?hp (fun _ hk => hk) trivial (Below.refl _ _) (Nat.le_refl _) (by simp) ?_; (case hd => rfl); (case hg => rfl); (case hr => first | (go_simp; done) | (go_simp; rfl)); (case hp => exact (Reps.one (show Kd.M (Kd.int .u8) _ _ _ ((a0_0) % 256) [.int .u8 ((a0_0) % 256)] from rfl) (Reps.none _ _))); intro v348 w5 ho6 hb hg_ hnew_; clear hg_ hnew_; (first | rw [← Ny347.out] at ho6 | (simp only [Int.reduceToNat] at ho6; rw [← Ny347.out] at ho6)); have HO349 := am_ (Kd.R_lower ho6 (below_size (qB HB))); replace BK346 := am_ (blk_below (qK BK346) hb); replace HB := am_ (below_step (qB HB) hb); clear hb ho6))
 (try simp only [Act.put, List.setIfInBounds_toArray, List.set_cons_zero, List.set_cons_succ])
 go_cut [8] (fun v8 wc => ∃ (kq : Nat) (x8_1 : Bool), v8 = .bool x8_1 ∧ Aside0 (impl_PutItem.j0 kq y347 x8_1 a0_0 a0_1 a0_2 a0_3 a0_4 a0_5 a0_6 a0_7 a0_8 a0_9 a0_10 a0_11 a0_12 a0_13 a0_14 a0_15 = some r) ∧ Aside0 (kq ≤ k) ∧ Aside0 (Kd.R (Kd.int .u8) 5 wc w.heap.size (fun _ => True) v348 y347) ∧ Aside0 (wc.heap[gb346]? = some (.cells #[.int .i64 a0_0, .int .i64 a0_1, .string a0_2, .int .i64 a0_3, .int .i64 a0_4, .int .i64 a0_5, .string a0_6, .int .i64 a0_7, .int .i64 a0_8, .int .i64 a0_9, .string a0_10, .int .i64 a0_11, .int .i64 a0_12, .int .i64 a0_13, .int .i64 a0_14, .int .i64 a0_15] 48 (0, 0))) ∧ Aside0 (Below w.heap.size w wc))
 case first =>
  have H := HC2.out
  clear HC2
  by_cases c7 : a0_0 = 1
  ·
   rw [if_pos c7] at H
   have c7b0 : (a0_0 == 1) = true := beq_iff_eq.mpr c7
   have c7b1 : (a0_0 != 1) = false := bne_eq_false_iff_eq.mpr c7
   clear c7
   (first | rw [c7b0] | (simp only [i64_w, i32_w]; rw [c7b0]) | skip)
   replace H := Option.bind_eq_some_iff.mp H
   obtain ⟨t350, A80, H⟩ := H
   replace H : (if t350 = true then (if (a0_9 == 0 && (a0_10.toList == ([] : List UInt8) && (a0_11 == 0 && (a0_12 == 0 && (a0_13 == 0 && (a0_14 == 0 && (a0_15 == 0))))))) = true then ((impl_wordOk.f a0_8).bind fun t351 => (impl_PutItem.j0 k y347 t351 a0_0 a0_1 a0_2 a0_3 a0_4 a0_5 a0_6 a0_7 a0_8 a0_9 a0_10 a0_11 a0_12 a0_13 a0_14 a0_15)) else (impl_PutItem.j0 k y347 false a0_0 a0_1 a0_2 a0_3 a0_4 a0_5 a0_6 a0_7 a0_8 a0_9 a0_10 a0_11 a0_12 a0_13 a0_14 a0_15)) else (impl_PutItem.j0 k y347 false a0_0 a0_1 a0_2 a0_3 a0_4 a0_5 a0_6 a0_7 a0_8 a0_9 a0_10 a0_11 a0_12 a0_13 a0_14 a0_15)) = some r := H
   have A8 := Aside0.mk A80
   clear A80
   by_cases c9 : t350 = true
   ·
    subst c9
    have H1 : (if (a0_9 == 0 && (a0_10.toList == ([] : List UInt8) && (a0_11 == 0 && (a0_12 == 0 && (a0_13 == 0 && (a0_14 == 0 && (a0_15 == 0))))))) = true then ((impl_wordOk.f a0_8).bind fun t351 => (impl_PutItem.j0 k y347 t351 a0_0 a0_1 a0_2 a0_3 a0_4 a0_5 a0_6 a0_7 a0_8 a0_9 a0_10 a0_11 a0_12 a0_13 a0_14 a0_15)) else (impl_PutItem.j0 k y347 false a0_0 a0_1 a0_2 a0_3 a0_4 a0_5 a0_6 a0_7 a0_8 a0_9 a0_10 a0_11 a0_12 a0_13 a0_14 a0_15)) = some r := by rw [if_pos rfl] at H; exact H
    clear H
    have H := H1
    clear H1
    by_cases c10 : (a0_9 == 0 && (a0_10.toList == ([] : List UInt8) && (a0_11 == 0 && (a0_12 == 0 && (a0_13 == 0 && (a0_14 == 0 && (a0_15 == 0))))))) = true
    ·
     rw [if_pos c10] at H
     have c10b0 : (a0_9 == 0 && (a0_10.toList == ([] : List UInt8) && (a0_11 == 0 && (a0_12 == 0 && (a0_13 == 0 && (a0_14 == 0 && (a0_15 == 0))))))) = true := c10
     (try (have c10b0e := c10b0; simp only [Go.Proofs.YtahfemlfdpbkkaaV.beq_nil, Go.Proofs.YtahfemlfdpbkkaaV.bne_nil] at c10b0e))
     (try (have c10b1 : decide (a0_9 = 0 && (a0_10.toList == ([] : List UInt8) && (a0_11 == 0 && (a0_12 == 0 && (a0_13 == 0 && (a0_14 == 0 && (a0_15 == 0))))))) = true := by simpa using c10))
     (try (have c10b1e := c10b1; simp only [Go.Proofs.YtahfemlfdpbkkaaV.beq_nil, Go.Proofs.YtahfemlfdpbkkaaV.bne_nil] at c10b1e))
     (try (have c10b2 : (a0_9 == 0 && (a0_10.toList == ([] : List UInt8) && (a0_11 == 0 && (a0_12 == 0 && (a0_13 == 0 && (a0_14 == 0 && (a0_15 == 0))))))) = true := by simpa using c10))
     (try (have c10b2e := c10b2; simp only [Go.Proofs.YtahfemlfdpbkkaaV.beq_nil, Go.Proofs.YtahfemlfdpbkkaaV.bne_nil] at c10b2e))
     clear c10
     replace H := Option.bind_eq_some_iff.mp H
     obtain ⟨t351, A110, H⟩ := H
     replace H : (impl_PutItem.j0 k y347 t351 a0_0 a0_1 a0_2 a0_3 a0_4 a0_5 a0_6 a0_7 a0_8 a0_9 a0_10 a0_11 a0_12 a0_13 a0_14 a0_15) = some r := H
     have A11 := Aside0.mk A110
     clear A110
     have H' := Aside0.mk H
     clear H
     obtain ⟨hcz12_0, hcz12_1, hcz12_2, hcz12_3, hcz12_4, hcz12_5, hcz12_6, hcz12_7, hcz12_8, hcz12_9, hcz12_10, hcz12_11, hcz12_12, hcz12_13, hcz12_14, hcz12_15⟩ := cz16 BK346.out
     obtain ⟨hfz12_0, hfz12_1, hfz12_2, hfz12_3, hfz12_4, hfz12_5, hfz12_6, hfz12_7, hfz12_8, hfz12_9, hfz12_10, hfz12_11, hfz12_12, hfz12_13, hfz12_14, hfz12_15⟩ := fz16 BK346.out
     go_wp2_with (first | (go_at_call 79; (with_reducible refine (impl_AskerOk.calls k a0_1 a0_2 a0_3 a0_4 a0_5 a0_6 a0_7 a0_8 true _ A8.out).mono ?_); rintro e w13 ⟨rfl, hb⟩; replace HO349 := am_ (Kd.R_below (qR HO349) hb); replace BK346 := am_ (blk_below (qK BK346) hb); replace HB := am_ (below_step (qB HB) hb); (try clear hb); (try clear hb2); (try clear hk); (try clear hi); obtain ⟨hcz14_0, hcz14_1, hcz14_2, hcz14_3, hcz14_4, hcz14_5, hcz14_6, hcz14_7, hcz14_8, hcz14_9, hcz14_10, hcz14_11, hcz14_12, hcz14_13, hcz14_14, hcz14_15⟩ := cz16 BK346.out; obtain ⟨hfz14_0, hfz14_1, hfz14_2, hfz14_3, hfz14_4, hfz14_5, hfz14_6, hfz14_7, hfz14_8, hfz14_9, hfz14_10, hfz14_11, hfz14_12, hfz14_13, hfz14_14, hfz14_15⟩ := fz16 BK346.out) | (go_at_call 80; (with_reducible refine (impl_wordOk.calls a0_8 t351 _ A11.out).mono ?_); rintro e w' ⟨rfl, ⟨nd, rfl⟩⟩))
     go_meet
     case rel => exact ⟨_, (t351), (by first | rfl | (simp; done) | (simp [*]; done) | (simp [Go.Proofs.YtahfemlfdpbkkaaV.bne_nil, Go.Proofs.YtahfemlfdpbkkaaV.beq_nil]; done)), H', ⟨by first | omega | exact Nat.le_refl _⟩, ⟨qR HO349⟩, ⟨qK BK346⟩, ⟨qB HB⟩⟩
    ·
     rw [if_neg c10] at H
     have c10b0 : (a0_9 == 0 && (a0_10.toList == ([] : List UInt8) && (a0_11 == 0 && (a0_12 == 0 && (a0_13 == 0 && (a0_14 == 0 && (a0_15 == 0))))))) = false := by simpa using c10
     (try (have c10b0e := c10b0; simp only [Go.Proofs.YtahfemlfdpbkkaaV.beq_nil, Go.Proofs.YtahfemlfdpbkkaaV.bne_nil] at c10b0e))
     (try (have c10b1 : decide (a0_9 = 0 && (a0_10.toList == ([] : List UInt8) && (a0_11 == 0 && (a0_12 == 0 && (a0_13 == 0 && (a0_14 == 0 && (a0_15 == 0))))))) = false := by simpa using c10))
     (try (have c10b1e := c10b1; simp only [Go.Proofs.YtahfemlfdpbkkaaV.beq_nil, Go.Proofs.YtahfemlfdpbkkaaV.bne_nil] at c10b1e))
     (try (have c10b2 : (a0_9 == 0 && (a0_10.toList == ([] : List UInt8) && (a0_11 == 0 && (a0_12 == 0 && (a0_13 == 0 && (a0_14 == 0 && (a0_15 == 0))))))) = false := by simpa using c10))
     (try (have c10b2e := c10b2; simp only [Go.Proofs.YtahfemlfdpbkkaaV.beq_nil, Go.Proofs.YtahfemlfdpbkkaaV.bne_nil] at c10b2e))
     (try (have c10b3 : ¬ (a0_9 = 0 && (a0_10.toList == ([] : List UInt8) && (a0_11 == 0 && (a0_12 == 0 && (a0_13 == 0 && (a0_14 == 0 && (a0_15 == 0))))))) := by simpa using c10))
     (try (have c10b3e := c10b3; simp only [Go.Proofs.YtahfemlfdpbkkaaV.beq_nil, Go.Proofs.YtahfemlfdpbkkaaV.bne_nil] at c10b3e))
     clear c10
     have H' := Aside0.mk H
     clear H
     obtain ⟨hcz15_0, hcz15_1, hcz15_2, hcz15_3, hcz15_4, hcz15_5, hcz15_6, hcz15_7, hcz15_8, hcz15_9, hcz15_10, hcz15_11, hcz15_12, hcz15_13, hcz15_14, hcz15_15⟩ := cz16 BK346.out
     obtain ⟨hfz15_0, hfz15_1, hfz15_2, hfz15_3, hfz15_4, hfz15_5, hfz15_6, hfz15_7, hfz15_8, hfz15_9, hfz15_10, hfz15_11, hfz15_12, hfz15_13, hfz15_14, hfz15_15⟩ := fz16 BK346.out
     go_wp2_with (first | (go_at_call 79; (with_reducible refine (impl_AskerOk.calls k a0_1 a0_2 a0_3 a0_4 a0_5 a0_6 a0_7 a0_8 true _ A8.out).mono ?_); rintro e w16 ⟨rfl, hb⟩; replace HO349 := am_ (Kd.R_below (qR HO349) hb); replace BK346 := am_ (blk_below (qK BK346) hb); replace HB := am_ (below_step (qB HB) hb); (try clear hb); (try clear hb2); (try clear hk); (try clear hi); obtain ⟨hcz17_0, hcz17_1, hcz17_2, hcz17_3, hcz17_4, hcz17_5, hcz17_6, hcz17_7, hcz17_8, hcz17_9, hcz17_10, hcz17_11, hcz17_12, hcz17_13, hcz17_14, hcz17_15⟩ := cz16 BK346.out; obtain ⟨hfz17_0, hfz17_1, hfz17_2, hfz17_3, hfz17_4, hfz17_5, hfz17_6, hfz17_7, hfz17_8, hfz17_9, hfz17_10, hfz17_11, hfz17_12, hfz17_13, hfz17_14, hfz17_15⟩ := fz16 BK346.out))
     go_meet
     case rel => exact ⟨_, (false), (by first | rfl | (simp; done) | (simp [*]; done) | (simp [Go.Proofs.YtahfemlfdpbkkaaV.bne_nil, Go.Proofs.YtahfemlfdpbkkaaV.beq_nil]; done)), H', ⟨by first | omega | exact Nat.le_refl _⟩, ⟨qR HO349⟩, ⟨qK BK346⟩, ⟨qB HB⟩⟩
   ·
    replace c9 := Bool.eq_false_iff.mpr c9
    subst c9
    have H1 : (impl_PutItem.j0 k y347 false a0_0 a0_1 a0_2 a0_3 a0_4 a0_5 a0_6 a0_7 a0_8 a0_9 a0_10 a0_11 a0_12 a0_13 a0_14 a0_15) = some r := by rw [if_neg (show ¬ (false = true) by decide)] at H; exact H
    clear H
    have H := H1
    clear H1
    have H' := Aside0.mk H
    clear H
    obtain ⟨hcz18_0, hcz18_1, hcz18_2, hcz18_3, hcz18_4, hcz18_5, hcz18_6, hcz18_7, hcz18_8, hcz18_9, hcz18_10, hcz18_11, hcz18_12, hcz18_13, hcz18_14, hcz18_15⟩ := cz16 BK346.out
    obtain ⟨hfz18_0, hfz18_1, hfz18_2, hfz18_3, hfz18_4, hfz18_5, hfz18_6, hfz18_7, hfz18_8, hfz18_9, hfz18_10, hfz18_11, hfz18_12, hfz18_13, hfz18_14, hfz18_15⟩ := fz16 BK346.out
    go_wp2_with (first | (go_at_call 79; (with_reducible refine (impl_AskerOk.calls k a0_1 a0_2 a0_3 a0_4 a0_5 a0_6 a0_7 a0_8 false _ A8.out).mono ?_); rintro e w19 ⟨rfl, hb⟩; replace HO349 := am_ (Kd.R_below (qR HO349) hb); replace BK346 := am_ (blk_below (qK BK346) hb); replace HB := am_ (below_step (qB HB) hb); (try clear hb); (try clear hb2); (try clear hk); (try clear hi)))
    go_meet
    case rel => exact ⟨_, (false), (by first | rfl | (simp; done) | (simp [*]; done) | (simp [Go.Proofs.YtahfemlfdpbkkaaV.bne_nil, Go.Proofs.YtahfemlfdpbkkaaV.beq_nil]; done)), H', ⟨by first | omega | exact Nat.le_refl _⟩, ⟨qR HO349⟩, ⟨qK BK346⟩, ⟨qB HB⟩⟩
  ·
   rw [if_neg c7] at H
   have c7b0 : (a0_0 == 1) = false := beq_eq_false_iff_ne.mpr c7
   have c7b1 : (a0_0 != 1) = true := bne_iff_ne.mpr c7
   (first | rw [c7b0] | (simp only [i64_w, i32_w]; rw [c7b0]) | skip)
   have H' := Aside0.mk H
   clear H
   obtain ⟨hcz20_0, hcz20_1, hcz20_2, hcz20_3, hcz20_4, hcz20_5, hcz20_6, hcz20_7, hcz20_8, hcz20_9, hcz20_10, hcz20_11, hcz20_12, hcz20_13, hcz20_14, hcz20_15⟩ := cz16 BK346.out
   obtain ⟨hfz20_0, hfz20_1, hfz20_2, hfz20_3, hfz20_4, hfz20_5, hfz20_6, hfz20_7, hfz20_8, hfz20_9, hfz20_10, hfz20_11, hfz20_12, hfz20_13, hfz20_14, hfz20_15⟩ := fz16 BK346.out
   go_wp2
   go_meet
   case rel => exact ⟨_, (false), (by first | rfl | (simp; done) | (simp [*]; done) | (simp [Go.Proofs.YtahfemlfdpbkkaaV.bne_nil, Go.Proofs.YtahfemlfdpbkkaaV.beq_nil]; done)), H', ⟨by first | omega | exact Nat.le_refl _⟩, ⟨qR HO349⟩, ⟨qK BK346⟩, ⟨qB HB⟩⟩
 case rest =>
  clear HC2
  try clear c1
  try clear c2
  try clear p2
  try clear c7
  try clear c7b0
  try clear c7b1
  try clear c9
  try clear c10
  try clear c10b0
  try clear c10b1
  try clear c10b2
  (try clear hcz12_0 hcz12_1 hcz12_10 hcz12_11 hcz12_12 hcz12_13 hcz12_14 hcz12_15 hcz12_2 hcz12_3 hcz12_4 hcz12_5 hcz12_6 hcz12_7 hcz12_8 hcz12_9)
  (try clear hcz14_0 hcz14_1 hcz14_10 hcz14_11 hcz14_12 hcz14_13 hcz14_14 hcz14_15 hcz14_2 hcz14_3 hcz14_4 hcz14_5 hcz14_6 hcz14_7 hcz14_8 hcz14_9)
  (try clear hcz15_0 hcz15_1 hcz15_10 hcz15_11 hcz15_12 hcz15_13 hcz15_14 hcz15_15 hcz15_2 hcz15_3 hcz15_4 hcz15_5 hcz15_6 hcz15_7 hcz15_8 hcz15_9)
  (try clear hcz17_0 hcz17_1 hcz17_10 hcz17_11 hcz17_12 hcz17_13 hcz17_14 hcz17_15 hcz17_2 hcz17_3 hcz17_4 hcz17_5 hcz17_6 hcz17_7 hcz17_8 hcz17_9)
  (try clear hcz18_0 hcz18_1 hcz18_10 hcz18_11 hcz18_12 hcz18_13 hcz18_14 hcz18_15 hcz18_2 hcz18_3 hcz18_4 hcz18_5 hcz18_6 hcz18_7 hcz18_8 hcz18_9)
  (try clear hcz20_0 hcz20_1 hcz20_10 hcz20_11 hcz20_12 hcz20_13 hcz20_14 hcz20_15 hcz20_2 hcz20_3 hcz20_4 hcz20_5 hcz20_6 hcz20_7 hcz20_8 hcz20_9)
  (try clear hcz4_0 hcz4_1 hcz4_10 hcz4_11 hcz4_12 hcz4_13 hcz4_14 hcz4_15 hcz4_2 hcz4_3 hcz4_4 hcz4_5 hcz4_6 hcz4_7 hcz4_8 hcz4_9)
  (try clear hfz12_0 hfz12_1 hfz12_10 hfz12_11 hfz12_12 hfz12_13 hfz12_14 hfz12_15 hfz12_2 hfz12_3 hfz12_4 hfz12_5 hfz12_6 hfz12_7 hfz12_8 hfz12_9)
  (try clear hfz14_0 hfz14_1 hfz14_10 hfz14_11 hfz14_12 hfz14_13 hfz14_14 hfz14_15 hfz14_2 hfz14_3 hfz14_4 hfz14_5 hfz14_6 hfz14_7 hfz14_8 hfz14_9)
  (try clear hfz15_0 hfz15_1 hfz15_10 hfz15_11 hfz15_12 hfz15_13 hfz15_14 hfz15_15 hfz15_2 hfz15_3 hfz15_4 hfz15_5 hfz15_6 hfz15_7 hfz15_8 hfz15_9)
  (try clear hfz17_0 hfz17_1 hfz17_10 hfz17_11 hfz17_12 hfz17_13 hfz17_14 hfz17_15 hfz17_2 hfz17_3 hfz17_4 hfz17_5 hfz17_6 hfz17_7 hfz17_8 hfz17_9)
  (try clear hfz18_0 hfz18_1 hfz18_10 hfz18_11 hfz18_12 hfz18_13 hfz18_14 hfz18_15 hfz18_2 hfz18_3 hfz18_4 hfz18_5 hfz18_6 hfz18_7 hfz18_8 hfz18_9)
  (try clear hfz20_0 hfz20_1 hfz20_10 hfz20_11 hfz20_12 hfz20_13 hfz20_14 hfz20_15 hfz20_2 hfz20_3 hfz20_4 hfz20_5 hfz20_6 hfz20_7 hfz20_8 hfz20_9)
  (try clear hfz4_0 hfz4_1 hfz4_10 hfz4_11 hfz4_12 hfz4_13 hfz4_14 hfz4_15 hfz4_2 hfz4_3 hfz4_4 hfz4_5 hfz4_6 hfz4_7 hfz4_8 hfz4_9)
  obtain ⟨kq, x8_1, rfl, HA, HJ1, HO_3, BK346, HB⟩ := hcut
  cases kq with
  | zero => exact absurd HA.out (by simp [impl_PutItem.j0])
  | succ kj1 =>
   have H := HA.out
   clear HA
   simp only [impl_PutItem.j0] at H
   by_cases c21 : x8_1 = true
   ·
    subst c21
    have H1 : ((impl_PutWord.f y347 a0_1).bind fun t352 => ((some (([(a0_3) % 256] : List Int) : List Int)).bind fun y355 => (if t352.length + y355.length < 140737488355328 then ((impl_PutText.f kj1 (t352 ++ y355) a0_2).bind fun t361 => ((impl_PutWord.f t361 a0_4).bind fun t364 => ((impl_putSince.f t364 a0_5).bind fun t367 => ((impl_PutText.f kj1 t367 a0_6).bind fun t370 => ((impl_PutWord.f t370 a0_7).bind fun t373 => ((impl_PutWord.f t373 a0_8).bind fun t376 => (some t376))))))) else (none)))) = some r := by rw [if_pos rfl] at H; exact H
    clear H
    have H := H1
    clear H1
    replace H := Option.bind_eq_some_iff.mp H
    obtain ⟨t352, A220, H⟩ := H
    replace H : ((some (([(a0_3) % 256] : List Int) : List Int)).bind fun y355 => (if t352.length + y355.length < 140737488355328 then ((impl_PutText.f kj1 (t352 ++ y355) a0_2).bind fun t361 => ((impl_PutWord.f t361 a0_4).bind fun t364 => ((impl_putSince.f t364 a0_5).bind fun t367 => ((impl_PutText.f kj1 t367 a0_6).bind fun t370 => ((impl_PutWord.f t370 a0_7).bind fun t373 => ((impl_PutWord.f t373 a0_8).bind fun t376 => (some t376))))))) else (none))) = some r := H
    have A22 := Aside0.mk A220
    clear A220
    obtain ⟨y355, hy355⟩ : ∃ y_ : List Int, y_ = (([(a0_3) % 256] : List Int)) := ⟨_, rfl⟩
    replace H : (if t352.length + y355.length < 140737488355328 then ((impl_PutText.f kj1 (t352 ++ y355) a0_2).bind fun t361 => ((impl_PutWord.f t361 a0_4).bind fun t364 => ((impl_putSince.f t364 a0_5).bind fun t367 => ((impl_PutText.f kj1 t367 a0_6).bind fun t370 => ((impl_PutWord.f t370 a0_7).bind fun t373 => ((impl_PutWord.f t373 a0_8).bind fun t376 => (some t376))))))) else (none)) = some r := by first | (rw [hy355]; with_reducible exact H) | (have H2_ := (Option.bind_some _ _).symm.trans H; rw [hy355]; with_reducible exact H2_) | (have H2_ := (Option.bind_some _ _).symm.trans H; with_reducible exact H2_) | with_reducible exact H | (rw [hy355]; exact H) | exact H
    have Ny355 := Aside0.mk hy355
    clear hy355
    by_cases c23 : t352.length + y355.length < 140737488355328
    ·
     rw [if_pos c23] at H
     have LMc23 := Aside0.mk c23
     clear c23
     obtain ⟨y358, hy358⟩ : ∃ y_ : List Int, y_ = (t352 ++ y355) := ⟨_, rfl⟩
     replace H : ((impl_PutText.f kj1 y358 a0_2).bind fun t361 => ((impl_PutWord.f t361 a0_4).bind fun t364 => ((impl_putSince.f t364 a0_5).bind fun t367 => ((impl_PutText.f kj1 t367 a0_6).bind fun t370 => ((impl_PutWord.f t370 a0_7).bind fun t373 => ((impl_PutWord.f t373 a0_8).bind fun t376 => (some t376))))))) = some r := by first | (rw [hy358]; with_reducible exact H) | (have H2_ := (Option.bind_some _ _).symm.trans H; rw [hy358]; with_reducible exact H2_) | (have H2_ := (Option.bind_some _ _).symm.trans H; with_reducible exact H2_) | with_reducible exact H | (rw [hy358]; exact H) | exact H
     have Ny358 := Aside0.mk hy358
     clear hy358
     replace H := Option.bind_eq_some_iff.mp H
     obtain ⟨t361, A240, H⟩ := H
     replace H : ((impl_PutWord.f t361 a0_4).bind fun t364 => ((impl_putSince.f t364 a0_5).bind fun t367 => ((impl_PutText.f kj1 t367 a0_6).bind fun t370 => ((impl_PutWord.f t370 a0_7).bind fun t373 => ((impl_PutWord.f t373 a0_8).bind fun t376 => (some t376)))))) = some r := H
     have A24 := Aside0.mk A240
     clear A240
     replace H := Option.bind_eq_some_iff.mp H
     obtain ⟨t364, A250, H⟩ := H
     replace H : ((impl_putSince.f t364 a0_5).bind fun t367 => ((impl_PutText.f kj1 t367 a0_6).bind fun t370 => ((impl_PutWord.f t370 a0_7).bind fun t373 => ((impl_PutWord.f t373 a0_8).bind fun t376 => (some t376))))) = some r := H
     have A25 := Aside0.mk A250
     clear A250
     replace H := Option.bind_eq_some_iff.mp H
     obtain ⟨t367, A260, H⟩ := H
     replace H : ((impl_PutText.f kj1 t367 a0_6).bind fun t370 => ((impl_PutWord.f t370 a0_7).bind fun t373 => ((impl_PutWord.f t373 a0_8).bind fun t376 => (some t376)))) = some r := H
     have A26 := Aside0.mk A260
     clear A260
     replace H := Option.bind_eq_some_iff.mp H
     obtain ⟨t370, A270, H⟩ := H
     replace H : ((impl_PutWord.f t370 a0_7).bind fun t373 => ((impl_PutWord.f t373 a0_8).bind fun t376 => (some t376))) = some r := H
     have A27 := Aside0.mk A270
     clear A270
     replace H := Option.bind_eq_some_iff.mp H
     obtain ⟨t373, A280, H⟩ := H
     replace H : ((impl_PutWord.f t373 a0_8).bind fun t376 => (some t376)) = some r := H
     have A28 := Aside0.mk A280
     clear A280
     replace H := Option.bind_eq_some_iff.mp H
     obtain ⟨t376, A290, H⟩ := H
     replace H : (some t376) = some r := H
     have A29 := Aside0.mk A290
     clear A290
     obtain rfl := Option.some.inj H
     obtain ⟨Ao30, co30, eo30⟩ := Kd.R_slice HO_3.out
     subst eo30
     try go_wp2
     replace HO_3 := am_ (Kd.R_drew HO_3.out)
     replace BK346 := am_ (blk_drew BK346.out)
     replace HB := am_ (below_drew1 HB.out)
     refine start_ (n := 16) (S := fun w' => w'.cell? ⟨gb346, 0, none⟩ = some (.int .i64 a0_0) ∧ w'.cell? ⟨gb346, 1, none⟩ = some (.int .i64 a0_1) ∧ w'.cell? ⟨gb346, 2, none⟩ = some (.string a0_2) ∧ w'.cell? ⟨gb346, 3, none⟩ = some (.int .i64 a0_3) ∧ w'.cell? ⟨gb346, 4, none⟩ = some (.int .i64 a0_4) ∧ w'.cell? ⟨gb346, 5, none⟩ = some (.int .i64 a0_5) ∧ w'.cell? ⟨gb346, 6, none⟩ = some (.string a0_6) ∧ w'.cell? ⟨gb346, 7, none⟩ = some (.int .i64 a0_7) ∧ w'.cell? ⟨gb346, 8, none⟩ = some (.int .i64 a0_8) ∧ w'.cell? ⟨gb346, 9, none⟩ = some (.int .i64 a0_9) ∧ w'.cell? ⟨gb346, 10, none⟩ = some (.string a0_10) ∧ w'.cell? ⟨gb346, 11, none⟩ = some (.int .i64 a0_11) ∧ w'.cell? ⟨gb346, 12, none⟩ = some (.int .i64 a0_12) ∧ w'.cell? ⟨gb346, 13, none⟩ = some (.int .i64 a0_13) ∧ w'.cell? ⟨gb346, 14, none⟩ = some (.int .i64 a0_14) ∧ w'.cell? ⟨gb346, 15, none⟩ = some (.int .i64 a0_15)) (ds := []) #[false, false, false, false, false, false, false, false, false, false, false, false, false, false, false, false] (by kernel_rfl) rfl rfl (cz16 BK346.out) (fun hHeld => ?_); refine with_tabW impl_PutItem.tab3 impl_PutItem.bits3 (fun HT_ HW_ => ?_)
     generalize wc.drew = w31 at HO_3 BK346 HB hHeld ⊢
     refine pure_ (i := 0) (N := some 29) (v := ?_) (a' := ?_) #[true, false, false, false, false, false, false, false, false, false, false, false, false, false, false, false] rfl rfl (any_of HT_.out (by kernel_rfl)) (fun _ _ _ h => h) (Or.inl ⟨by rfl, ?_⟩) ?_ ?_
     rotate_left
     ·
      intro w'
      go_simp
      with_reducible rfl
     rotate_left
     ·
      simp only [Act.put, List.setIfInBounds_toArray, List.set_cons_zero, List.set_cons_succ, i64_w, i32_w]
      rfl
     refine pure_ (i := 1) (N := some 30) (v := ?_) (a' := ?_) #[true, true, false, false, false, false, false, false, false, false, false, false, false, false, false, false] rfl rfl (any_of HT_.out (by kernel_rfl)) (fun _ _ _ h => h) (Or.inl ⟨by rfl, ?_⟩) ?_ ?_
     rotate_left
     ·
      intro w'
      go_simp
      with_reducible rfl
     rotate_left
     ·
      simp only [Act.put, List.setIfInBounds_toArray, List.set_cons_zero, List.set_cons_succ, i64_w, i32_w]
      rfl
     refine pure_ (i := 2) (N := some 31) (v := ?_) (a' := ?_) #[true, true, true, false, false, false, false, false, false, false, false, false, false, false, false, false] rfl rfl (any_of HT_.out (by kernel_rfl)) (fun _ _ _ h => h) (Or.inl ⟨by rfl, ?_⟩) ?_ ?_
     rotate_left
     ·
      intro w'
      go_simp
      with_reducible rfl
     rotate_left
     ·
      simp only [Act.put, List.setIfInBounds_toArray, List.set_cons_zero, List.set_cons_succ, i64_w, i32_w]
      rfl
     refine pure_ (i := 5) (N := some 34) (v := ?_) (a' := ?_) #[true, true, true, false, false, true, false, false, false, false, false, false, false, false, false, false] rfl rfl (any_of HT_.out (by kernel_rfl)) (fun _ _ _ h => h) (Or.inl ⟨by rfl, ?_⟩) ?_ ?_
     rotate_left
     ·
      intro w'
      go_simp
      with_reducible rfl
     rotate_left
     ·
      simp only [Act.put, List.setIfInBounds_toArray, List.set_cons_zero, List.set_cons_succ, i64_w, i32_w]
      rfl
     refine pure_ (i := 6) (N := some 35) (v := ?_) (a' := ?_) #[true, true, true, false, false, true, true, false, false, false, false, false, false, false, false, false] rfl rfl (any_of HT_.out (by kernel_rfl)) (fun _ _ _ h => h) (Or.inl ⟨by rfl, ?_⟩) ?_ ?_
     rotate_left
     ·
      intro w'
      go_simp
      with_reducible rfl
     rotate_left
     ·
      simp only [Act.put, List.setIfInBounds_toArray, List.set_cons_zero, List.set_cons_succ, i64_w, i32_w]
      rfl
     refine pure_ (i := 11) (N := some 40) (v := ?_) (a' := ?_) #[true, true, true, false, false, true, true, false, false, false, false, true, false, false, false, false] rfl rfl (any_of HT_.out (by kernel_rfl)) (fun _ _ _ h => h) (Or.inl ⟨by rfl, ?_⟩) ?_ ?_
     rotate_left
     ·
      intro w'
      go_simp
      with_reducible rfl
     rotate_left
     ·
      simp only [Act.put, List.setIfInBounds_toArray, List.set_cons_zero, List.set_cons_succ, i64_w, i32_w]
      rfl
     refine pure_ (i := 12) (N := some 41) (v := ?_) (a' := ?_) #[true, true, true, false, false, true, true, false, false, false, false, true, true, false, false, false] rfl rfl (any_of HT_.out (by kernel_rfl)) (fun _ _ _ h => h) (Or.inl ⟨by rfl, ?_⟩) ?_ ?_
     rotate_left
     ·
      intro w'
      go_simp
      with_reducible rfl
     rotate_left
     ·
      simp only [Act.put, List.setIfInBounds_toArray, List.set_cons_zero, List.set_cons_succ, i64_w, i32_w]
      rfl
     refine take_ (i := 3) (N := some 32) (v := ?_) (a' := ?_) #[true, true, true, true, false, true, true, false, false, false, false, true, true, false, false, false] rfl rfl (take_ofW HT_.out HW_.out (by kernel_rfl)) (fun _ _ _ h => h) (Or.inl ⟨by rfl, ?_⟩) hHeld ?_ ?_
     rotate_left
     ·
      rintro w' ⟨s0, s1, s2, s3, s4, s5, s6, s7, s8, s9, s10, s11, s12, s13, s14, s15⟩
      go_simp
      with_reducible rfl
     rotate_left
     ·
      simp only [Act.put, List.setIfInBounds_toArray, List.set_cons_zero, List.set_cons_succ, i64_w, i32_w]
      rfl
     refine take_ (i := 7) (N := some 36) (v := ?_) (a' := ?_) #[true, true, true, true, false, true, true, true, false, false, false, true, true, false, false, false] rfl rfl (take_ofW HT_.out HW_.out (by kernel_rfl)) (fun _ _ _ h => h) (Or.inl ⟨by rfl, ?_⟩) hHeld ?_ ?_
     rotate_left
     ·
      rintro w' ⟨s0, s1, s2, s3, s4, s5, s6, s7, s8, s9, s10, s11, s12, s13, s14, s15⟩
      go_simp
      with_reducible rfl
     rotate_left
     ·
      simp only [Act.put, List.setIfInBounds_toArray, List.set_cons_zero, List.set_cons_succ, i64_w, i32_w]
      rfl
     refine pure_ (i := 8) (N := some 37) (v := ?_) (a' := ?_) #[true, true, true, true, false, true, true, true, true, false, false, true, true, false, false, false] rfl rfl (any_of HT_.out (by kernel_rfl)) (fun _ _ _ h => h) (Or.inl ⟨by rfl, ?_⟩) ?_ ?_
     rotate_left
     ·
      intro w'
      go_simp
      with_reducible rfl
     rotate_left
     ·
      simp only [Act.put, List.setIfInBounds_toArray, List.set_cons_zero, List.set_cons_succ, i64_w, i32_w]
      rfl
     refine take_ (i := 13) (N := some 42) (v := ?_) (a' := ?_) #[true, true, true, true, false, true, true, true, true, false, false, true, true, true, false, false] rfl rfl (take_ofW HT_.out HW_.out (by kernel_rfl)) (fun _ _ _ h => h) (Or.inl ⟨by rfl, ?_⟩) hHeld ?_ ?_
     rotate_left
     ·
      rintro w' ⟨s0, s1, s2, s3, s4, s5, s6, s7, s8, s9, s10, s11, s12, s13, s14, s15⟩
      go_simp
      with_reducible rfl
     rotate_left
     ·
      simp only [Act.put, List.setIfInBounds_toArray, List.set_cons_zero, List.set_cons_succ, i64_w, i32_w]
      rfl
     refine join_ (σ := Value × Value) 3 #[true, true, true, true, true, true, true, true, true, true, false, true, true, true, false, false] (fun s_ => [(33, s_.1), (38, s_.2)]) (fun s_ w' => (w'.cell? ⟨gb346, 0, none⟩ = some (.int .i64 a0_0) ∧ w'.cell? ⟨gb346, 1, none⟩ = some (.int .i64 a0_1) ∧ w'.cell? ⟨gb346, 2, none⟩ = some (.string a0_2) ∧ w'.cell? ⟨gb346, 3, none⟩ = some (.int .i64 a0_3) ∧ w'.cell? ⟨gb346, 4, none⟩ = some (.int .i64 a0_4) ∧ w'.cell? ⟨gb346, 5, none⟩ = some (.int .i64 a0_5) ∧ w'.cell? ⟨gb346, 6, none⟩ = some (.string a0_6) ∧ w'.cell? ⟨gb346, 7, none⟩ = some (.int .i64 a0_7) ∧ w'.cell? ⟨gb346, 8, none⟩ = some (.int .i64 a0_8) ∧ w'.cell? ⟨gb346, 9, none⟩ = some (.int .i64 a0_9) ∧ w'.cell? ⟨gb346, 10, none⟩ = some (.string a0_10) ∧ w'.cell? ⟨gb346, 11, none⟩ = some (.int .i64 a0_11) ∧ w'.cell? ⟨gb346, 12, none⟩ = some (.int .i64 a0_12) ∧ w'.cell? ⟨gb346, 13, none⟩ = some (.int .i64 a0_13) ∧ w'.cell? ⟨gb346, 14, none⟩ = some (.int .i64 a0_14) ∧ w'.cell? ⟨gb346, 15, none⟩ = some (.int .i64 a0_15)) ∧ (Kd.R (Kd.int .u8) 5 w' w.heap.size (fun k_ => some k_ ≠ (s_.2 : Value).ownBlock ∧ some k_ ≠ (.slice Ao30 y347.length co30 : Value).ownBlock) s_.1 t352) ∧ (Kd.R (Kd.int .u8) 5 w' w.heap.size (fun k_ => some k_ ≠ (s_.1 : Value).ownBlock ∧ some k_ ≠ (.slice Ao30 y347.length co30 : Value).ownBlock) s_.2 y355) ∧ (Kd.R (Kd.int .u8) 5 w' w.heap.size (fun k_ => some k_ ≠ (s_.1 : Value).ownBlock ∧ some k_ ≠ (s_.2 : Value).ownBlock) (.slice Ao30 y347.length co30) y347) ∧ (w'.heap[gb346]? = some (.cells #[.int .i64 a0_0, .int .i64 a0_1, .string a0_2, .int .i64 a0_3, .int .i64 a0_4, .int .i64 a0_5, .string a0_6, .int .i64 a0_7, .int .i64 a0_8, .int .i64 a0_9, .string a0_10, .int .i64 a0_11, .int .i64 a0_12, .int .i64 a0_13, .int .i64 a0_14, .int .i64 a0_15] 48 (0, 0))) ∧ (Below w.heap.size w w')) ?_ ?_
     rotate_left
     ·
      intro hCont
      refine two_ (i := 4) (j := 9) (Ni := some 33) (Nj := some 38) #[true, true, true, true, true, true, true, true, true, false, false, true, true, true, false, false] #[true, true, true, true, false, true, true, true, true, true, false, true, true, true, false, false] rfl rfl rfl rfl (two_of HT_.out (by kernel_rfl)) (by decide) (by decide) (fun K hK => ?_) (fun K hK => ?_)
      ·
       skip
       refine goes_ Try.func82 (by kernel_rfl) rfl #[.slice Ao30 y347.length co30, .int .i64 a0_1] (by rfl) rfl rfl (by (try simp only [List.map_toArray, List.map_cons, List.map_nil]); first | done | rfl | (simp only [List.length_drop, List.length_take]; rfl)) ?_
       with_reducible refine (impl_PutWord.calls _ _ y347 a0_1 t352 _ ?side1 ?side2 A22.out).mono ?_
       (case side1 => exact qC ((Kd.R_reads' HO_3.out).2.2))
       (case side2 => exact (Kd.R_reads' HO_3.out).2.1)
       rintro e w32 ⟨v353, rfl, ho0, hb⟩
       refine ⟨_, rfl, ?_⟩
       have HO354 := am_ (Kd.R_lower (Kd.R_new' ho0 (Kd.R_lt (qR HO_3))) (below_size (qB HB)))
       replace HO_3 := am_ (Kd.R_elder' (qR HO_3) (Kd.R_base ho0) hb)
       replace BK346 := am_ (blk_below (qK BK346) hb)
       replace HB := am_ (below_step (qB HB) hb)
       (try clear hb ho0)
       refine hK.out _ _ (cz16 BK346.out) (fun hHeld => ?_)
       clear hK K
       refine norm_ (a' := ?_) ?_ ?_
       rotate_left
       ·
        show Act.put _ (some 33) _ = _
        simp only [Act.put, List.setIfInBounds_toArray, List.set_cons_zero, List.set_cons_succ, i64_w, i32_w]
        rfl
       refine one_ (i := 9) (N := some 38) #[true, true, true, true, true, true, true, true, true, true, false, true, true, true, false, false] rfl rfl (one_of HT_.out (by kernel_rfl)) (by decide) (fun K hK => ?_)
       refine Kd.R_lit_step (Kd.int .u8) _ 5 ?hg (N := 38) ?hd (xs := ([(a0_3) % 256] : List Int)) (inner := [.int .u8 ((a0_3) % 256)]) (ok := fun _ => True) (okp := fun _ => True) ?hr ?hp (fun _ hk => hk) trivial (Below.refl _ _) (Nat.le_refl _) (by simp) ?_; (case hd => rfl); (case hg => rfl); (case hr => first | (go_simp; done) | (go_simp; rfl)); (case hp => exact (Reps.one (show Kd.M (Kd.int .u8) _ _ _ ((a0_3) % 256) [.int .u8 ((a0_3) % 256)] from rfl) (Reps.none _ _)))
       intro v356 w33 ho34 hb hg_ hnew_
       clear hg_ hnew_
       (first | rw [← Ny355.out] at ho34 | (simp only [Int.reduceToNat] at ho34; rw [← Ny355.out] at ho34))
       have HO357 := am_ (Kd.R_lower (Kd.R_new' (Kd.R_new' ho34 (Kd.R_lt (qR HO_3))) (Kd.R_lt (qR HO354))) (below_size (qB HB)))
       replace HO_3 := am_ (Kd.R_elder' (qR HO_3) (Kd.R_base ho34) hb)
       replace HO354 := am_ (Kd.R_elder' (qR HO354) (Kd.R_base ho34) hb)
       replace BK346 := am_ (blk_below (qK BK346) hb)
       replace HB := am_ (below_step (qB HB) hb)
       clear hb ho34
       refine hK.out _ _ (cz16 BK346.out) (fun hHeld => ?_)
       clear hK K
       refine norm_ (a' := ?_) ?_ ?_
       rotate_left
       ·
        show Act.put _ (some 38) _ = _
        simp only [Act.put, List.setIfInBounds_toArray, List.set_cons_zero, List.set_cons_succ, i64_w, i32_w]
        rfl
       exact norm_ (by simp only [putAll, Act.put, List.setIfInBounds_toArray, List.set_cons_zero, List.set_cons_succ]) (hCont (v353, v356) _ ⟨hHeld, (tR (Kd.R_mono HO354.out (fun _ hk => ⟨hk.2, hk.1.2⟩))), (tR (Kd.R_mono HO357.out (fun _ hk => ⟨hk.2, hk.1.2⟩))), (tR (Kd.R_mono HO_3.out (fun _ hk => ⟨hk.1.2, hk.2⟩))), (qK BK346), (qB HB)⟩)
      ·
       skip
       refine Kd.R_lit_step (Kd.int .u8) _ 5 ?hg (N := 38) ?hd (xs := ([(a0_3) % 256] : List Int)) (inner := [.int .u8 ((a0_3) % 256)]) (ok := fun _ => True) (okp := fun _ => True) ?hr ?hp (fun _ hk => hk) trivial (Below.refl _ _) (Nat.le_refl _) (by simp) ?_; (case hd => rfl); (case hg => rfl); (case hr => first | (go_simp; done) | (go_simp; rfl)); (case hp => exact (Reps.one (show Kd.M (Kd.int .u8) _ _ _ ((a0_3) % 256) [.int .u8 ((a0_3) % 256)] from rfl) (Reps.none _ _)))
       intro v356 w32 ho33 hb hg_ hnew_
       clear hg_ hnew_
       (first | rw [← Ny355.out] at ho33 | (simp only [Int.reduceToNat] at ho33; rw [← Ny355.out] at ho33))
       have HO357 := am_ (Kd.R_lower (Kd.R_new' ho33 (Kd.R_lt (qR HO_3))) (below_size (qB HB)))
       replace HO_3 := am_ (Kd.R_elder' (qR HO_3) (Kd.R_base ho33) hb)
       replace BK346 := am_ (blk_below (qK BK346) hb)
       replace HB := am_ (below_step (qB HB) hb)
       clear hb ho33
       refine hK.out _ _ (cz16 BK346.out) (fun hHeld => ?_)
       clear hK K
       refine norm_ (a' := ?_) ?_ ?_
       rotate_left
       ·
        show Act.put _ (some 38) _ = _
        simp only [Act.put, List.setIfInBounds_toArray, List.set_cons_zero, List.set_cons_succ, i64_w, i32_w]
        rfl
       refine one_ (i := 4) (N := some 33) #[true, true, true, true, true, true, true, true, true, true, false, true, true, true, false, false] rfl rfl (one_of HT_.out (by kernel_rfl)) (by decide) (fun K hK => ?_)
       refine goes_ Try.func82 (by kernel_rfl) rfl #[.slice Ao30 y347.length co30, .int .i64 a0_1] (by rfl) rfl rfl (by (try simp only [List.map_toArray, List.map_cons, List.map_nil]); first | done | rfl | (simp only [List.length_drop, List.length_take]; rfl)) ?_
       with_reducible refine (impl_PutWord.calls _ _ y347 a0_1 t352 _ ?side1 ?side2 A22.out).mono ?_
       (case side1 => exact qC ((Kd.R_reads' HO_3.out).2.2))
       (case side2 => exact (Kd.R_reads' HO_3.out).2.1)
       rintro e w34 ⟨v353, rfl, ho0, hb⟩
       refine ⟨_, rfl, ?_⟩
       have HO354 := am_ (Kd.R_lower (Kd.R_new' (Kd.R_new' ho0 (Kd.R_lt (qR HO_3))) (Kd.R_lt (qR HO357))) (below_size (qB HB)))
       replace HO_3 := am_ (Kd.R_elder' (qR HO_3) (Kd.R_base ho0) hb)
       replace HO357 := am_ (Kd.R_elder' (qR HO357) (Kd.R_base ho0) hb)
       replace BK346 := am_ (blk_below (qK BK346) hb)
       replace HB := am_ (below_step (qB HB) hb)
       (try clear hb ho0)
       refine hK.out _ _ (cz16 BK346.out) (fun hHeld => ?_)
       clear hK K
       refine norm_ (a' := ?_) ?_ ?_
       rotate_left
       ·
        show Act.put _ (some 33) _ = _
        simp only [Act.put, List.setIfInBounds_toArray, List.set_cons_zero, List.set_cons_succ, i64_w, i32_w]
        rfl
       exact norm_ (by simp only [putAll, Act.put, List.setIfInBounds_toArray, List.set_cons_zero, List.set_cons_succ]) (hCont (v353, v356) _ ⟨hHeld, (tR (Kd.R_mono HO354.out (fun _ hk => ⟨hk.2, hk.1.2⟩))), (tR (Kd.R_mono HO357.out (fun _ hk => ⟨hk.2, hk.1.2⟩))), (tR (Kd.R_mono HO_3.out (fun _ hk => ⟨hk.2, hk.1.2⟩))), (qK BK346), (qB HB)⟩)
     rintro ⟨v353, v356⟩ w35 ⟨hS_, h0_, h1_, h2_, h3_, h4_⟩
     have n0_ : Aside0 (Kd.R (Kd.int .u8) 5 w35 w.heap.size (fun k_ => some k_ ≠ (v356 : Value).ownBlock ∧ some k_ ≠ (.slice Ao30 y347.length co30 : Value).ownBlock) v353 t352) := ⟨h0_⟩
     have n1_ : Aside0 (Kd.R (Kd.int .u8) 5 w35 w.heap.size (fun k_ => some k_ ≠ (v353 : Value).ownBlock ∧ some k_ ≠ (.slice Ao30 y347.length co30 : Value).ownBlock) v356 y355) := ⟨h1_⟩
     have n2_ : Aside0 (Kd.R (Kd.int .u8) 5 w35 w.heap.size (fun k_ => some k_ ≠ (v353 : Value).ownBlock ∧ some k_ ≠ (v356 : Value).ownBlock) (.slice Ao30 y347.length co30) y347) := ⟨h2_⟩
     have n3_ : Aside0 (w35.heap[gb346]? = some (.cells #[.int .i64 a0_0, .int .i64 a0_1, .string a0_2, .int .i64 a0_3, .int .i64 a0_4, .int .i64 a0_5, .string a0_6, .int .i64 a0_7, .int .i64 a0_8, .int .i64 a0_9, .string a0_10, .int .i64 a0_11, .int .i64 a0_12, .int .i64 a0_13, .int .i64 a0_14, .int .i64 a0_15] 48 (0, 0))) := ⟨h3_⟩
     have n4_ : Aside0 (Below w.heap.size w w35) := ⟨h4_⟩
     clear HO_3
     clear BK346
     clear HB
     clear h0_ h1_ h2_ h3_ h4_
     have HO354 := n0_
     have HO357 := n1_
     have HO_3 := n2_
     have BK346 := n3_
     have HB := n4_
     clear n0_ n1_ n2_ n3_ n4_
     have hHeld : w35.cell? ⟨gb346, 0, none⟩ = some (.int .i64 a0_0) ∧ w35.cell? ⟨gb346, 1, none⟩ = some (.int .i64 a0_1) ∧ w35.cell? ⟨gb346, 2, none⟩ = some (.string a0_2) ∧ w35.cell? ⟨gb346, 3, none⟩ = some (.int .i64 a0_3) ∧ w35.cell? ⟨gb346, 4, none⟩ = some (.int .i64 a0_4) ∧ w35.cell? ⟨gb346, 5, none⟩ = some (.int .i64 a0_5) ∧ w35.cell? ⟨gb346, 6, none⟩ = some (.string a0_6) ∧ w35.cell? ⟨gb346, 7, none⟩ = some (.int .i64 a0_7) ∧ w35.cell? ⟨gb346, 8, none⟩ = some (.int .i64 a0_8) ∧ w35.cell? ⟨gb346, 9, none⟩ = some (.int .i64 a0_9) ∧ w35.cell? ⟨gb346, 10, none⟩ = some (.string a0_10) ∧ w35.cell? ⟨gb346, 11, none⟩ = some (.int .i64 a0_11) ∧ w35.cell? ⟨gb346, 12, none⟩ = some (.int .i64 a0_12) ∧ w35.cell? ⟨gb346, 13, none⟩ = some (.int .i64 a0_13) ∧ w35.cell? ⟨gb346, 14, none⟩ = some (.int .i64 a0_14) ∧ w35.cell? ⟨gb346, 15, none⟩ = some (.int .i64 a0_15) := hS_
     obtain ⟨Ao37, co37, eo37⟩ := Kd.R_slice HO357.out
     (first | subst eo37 | (injection eo37 with f1_ f2_ f3_; have f4_ := f1_.symm; have f5_ := f3_.symm; clear f1_ f2_ f3_; subst f4_; subst f5_))
     refine norm_ (a' := ?_) ?_ ?_
     rotate_left
     ·
      simp only [putAll, Act.put, List.setIfInBounds_toArray, List.set_cons_zero, List.set_cons_succ]
      rfl
     refine one_ (i := 10) (N := some 39) #[true, true, true, true, true, true, true, true, true, true, true, true, true, true, false, false] rfl rfl (one_of HT_.out (by kernel_rfl)) (by decide) (fun K hK => ?_)
     refine Kd.R_append_rows_step (Kd.int .u8) (w0 := w) w.heap.size (by rfl) (.tmp 33) (.tmp 38) 22 5 (.int .u8 0) 1 rfl Try.underlying22 info5 rfl (by decide) (by omega) v353 t352 y355 _ _ _ (fun k_ => some k_ ≠ (.slice Ao30 y347.length co30 : Value).ownBlock ∧ some k_ ≠ (.slice Ao37 y355.length co37 : Value).ownBlock) (fun _ => False) rfl rfl ?aO ?aR (fun _ _ h => h) (fun _ h => h.elim) ?aF ?aB ?aS ?aL ?_
     (case aR => exact qC ((Kd.R_reads' HO357.out).2.2))
     (case aB => exact (qB HB))
     (case aF => exact (fun k_ hk => ⟨Kd.fresh' (Kd.R_lt (qR HO_3)) k_ hk, Kd.fresh' (Kd.R_lt (qR HO357)) k_ hk⟩))
     (case aO => exact (tR (Kd.R_mono HO354.out (fun _ hk => ⟨hk.2, hk.1⟩))))
     (case aS => exact (below_size (qB HB)))
     (case aL => have := LMc23.out; omega)
     intro v359 w36 ho hb hg hat
     rw [← Ny358.out] at ho
     replace HO_3 := am_ (Kd.R_after (ok := (fun k_ => some k_ ≠ (.slice Ao37 y355.length co37 : Value).ownBlock)) (tR (Kd.R_mono HO_3.out (fun _ hk => ⟨hk.2, hk.1⟩))) hg hat)
     replace BK346 := am_ (blk_grown (qK BK346) hg (Kd.R_ne HO354.out BK346.out (by decide)))
     replace HO357 := am_ (Kd.R_after (ok := (fun k_ => some k_ ≠ (.slice Ao30 y347.length co30 : Value).ownBlock)) (tR (Kd.R_mono HO357.out (fun _ hk => ⟨hk.2, hk.1⟩))) hg hat)
     replace HB := am_ (hb)
     have HO360 := am_ (ho)
     clear HO354
     clear ho hb hg hat
     obtain ⟨Ao38, co38, eo38⟩ := Kd.R_slice HO360.out
     (first | subst eo38 | (injection eo38 with f1_ f2_ f3_; have f4_ := f1_.symm; have f5_ := f3_.symm; clear f1_ f2_ f3_; subst f4_; subst f5_))
     refine hK.out _ _ (cz16 BK346.out) (fun hHeld => ?_)
     clear hK K
     refine norm_ (a' := ?_) ?_ ?_
     rotate_left
     ·
      show Act.put _ (some 39) _ = _
      simp only [Act.put, List.setIfInBounds_toArray, List.set_cons_zero, List.set_cons_succ, i64_w, i32_w]
      rfl
     refine one_ (i := 14) (N := some 43) #[true, true, true, true, true, true, true, true, true, true, true, true, true, true, true, false] rfl rfl (one_of HT_.out (by kernel_rfl)) (by decide) (fun K hK => ?_)
     refine goes_ Try.func81 (by kernel_rfl) rfl #[.slice Ao38 y358.length co38, .string a0_2] (by rfl) rfl rfl (by (try simp only [List.map_toArray, List.map_cons, List.map_nil]); first | done | rfl | (simp only [List.length_drop, List.length_take]; rfl)) ?_
     with_reducible refine (impl_PutText.calls kj1 _ _ y358 a0_2 t361 _ ?side1 ?side2 A24.out).mono ?_
     (case side1 => exact qC ((Kd.R_reads' HO360.out).2.2))
     (case side2 => exact (Kd.R_reads' HO360.out).2.1)
     rintro e w39 ⟨v362, rfl, ho0, hb⟩
     refine ⟨_, rfl, ?_⟩
     have HO363 := am_ (Kd.R_lower (Kd.R_new' (Kd.R_new' (Kd.R_new' ho0 (Kd.R_lt (qR HO_3))) (Kd.R_lt (qR HO357))) (Kd.R_lt (qR HO360))) (below_size (qB HB)))
     replace HO_3 := am_ (Kd.R_elder' (qR HO_3) (Kd.R_base ho0) hb)
     replace HO357 := am_ (Kd.R_elder' (qR HO357) (Kd.R_base ho0) hb)
     replace HO360 := am_ (Kd.R_elder' (qR HO360) (Kd.R_base ho0) hb)
     replace BK346 := am_ (blk_below (qK BK346) hb)
     replace HB := am_ (below_step (qB HB) hb)
     (try clear hb ho0)
     refine hK.out _ _ (cz16 BK346.out) (fun hHeld => ?_)
     clear hK K
     refine norm_ (a' := ?_) ?_ ?_
     rotate_left
     ·
      show Act.put _ (some 43) _ = _
      simp only [Act.put, List.setIfInBounds_toArray, List.set_cons_zero, List.set_cons_succ, i64_w, i32_w]
      rfl
     refine pure_ (i := 15) (N := some 3) (v := ?_) (a' := ?_) #[true, true, true, true, true, true, true, true, true, true, true, true, true, true, true, true] rfl rfl (any_of HT_.out (by kernel_rfl)) (fun _ _ _ h => h) (Or.inl ⟨by rfl, ?_⟩) ?_ ?_
     rotate_left
     ·
      intro w'
      go_simp
      with_reducible rfl
     rotate_left
     ·
      simp only [Act.put, List.setIfInBounds_toArray, List.set_cons_zero, List.set_cons_succ, i64_w, i32_w]
      rfl
     refine done_ (done_of HT_.out (by kernel_rfl)) ?_
     try go_wp2
     replace HO_3 := am_ (Kd.R_drew HO_3.out)
     replace HO357 := am_ (Kd.R_drew HO357.out)
     replace HO360 := am_ (Kd.R_drew HO360.out)
     replace HO363 := am_ (Kd.R_drew HO363.out)
     replace BK346 := am_ (blk_drew BK346.out)
     replace HB := am_ (below_drew1 HB.out)
     obtain ⟨Ao41, co41, eo41⟩ := Kd.R_slice HO363.out
     (first | subst eo41 | (injection eo41 with f1_ f2_ f3_; have f4_ := f1_.symm; have f5_ := f3_.symm; clear f1_ f2_ f3_; subst f4_; subst f5_))
     refine start_ (n := 14) (S := fun w' => w'.cell? ⟨gb346, 0, none⟩ = some (.int .i64 a0_0) ∧ w'.cell? ⟨gb346, 1, none⟩ = some (.int .i64 a0_1) ∧ w'.cell? ⟨gb346, 2, none⟩ = some (.string a0_2) ∧ w'.cell? ⟨gb346, 3, none⟩ = some (.int .i64 a0_3) ∧ w'.cell? ⟨gb346, 4, none⟩ = some (.int .i64 a0_4) ∧ w'.cell? ⟨gb346, 5, none⟩ = some (.int .i64 a0_5) ∧ w'.cell? ⟨gb346, 6, none⟩ = some (.string a0_6) ∧ w'.cell? ⟨gb346, 7, none⟩ = some (.int .i64 a0_7) ∧ w'.cell? ⟨gb346, 8, none⟩ = some (.int .i64 a0_8) ∧ w'.cell? ⟨gb346, 9, none⟩ = some (.int .i64 a0_9) ∧ w'.cell? ⟨gb346, 10, none⟩ = some (.string a0_10) ∧ w'.cell? ⟨gb346, 11, none⟩ = some (.int .i64 a0_11) ∧ w'.cell? ⟨gb346, 12, none⟩ = some (.int .i64 a0_12) ∧ w'.cell? ⟨gb346, 13, none⟩ = some (.int .i64 a0_13) ∧ w'.cell? ⟨gb346, 14, none⟩ = some (.int .i64 a0_14) ∧ w'.cell? ⟨gb346, 15, none⟩ = some (.int .i64 a0_15)) (ds := []) #[false, false, false, false, false, false, false, false, false, false, false, false, false, false] (by kernel_rfl) rfl rfl (cz16 BK346.out) (fun hHeld => ?_); refine with_tabW impl_PutItem.tab4 impl_PutItem.bits4 (fun HT_ HW_ => ?_)
     generalize w39.drew = w40 at HO_3 HO357 HO360 HO363 BK346 HB hHeld ⊢
     refine pure_ (i := 0) (N := some 44) (v := ?_) (a' := ?_) #[true, false, false, false, false, false, false, false, false, false, false, false, false, false] rfl rfl (any_of HT_.out (by kernel_rfl)) (fun _ _ _ h => h) (Or.inl ⟨by rfl, ?_⟩) ?_ ?_
     rotate_left
     ·
      intro w'
      go_simp
      with_reducible rfl
     rotate_left
     ·
      simp only [Act.put, List.setIfInBounds_toArray, List.set_cons_zero, List.set_cons_succ, i64_w, i32_w]
      rfl
     refine pure_ (i := 1) (N := some 45) (v := ?_) (a' := ?_) #[true, true, false, false, false, false, false, false, false, false, false, false, false, false] rfl rfl (any_of HT_.out (by kernel_rfl)) (fun _ _ _ h => h) (Or.inl ⟨by rfl, ?_⟩) ?_ ?_
     rotate_left
     ·
      intro w'
      go_simp
      with_reducible rfl
     rotate_left
     ·
      simp only [Act.put, List.setIfInBounds_toArray, List.set_cons_zero, List.set_cons_succ, i64_w, i32_w]
      rfl
     refine pure_ (i := 2) (N := some 46) (v := ?_) (a' := ?_) #[true, true, true, false, false, false, false, false, false, false, false, false, false, false] rfl rfl (any_of HT_.out (by kernel_rfl)) (fun _ _ _ h => h) (Or.inl ⟨by rfl, ?_⟩) ?_ ?_
     rotate_left
     ·
      intro w'
      go_simp
      with_reducible rfl
     rotate_left
     ·
      simp only [Act.put, List.setIfInBounds_toArray, List.set_cons_zero, List.set_cons_succ, i64_w, i32_w]
      rfl
     refine pure_ (i := 5) (N := some 49) (v := ?_) (a' := ?_) #[true, true, true, false, false, true, false, false, false, false, false, false, false, false] rfl rfl (any_of HT_.out (by kernel_rfl)) (fun _ _ _ h => h) (Or.inl ⟨by rfl, ?_⟩) ?_ ?_
     rotate_left
     ·
      intro w'
      go_simp
      with_reducible rfl
     rotate_left
     ·
      simp only [Act.put, List.setIfInBounds_toArray, List.set_cons_zero, List.set_cons_succ, i64_w, i32_w]
      rfl
     refine pure_ (i := 6) (N := some 50) (v := ?_) (a' := ?_) #[true, true, true, false, false, true, true, false, false, false, false, false, false, false] rfl rfl (any_of HT_.out (by kernel_rfl)) (fun _ _ _ h => h) (Or.inl ⟨by rfl, ?_⟩) ?_ ?_
     rotate_left
     ·
      intro w'
      go_simp
      with_reducible rfl
     rotate_left
     ·
      simp only [Act.put, List.setIfInBounds_toArray, List.set_cons_zero, List.set_cons_succ, i64_w, i32_w]
      rfl
     refine pure_ (i := 9) (N := some 53) (v := ?_) (a' := ?_) #[true, true, true, false, false, true, true, false, false, true, false, false, false, false] rfl rfl (any_of HT_.out (by kernel_rfl)) (fun _ _ _ h => h) (Or.inl ⟨by rfl, ?_⟩) ?_ ?_
     rotate_left
     ·
      intro w'
      go_simp
      with_reducible rfl
     rotate_left
     ·
      simp only [Act.put, List.setIfInBounds_toArray, List.set_cons_zero, List.set_cons_succ, i64_w, i32_w]
      rfl
     refine pure_ (i := 10) (N := some 54) (v := ?_) (a' := ?_) #[true, true, true, false, false, true, true, false, false, true, true, false, false, false] rfl rfl (any_of HT_.out (by kernel_rfl)) (fun _ _ _ h => h) (Or.inl ⟨by rfl, ?_⟩) ?_ ?_
     rotate_left
     ·
      intro w'
      go_simp
      with_reducible rfl
     rotate_left
     ·
      simp only [Act.put, List.setIfInBounds_toArray, List.set_cons_zero, List.set_cons_succ, i64_w, i32_w]
      rfl
     refine take_ (i := 3) (N := some 47) (v := ?_) (a' := ?_) #[true, true, true, true, false, true, true, false, false, true, true, false, false, false] rfl rfl (take_ofW HT_.out HW_.out (by kernel_rfl)) (fun _ _ _ h => h) (Or.inl ⟨by rfl, ?_⟩) hHeld ?_ ?_
     rotate_left
     ·
      rintro w' ⟨s0, s1, s2, s3, s4, s5, s6, s7, s8, s9, s10, s11, s12, s13, s14, s15⟩
      go_simp
      with_reducible rfl
     rotate_left
     ·
      simp only [Act.put, List.setIfInBounds_toArray, List.set_cons_zero, List.set_cons_succ, i64_w, i32_w]
      rfl
     refine take_ (i := 7) (N := some 51) (v := ?_) (a' := ?_) #[true, true, true, true, false, true, true, true, false, true, true, false, false, false] rfl rfl (take_ofW HT_.out HW_.out (by kernel_rfl)) (fun _ _ _ h => h) (Or.inl ⟨by rfl, ?_⟩) hHeld ?_ ?_
     rotate_left
     ·
      rintro w' ⟨s0, s1, s2, s3, s4, s5, s6, s7, s8, s9, s10, s11, s12, s13, s14, s15⟩
      go_simp
      with_reducible rfl
     rotate_left
     ·
      simp only [Act.put, List.setIfInBounds_toArray, List.set_cons_zero, List.set_cons_succ, i64_w, i32_w]
      rfl
     refine take_ (i := 11) (N := some 55) (v := ?_) (a' := ?_) #[true, true, true, true, false, true, true, true, false, true, true, true, false, false] rfl rfl (take_ofW HT_.out HW_.out (by kernel_rfl)) (fun _ _ _ h => h) (Or.inl ⟨by rfl, ?_⟩) hHeld ?_ ?_
     rotate_left
     ·
      rintro w' ⟨s0, s1, s2, s3, s4, s5, s6, s7, s8, s9, s10, s11, s12, s13, s14, s15⟩
      go_simp
      with_reducible rfl
     rotate_left
     ·
      simp only [Act.put, List.setIfInBounds_toArray, List.set_cons_zero, List.set_cons_succ, i64_w, i32_w]
      rfl
     refine one_ (i := 4) (N := some 48) #[true, true, true, true, true, true, true, true, false, true, true, true, false, false] rfl rfl (one_of HT_.out (by kernel_rfl)) (by decide) (fun K hK => ?_)
     refine goes_ Try.func82 (by kernel_rfl) rfl #[.slice Ao41 t361.length co41, .int .i64 a0_4] (by rfl) rfl rfl (by (try simp only [List.map_toArray, List.map_cons, List.map_nil]); first | done | rfl | (simp only [List.length_drop, List.length_take]; rfl)) ?_
     with_reducible refine (impl_PutWord.calls _ _ t361 a0_4 t364 _ ?side1 ?side2 A25.out).mono ?_
     (case side1 => exact qC ((Kd.R_reads' HO363.out).2.2))
     (case side2 => exact (Kd.R_reads' HO363.out).2.1)
     rintro e w42 ⟨v365, rfl, ho0, hb⟩
     refine ⟨_, rfl, ?_⟩
     have HO366 := am_ (Kd.R_lower (Kd.R_new' (Kd.R_new' (Kd.R_new' (Kd.R_new' ho0 (Kd.R_lt (qR HO_3))) (Kd.R_lt (qR HO357))) (Kd.R_lt (qR HO360))) (Kd.R_lt (qR HO363))) (below_size (qB HB)))
     replace HO_3 := am_ (Kd.R_elder' (qR HO_3) (Kd.R_base ho0) hb)
     replace HO357 := am_ (Kd.R_elder' (qR HO357) (Kd.R_base ho0) hb)
     replace HO360 := am_ (Kd.R_elder' (qR HO360) (Kd.R_base ho0) hb)
     replace HO363 := am_ (Kd.R_elder' (qR HO363) (Kd.R_base ho0) hb)
     replace BK346 := am_ (blk_below (qK BK346) hb)
     replace HB := am_ (below_step (qB HB) hb)
     (try clear hb ho0)
     obtain ⟨Ao43, co43, eo43⟩ := Kd.R_slice HO366.out
     (first | subst eo43 | (injection eo43 with f1_ f2_ f3_; have f4_ := f1_.symm; have f5_ := f3_.symm; clear f1_ f2_ f3_; subst f4_; subst f5_))
     refine hK.out _ _ (cz16 BK346.out) (fun hHeld => ?_)
     clear hK K
     refine norm_ (a' := ?_) ?_ ?_
     rotate_left
     ·
      show Act.put _ (some 48) _ = _
      simp only [Act.put, List.setIfInBounds_toArray, List.set_cons_zero, List.set_cons_succ, i64_w, i32_w]
      rfl
     refine one_ (i := 8) (N := some 52) #[true, true, true, true, true, true, true, true, true, true, true, true, false, false] rfl rfl (one_of HT_.out (by kernel_rfl)) (by decide) (fun K hK => ?_)
     refine goes_ Try.func83 (by kernel_rfl) rfl #[.slice Ao43 t364.length co43, .int .i64 a0_5] (by rfl) rfl rfl (by (try simp only [List.map_toArray, List.map_cons, List.map_nil]); first | done | rfl | (simp only [List.length_drop, List.length_take]; rfl)) ?_
     with_reducible refine (impl_putSince.calls _ _ t364 a0_5 t367 _ ?side1 ?side2 A26.out).mono ?_
     (case side1 => exact qC ((Kd.R_reads' HO366.out).2.2))
     (case side2 => exact (Kd.R_reads' HO366.out).2.1)
     rintro e w44 ⟨v368, rfl, ho0, hb⟩
     refine ⟨_, rfl, ?_⟩
     have HO369 := am_ (Kd.R_lower (Kd.R_new' (Kd.R_new' (Kd.R_new' (Kd.R_new' (Kd.R_new' ho0 (Kd.R_lt (qR HO_3))) (Kd.R_lt (qR HO357))) (Kd.R_lt (qR HO360))) (Kd.R_lt (qR HO363))) (Kd.R_lt (qR HO366))) (below_size (qB HB)))
     replace HO_3 := am_ (Kd.R_elder' (qR HO_3) (Kd.R_base ho0) hb)
     replace HO357 := am_ (Kd.R_elder' (qR HO357) (Kd.R_base ho0) hb)
     replace HO360 := am_ (Kd.R_elder' (qR HO360) (Kd.R_base ho0) hb)
     replace HO363 := am_ (Kd.R_elder' (qR HO363) (Kd.R_base ho0) hb)
     replace HO366 := am_ (Kd.R_elder' (qR HO366) (Kd.R_base ho0) hb)
     replace BK346 := am_ (blk_below (qK BK346) hb)
     replace HB := am_ (below_step (qB HB) hb)
     (try clear hb ho0)
     obtain ⟨Ao45, co45, eo45⟩ := Kd.R_slice HO369.out
     (first | subst eo45 | (injection eo45 with f1_ f2_ f3_; have f4_ := f1_.symm; have f5_ := f3_.symm; clear f1_ f2_ f3_; subst f4_; subst f5_))
     refine hK.out _ _ (cz16 BK346.out) (fun hHeld => ?_)
     clear hK K
     refine norm_ (a' := ?_) ?_ ?_
     rotate_left
     ·
      show Act.put _ (some 52) _ = _
      simp only [Act.put, List.setIfInBounds_toArray, List.set_cons_zero, List.set_cons_succ, i64_w, i32_w]
      rfl
     refine one_ (i := 12) (N := some 56) #[true, true, true, true, true, true, true, true, true, true, true, true, true, false] rfl rfl (one_of HT_.out (by kernel_rfl)) (by decide) (fun K hK => ?_)
     refine goes_ Try.func81 (by kernel_rfl) rfl #[.slice Ao45 t367.length co45, .string a0_6] (by rfl) rfl rfl (by (try simp only [List.map_toArray, List.map_cons, List.map_nil]); first | done | rfl | (simp only [List.length_drop, List.length_take]; rfl)) ?_
     with_reducible refine (impl_PutText.calls kj1 _ _ t367 a0_6 t370 _ ?side1 ?side2 A27.out).mono ?_
     (case side1 => exact qC ((Kd.R_reads' HO369.out).2.2))
     (case side2 => exact (Kd.R_reads' HO369.out).2.1)
     rintro e w46 ⟨v371, rfl, ho0, hb⟩
     refine ⟨_, rfl, ?_⟩
     have HO372 := am_ (Kd.R_lower (Kd.R_new' (Kd.R_new' (Kd.R_new' (Kd.R_new' (Kd.R_new' (Kd.R_new' ho0 (Kd.R_lt (qR HO_3))) (Kd.R_lt (qR HO357))) (Kd.R_lt (qR HO360))) (Kd.R_lt (qR HO363))) (Kd.R_lt (qR HO366))) (Kd.R_lt (qR HO369))) (below_size (qB HB)))
     replace HO_3 := am_ (Kd.R_elder' (qR HO_3) (Kd.R_base ho0) hb)
     replace HO357 := am_ (Kd.R_elder' (qR HO357) (Kd.R_base ho0) hb)
     replace HO360 := am_ (Kd.R_elder' (qR HO360) (Kd.R_base ho0) hb)
     replace HO363 := am_ (Kd.R_elder' (qR HO363) (Kd.R_base ho0) hb)
     replace HO366 := am_ (Kd.R_elder' (qR HO366) (Kd.R_base ho0) hb)
     replace HO369 := am_ (Kd.R_elder' (qR HO369) (Kd.R_base ho0) hb)
     replace BK346 := am_ (blk_below (qK BK346) hb)
     replace HB := am_ (below_step (qB HB) hb)
     (try clear hb ho0)
     refine hK.out _ _ (cz16 BK346.out) (fun hHeld => ?_)
     clear hK K
     refine norm_ (a' := ?_) ?_ ?_
     rotate_left
     ·
      show Act.put _ (some 56) _ = _
      simp only [Act.put, List.setIfInBounds_toArray, List.set_cons_zero, List.set_cons_succ, i64_w, i32_w]
      rfl
     refine pure_ (i := 13) (N := some 3) (v := ?_) (a' := ?_) #[true, true, true, true, true, true, true, true, true, true, true, true, true, true] rfl rfl (any_of HT_.out (by kernel_rfl)) (fun _ _ _ h => h) (Or.inl ⟨by rfl, ?_⟩) ?_ ?_
     rotate_left
     ·
      intro w'
      go_simp
      with_reducible rfl
     rotate_left
     ·
      simp only [Act.put, List.setIfInBounds_toArray, List.set_cons_zero, List.set_cons_succ, i64_w, i32_w]
      rfl
     refine done_ (done_of HT_.out (by kernel_rfl)) ?_
     try go_wp2
     replace HO_3 := am_ (Kd.R_drew HO_3.out)
     replace HO357 := am_ (Kd.R_drew HO357.out)
     replace HO360 := am_ (Kd.R_drew HO360.out)
     replace HO363 := am_ (Kd.R_drew HO363.out)
     replace HO366 := am_ (Kd.R_drew HO366.out)
     replace HO369 := am_ (Kd.R_drew HO369.out)
     replace HO372 := am_ (Kd.R_drew HO372.out)
     replace BK346 := am_ (blk_drew BK346.out)
     replace HB := am_ (below_drew1 HB.out)
     obtain ⟨Ao48, co48, eo48⟩ := Kd.R_slice HO372.out
     (first | subst eo48 | (injection eo48 with f1_ f2_ f3_; have f4_ := f1_.symm; have f5_ := f3_.symm; clear f1_ f2_ f3_; subst f4_; subst f5_))
     refine start_ (n := 10) (S := fun w' => w'.cell? ⟨gb346, 0, none⟩ = some (.int .i64 a0_0) ∧ w'.cell? ⟨gb346, 1, none⟩ = some (.int .i64 a0_1) ∧ w'.cell? ⟨gb346, 2, none⟩ = some (.string a0_2) ∧ w'.cell? ⟨gb346, 3, none⟩ = some (.int .i64 a0_3) ∧ w'.cell? ⟨gb346, 4, none⟩ = some (.int .i64 a0_4) ∧ w'.cell? ⟨gb346, 5, none⟩ = some (.int .i64 a0_5) ∧ w'.cell? ⟨gb346, 6, none⟩ = some (.string a0_6) ∧ w'.cell? ⟨gb346, 7, none⟩ = some (.int .i64 a0_7) ∧ w'.cell? ⟨gb346, 8, none⟩ = some (.int .i64 a0_8) ∧ w'.cell? ⟨gb346, 9, none⟩ = some (.int .i64 a0_9) ∧ w'.cell? ⟨gb346, 10, none⟩ = some (.string a0_10) ∧ w'.cell? ⟨gb346, 11, none⟩ = some (.int .i64 a0_11) ∧ w'.cell? ⟨gb346, 12, none⟩ = some (.int .i64 a0_12) ∧ w'.cell? ⟨gb346, 13, none⟩ = some (.int .i64 a0_13) ∧ w'.cell? ⟨gb346, 14, none⟩ = some (.int .i64 a0_14) ∧ w'.cell? ⟨gb346, 15, none⟩ = some (.int .i64 a0_15)) (ds := []) #[false, false, false, false, false, false, false, false, false, false] (by kernel_rfl) rfl rfl (cz16 BK346.out) (fun hHeld => ?_); refine with_tabW impl_PutItem.tab5 impl_PutItem.bits5 (fun HT_ HW_ => ?_)
     generalize w46.drew = w47 at HO_3 HO357 HO360 HO363 HO366 HO369 HO372 BK346 HB hHeld ⊢
     refine pure_ (i := 0) (N := some 57) (v := ?_) (a' := ?_) #[true, false, false, false, false, false, false, false, false, false] rfl rfl (any_of HT_.out (by kernel_rfl)) (fun _ _ _ h => h) (Or.inl ⟨by rfl, ?_⟩) ?_ ?_
     rotate_left
     ·
      intro w'
      go_simp
      with_reducible rfl
     rotate_left
     ·
      simp only [Act.put, List.setIfInBounds_toArray, List.set_cons_zero, List.set_cons_succ, i64_w, i32_w]
      rfl
     refine pure_ (i := 1) (N := some 58) (v := ?_) (a' := ?_) #[true, true, false, false, false, false, false, false, false, false] rfl rfl (any_of HT_.out (by kernel_rfl)) (fun _ _ _ h => h) (Or.inl ⟨by rfl, ?_⟩) ?_ ?_
     rotate_left
     ·
      intro w'
      go_simp
      with_reducible rfl
     rotate_left
     ·
      simp only [Act.put, List.setIfInBounds_toArray, List.set_cons_zero, List.set_cons_succ, i64_w, i32_w]
      rfl
     refine pure_ (i := 2) (N := some 59) (v := ?_) (a' := ?_) #[true, true, true, false, false, false, false, false, false, false] rfl rfl (any_of HT_.out (by kernel_rfl)) (fun _ _ _ h => h) (Or.inl ⟨by rfl, ?_⟩) ?_ ?_
     rotate_left
     ·
      intro w'
      go_simp
      with_reducible rfl
     rotate_left
     ·
      simp only [Act.put, List.setIfInBounds_toArray, List.set_cons_zero, List.set_cons_succ, i64_w, i32_w]
      rfl
     refine pure_ (i := 5) (N := some 62) (v := ?_) (a' := ?_) #[true, true, true, false, false, true, false, false, false, false] rfl rfl (any_of HT_.out (by kernel_rfl)) (fun _ _ _ h => h) (Or.inl ⟨by rfl, ?_⟩) ?_ ?_
     rotate_left
     ·
      intro w'
      go_simp
      with_reducible rfl
     rotate_left
     ·
      simp only [Act.put, List.setIfInBounds_toArray, List.set_cons_zero, List.set_cons_succ, i64_w, i32_w]
      rfl
     refine pure_ (i := 6) (N := some 63) (v := ?_) (a' := ?_) #[true, true, true, false, false, true, true, false, false, false] rfl rfl (any_of HT_.out (by kernel_rfl)) (fun _ _ _ h => h) (Or.inl ⟨by rfl, ?_⟩) ?_ ?_
     rotate_left
     ·
      intro w'
      go_simp
      with_reducible rfl
     rotate_left
     ·
      simp only [Act.put, List.setIfInBounds_toArray, List.set_cons_zero, List.set_cons_succ, i64_w, i32_w]
      rfl
     refine take_ (i := 3) (N := some 60) (v := ?_) (a' := ?_) #[true, true, true, true, false, true, true, false, false, false] rfl rfl (take_ofW HT_.out HW_.out (by kernel_rfl)) (fun _ _ _ h => h) (Or.inl ⟨by rfl, ?_⟩) hHeld ?_ ?_
     rotate_left
     ·
      rintro w' ⟨s0, s1, s2, s3, s4, s5, s6, s7, s8, s9, s10, s11, s12, s13, s14, s15⟩
      go_simp
      with_reducible rfl
     rotate_left
     ·
      simp only [Act.put, List.setIfInBounds_toArray, List.set_cons_zero, List.set_cons_succ, i64_w, i32_w]
      rfl
     refine take_ (i := 7) (N := some 64) (v := ?_) (a' := ?_) #[true, true, true, true, false, true, true, true, false, false] rfl rfl (take_ofW HT_.out HW_.out (by kernel_rfl)) (fun _ _ _ h => h) (Or.inl ⟨by rfl, ?_⟩) hHeld ?_ ?_
     rotate_left
     ·
      rintro w' ⟨s0, s1, s2, s3, s4, s5, s6, s7, s8, s9, s10, s11, s12, s13, s14, s15⟩
      go_simp
      with_reducible rfl
     rotate_left
     ·
      simp only [Act.put, List.setIfInBounds_toArray, List.set_cons_zero, List.set_cons_succ, i64_w, i32_w]
      rfl
     refine one_ (i := 4) (N := some 61) #[true, true, true, true, true, true, true, true, false, false] rfl rfl (one_of HT_.out (by kernel_rfl)) (by decide) (fun K hK => ?_)
     refine goes_ Try.func82 (by kernel_rfl) rfl #[.slice Ao48 t370.length co48, .int .i64 a0_7] (by rfl) rfl rfl (by (try simp only [List.map_toArray, List.map_cons, List.map_nil]); first | done | rfl | (simp only [List.length_drop, List.length_take]; rfl)) ?_
     with_reducible refine (impl_PutWord.calls _ _ t370 a0_7 t373 _ ?side1 ?side2 A28.out).mono ?_
     (case side1 => exact qC ((Kd.R_reads' HO372.out).2.2))
     (case side2 => exact (Kd.R_reads' HO372.out).2.1)
     rintro e w49 ⟨v374, rfl, ho0, hb⟩
     refine ⟨_, rfl, ?_⟩
     have HO375 := am_ (Kd.R_lower (Kd.R_new' (Kd.R_new' (Kd.R_new' (Kd.R_new' (Kd.R_new' (Kd.R_new' (Kd.R_new' ho0 (Kd.R_lt (qR HO_3))) (Kd.R_lt (qR HO357))) (Kd.R_lt (qR HO360))) (Kd.R_lt (qR HO363))) (Kd.R_lt (qR HO366))) (Kd.R_lt (qR HO369))) (Kd.R_lt (qR HO372))) (below_size (qB HB)))
     replace HO_3 := am_ (Kd.R_elder' (qR HO_3) (Kd.R_base ho0) hb)
     replace HO357 := am_ (Kd.R_elder' (qR HO357) (Kd.R_base ho0) hb)
     replace HO360 := am_ (Kd.R_elder' (qR HO360) (Kd.R_base ho0) hb)
     replace HO363 := am_ (Kd.R_elder' (qR HO363) (Kd.R_base ho0) hb)
     replace HO366 := am_ (Kd.R_elder' (qR HO366) (Kd.R_base ho0) hb)
     replace HO369 := am_ (Kd.R_elder' (qR HO369) (Kd.R_base ho0) hb)
     replace HO372 := am_ (Kd.R_elder' (qR HO372) (Kd.R_base ho0) hb)
     replace BK346 := am_ (blk_below (qK BK346) hb)
     replace HB := am_ (below_step (qB HB) hb)
     (try clear hb ho0)
     obtain ⟨Ao50, co50, eo50⟩ := Kd.R_slice HO375.out
     (first | subst eo50 | (injection eo50 with f1_ f2_ f3_; have f4_ := f1_.symm; have f5_ := f3_.symm; clear f1_ f2_ f3_; subst f4_; subst f5_))
     refine hK.out _ _ (cz16 BK346.out) (fun hHeld => ?_)
     clear hK K
     refine norm_ (a' := ?_) ?_ ?_
     rotate_left
     ·
      show Act.put _ (some 61) _ = _
      simp only [Act.put, List.setIfInBounds_toArray, List.set_cons_zero, List.set_cons_succ, i64_w, i32_w]
      rfl
     refine one_ (i := 8) (N := some 65) #[true, true, true, true, true, true, true, true, true, false] rfl rfl (one_of HT_.out (by kernel_rfl)) (by decide) (fun K hK => ?_)
     refine goes_ Try.func82 (by kernel_rfl) rfl #[.slice Ao50 t373.length co50, .int .i64 a0_8] (by rfl) rfl rfl (by (try simp only [List.map_toArray, List.map_cons, List.map_nil]); first | done | rfl | (simp only [List.length_drop, List.length_take]; rfl)) ?_
     with_reducible refine (impl_PutWord.calls _ _ t373 a0_8 t376 _ ?side1 ?side2 A29.out).mono ?_
     (case side1 => exact qC ((Kd.R_reads' HO375.out).2.2))
     (case side2 => exact (Kd.R_reads' HO375.out).2.1)
     rintro e w51 ⟨v377, rfl, ho0, hb⟩
     refine ⟨_, rfl, ?_⟩
     have HO378 := am_ (Kd.R_lower (Kd.R_new' (Kd.R_new' (Kd.R_new' (Kd.R_new' (Kd.R_new' (Kd.R_new' (Kd.R_new' (Kd.R_new' ho0 (Kd.R_lt (qR HO_3))) (Kd.R_lt (qR HO357))) (Kd.R_lt (qR HO360))) (Kd.R_lt (qR HO363))) (Kd.R_lt (qR HO366))) (Kd.R_lt (qR HO369))) (Kd.R_lt (qR HO372))) (Kd.R_lt (qR HO375))) (below_size (qB HB)))
     replace HO_3 := am_ (Kd.R_elder' (qR HO_3) (Kd.R_base ho0) hb)
     replace HO357 := am_ (Kd.R_elder' (qR HO357) (Kd.R_base ho0) hb)
     replace HO360 := am_ (Kd.R_elder' (qR HO360) (Kd.R_base ho0) hb)
     replace HO363 := am_ (Kd.R_elder' (qR HO363) (Kd.R_base ho0) hb)
     replace HO366 := am_ (Kd.R_elder' (qR HO366) (Kd.R_base ho0) hb)
     replace HO369 := am_ (Kd.R_elder' (qR HO369) (Kd.R_base ho0) hb)
     replace HO372 := am_ (Kd.R_elder' (qR HO372) (Kd.R_base ho0) hb)
     replace HO375 := am_ (Kd.R_elder' (qR HO375) (Kd.R_base ho0) hb)
     replace BK346 := am_ (blk_below (qK BK346) hb)
     replace HB := am_ (below_step (qB HB) hb)
     (try clear hb ho0)
     refine hK.out _ _ (cz16 BK346.out) (fun hHeld => ?_)
     clear hK K
     refine norm_ (a' := ?_) ?_ ?_
     rotate_left
     ·
      show Act.put _ (some 65) _ = _
      simp only [Act.put, List.setIfInBounds_toArray, List.set_cons_zero, List.set_cons_succ, i64_w, i32_w]
      rfl
     refine pure_ (i := 9) (N := some 2) (v := ?_) (a' := ?_) #[true, true, true, true, true, true, true, true, true, true] rfl rfl (any_of HT_.out (by kernel_rfl)) (fun _ _ _ h => h) (Or.inl ⟨by rfl, ?_⟩) ?_ ?_
     rotate_left
     ·
      intro w'
      go_simp
      with_reducible rfl
     rotate_left
     ·
      simp only [Act.put, List.setIfInBounds_toArray, List.set_cons_zero, List.set_cons_succ, i64_w, i32_w]
      rfl
     refine done_ (done_of HT_.out (by kernel_rfl)) ?_
     try go_wp2
     go_ret
     exact ⟨_, by first | rfl | (simp [errW_none, errW_some] <;> rfl) | (simp [*, errW_none, errW_some] <;> rfl), by (with_reducible repeat (first | apply Kd.R_alloc | apply Kd.R_drewN | apply Kd.R_drew)); exact Kd.R_mono HO378.out (fun _ hk => trivial), qB HB⟩
    ·
     rw [if_neg c23] at H
     exact absurd H (by simp)
   ·
    replace c21 := Bool.eq_false_iff.mpr c21
    subst c21
    have H1 : (if a0_0 = 2 then ((impl_LineOk.f kj1 a0_9 a0_10 a0_11 a0_12 a0_13 a0_14 a0_15).bind fun t379 => (if t379 = true then (if (a0_1 == 0 && (a0_2.toList == ([] : List UInt8) && (a0_3 == 0 && (a0_4 == 0 && (a0_5 == 0 && (a0_6.toList == ([] : List UInt8) && (a0_7 == 0 && (a0_8 == 0)))))))) = true then ((impl_wordOk.f a0_15).bind fun t380 => (impl_PutItem.j1 kj1 y347 t380 a0_0 a0_1 a0_2 a0_3 a0_4 a0_5 a0_6 a0_7 a0_8 a0_9 a0_10 a0_11 a0_12 a0_13 a0_14 a0_15)) else (impl_PutItem.j1 kj1 y347 false a0_0 a0_1 a0_2 a0_3 a0_4 a0_5 a0_6 a0_7 a0_8 a0_9 a0_10 a0_11 a0_12 a0_13 a0_14 a0_15)) else (impl_PutItem.j1 kj1 y347 false a0_0 a0_1 a0_2 a0_3 a0_4 a0_5 a0_6 a0_7 a0_8 a0_9 a0_10 a0_11 a0_12 a0_13 a0_14 a0_15))) else (impl_PutItem.j1 kj1 y347 false a0_0 a0_1 a0_2 a0_3 a0_4 a0_5 a0_6 a0_7 a0_8 a0_9 a0_10 a0_11 a0_12 a0_13 a0_14 a0_15)) = some r := by rw [if_neg (show ¬ (false = true) by decide)] at H; exact H
    clear H
    have H := H1
    clear H1
    have HC52 := Aside0.mk H
    clear H
    go_upto_region 6 with (fail)
    go_cut [66] (fun v66 wc => ∃ (kq : Nat) (x66_51 : Bool), v66 = .bool x66_51 ∧ Aside0 (impl_PutItem.j1 kq y347 x66_51 a0_0 a0_1 a0_2 a0_3 a0_4 a0_5 a0_6 a0_7 a0_8 a0_9 a0_10 a0_11 a0_12 a0_13 a0_14 a0_15 = some r) ∧ Aside0 (kq ≤ kj1) ∧ Aside0 (Kd.R (Kd.int .u8) 5 wc w.heap.size (fun _ => True) v348 y347) ∧ Aside0 (wc.heap[gb346]? = some (.cells #[.int .i64 a0_0, .int .i64 a0_1, .string a0_2, .int .i64 a0_3, .int .i64 a0_4, .int .i64 a0_5, .string a0_6, .int .i64 a0_7, .int .i64 a0_8, .int .i64 a0_9, .string a0_10, .int .i64 a0_11, .int .i64 a0_12, .int .i64 a0_13, .int .i64 a0_14, .int .i64 a0_15] 48 (0, 0))) ∧ Aside0 (Below w.heap.size w wc))
    case first =>
     have H := HC52.out
     clear HC52
     by_cases c53 : a0_0 = 2
     ·
      rw [if_pos c53] at H
      have c53b0 : (a0_0 == 2) = true := beq_iff_eq.mpr c53
      have c53b1 : (a0_0 != 2) = false := bne_eq_false_iff_eq.mpr c53
      clear c53
      (first | rw [c53b0] | (simp only [i64_w, i32_w]; rw [c53b0]) | skip)
      replace H := Option.bind_eq_some_iff.mp H
      obtain ⟨t379, A540, H⟩ := H
      replace H : (if t379 = true then (if (a0_1 == 0 && (a0_2.toList == ([] : List UInt8) && (a0_3 == 0 && (a0_4 == 0 && (a0_5 == 0 && (a0_6.toList == ([] : List UInt8) && (a0_7 == 0 && (a0_8 == 0)))))))) = true then ((impl_wordOk.f a0_15).bind fun t380 => (impl_PutItem.j1 kj1 y347 t380 a0_0 a0_1 a0_2 a0_3 a0_4 a0_5 a0_6 a0_7 a0_8 a0_9 a0_10 a0_11 a0_12 a0_13 a0_14 a0_15)) else (impl_PutItem.j1 kj1 y347 false a0_0 a0_1 a0_2 a0_3 a0_4 a0_5 a0_6 a0_7 a0_8 a0_9 a0_10 a0_11 a0_12 a0_13 a0_14 a0_15)) else (impl_PutItem.j1 kj1 y347 false a0_0 a0_1 a0_2 a0_3 a0_4 a0_5 a0_6 a0_7 a0_8 a0_9 a0_10 a0_11 a0_12 a0_13 a0_14 a0_15)) = some r := H
      have A54 := Aside0.mk A540
      clear A540
      by_cases c55 : t379 = true
      ·
       subst c55
       have H1 : (if (a0_1 == 0 && (a0_2.toList == ([] : List UInt8) && (a0_3 == 0 && (a0_4 == 0 && (a0_5 == 0 && (a0_6.toList == ([] : List UInt8) && (a0_7 == 0 && (a0_8 == 0)))))))) = true then ((impl_wordOk.f a0_15).bind fun t380 => (impl_PutItem.j1 kj1 y347 t380 a0_0 a0_1 a0_2 a0_3 a0_4 a0_5 a0_6 a0_7 a0_8 a0_9 a0_10 a0_11 a0_12 a0_13 a0_14 a0_15)) else (impl_PutItem.j1 kj1 y347 false a0_0 a0_1 a0_2 a0_3 a0_4 a0_5 a0_6 a0_7 a0_8 a0_9 a0_10 a0_11 a0_12 a0_13 a0_14 a0_15)) = some r := by rw [if_pos rfl] at H; exact H
       clear H
       have H := H1
       clear H1
       by_cases c56 : (a0_1 == 0 && (a0_2.toList == ([] : List UInt8) && (a0_3 == 0 && (a0_4 == 0 && (a0_5 == 0 && (a0_6.toList == ([] : List UInt8) && (a0_7 == 0 && (a0_8 == 0)))))))) = true
       ·
        rw [if_pos c56] at H
        have c56b0 : (a0_1 == 0 && (a0_2.toList == ([] : List UInt8) && (a0_3 == 0 && (a0_4 == 0 && (a0_5 == 0 && (a0_6.toList == ([] : List UInt8) && (a0_7 == 0 && (a0_8 == 0)))))))) = true := c56
        (try (have c56b0e := c56b0; simp only [Go.Proofs.YtahfemlfdpbkkaaV.beq_nil, Go.Proofs.YtahfemlfdpbkkaaV.bne_nil] at c56b0e))
        (try (have c56b1 : decide (a0_1 = 0 && (a0_2.toList == ([] : List UInt8) && (a0_3 == 0 && (a0_4 == 0 && (a0_5 == 0 && (a0_6.toList == ([] : List UInt8) && (a0_7 == 0 && (a0_8 == 0)))))))) = true := by simpa using c56))
        (try (have c56b1e := c56b1; simp only [Go.Proofs.YtahfemlfdpbkkaaV.beq_nil, Go.Proofs.YtahfemlfdpbkkaaV.bne_nil] at c56b1e))
        (try (have c56b2 : (a0_1 == 0 && (a0_2.toList == ([] : List UInt8) && (a0_3 == 0 && (a0_4 == 0 && (a0_5 == 0 && (a0_6.toList == ([] : List UInt8) && (a0_7 == 0 && (a0_8 == 0)))))))) = true := by simpa using c56))
        (try (have c56b2e := c56b2; simp only [Go.Proofs.YtahfemlfdpbkkaaV.beq_nil, Go.Proofs.YtahfemlfdpbkkaaV.bne_nil] at c56b2e))
        clear c56
        replace H := Option.bind_eq_some_iff.mp H
        obtain ⟨t380, A570, H⟩ := H
        replace H : (impl_PutItem.j1 kj1 y347 t380 a0_0 a0_1 a0_2 a0_3 a0_4 a0_5 a0_6 a0_7 a0_8 a0_9 a0_10 a0_11 a0_12 a0_13 a0_14 a0_15) = some r := H
        have A57 := Aside0.mk A570
        clear A570
        have H' := Aside0.mk H
        clear H
        obtain ⟨hcz58_0, hcz58_1, hcz58_2, hcz58_3, hcz58_4, hcz58_5, hcz58_6, hcz58_7, hcz58_8, hcz58_9, hcz58_10, hcz58_11, hcz58_12, hcz58_13, hcz58_14, hcz58_15⟩ := cz16 BK346.out
        obtain ⟨hfz58_0, hfz58_1, hfz58_2, hfz58_3, hfz58_4, hfz58_5, hfz58_6, hfz58_7, hfz58_8, hfz58_9, hfz58_10, hfz58_11, hfz58_12, hfz58_13, hfz58_14, hfz58_15⟩ := fz16 BK346.out
        go_wp2_with (first | (go_at_call 84; (with_reducible refine (impl_LineOk.calls kj1 a0_9 a0_10 a0_11 a0_12 a0_13 a0_14 a0_15 true _ A54.out).mono ?_); rintro e w59 ⟨rfl, hb⟩; replace HO_3 := am_ (Kd.R_below (qR HO_3) hb); replace BK346 := am_ (blk_below (qK BK346) hb); replace HB := am_ (below_step (qB HB) hb); (try clear hb); (try clear hb2); (try clear hk); (try clear hi); obtain ⟨hcz60_0, hcz60_1, hcz60_2, hcz60_3, hcz60_4, hcz60_5, hcz60_6, hcz60_7, hcz60_8, hcz60_9, hcz60_10, hcz60_11, hcz60_12, hcz60_13, hcz60_14, hcz60_15⟩ := cz16 BK346.out; obtain ⟨hfz60_0, hfz60_1, hfz60_2, hfz60_3, hfz60_4, hfz60_5, hfz60_6, hfz60_7, hfz60_8, hfz60_9, hfz60_10, hfz60_11, hfz60_12, hfz60_13, hfz60_14, hfz60_15⟩ := fz16 BK346.out) | (go_at_call 80; (with_reducible refine (impl_wordOk.calls a0_15 t380 _ A57.out).mono ?_); rintro e w' ⟨rfl, ⟨nd, rfl⟩⟩))
        go_meet
        case rel => exact ⟨_, (t380), (by first | rfl | (simp; done) | (simp [*]; done) | (simp [Go.Proofs.YtahfemlfdpbkkaaV.bne_nil, Go.Proofs.YtahfemlfdpbkkaaV.beq_nil]; done)), H', ⟨by have := HJ1.out; first | omega | exact Nat.le_refl _⟩, ⟨qR HO_3⟩, ⟨qK BK346⟩, ⟨qB HB⟩⟩
       ·
        rw [if_neg c56] at H
        have c56b0 : (a0_1 == 0 && (a0_2.toList == ([] : List UInt8) && (a0_3 == 0 && (a0_4 == 0 && (a0_5 == 0 && (a0_6.toList == ([] : List UInt8) && (a0_7 == 0 && (a0_8 == 0)))))))) = false := by simpa using c56
        (try (have c56b0e := c56b0; simp only [Go.Proofs.YtahfemlfdpbkkaaV.beq_nil, Go.Proofs.YtahfemlfdpbkkaaV.bne_nil] at c56b0e))
        (try (have c56b1 : decide (a0_1 = 0 && (a0_2.toList == ([] : List UInt8) && (a0_3 == 0 && (a0_4 == 0 && (a0_5 == 0 && (a0_6.toList == ([] : List UInt8) && (a0_7 == 0 && (a0_8 == 0)))))))) = false := by simpa using c56))
        (try (have c56b1e := c56b1; simp only [Go.Proofs.YtahfemlfdpbkkaaV.beq_nil, Go.Proofs.YtahfemlfdpbkkaaV.bne_nil] at c56b1e))
        (try (have c56b2 : (a0_1 == 0 && (a0_2.toList == ([] : List UInt8) && (a0_3 == 0 && (a0_4 == 0 && (a0_5 == 0 && (a0_6.toList == ([] : List UInt8) && (a0_7 == 0 && (a0_8 == 0)))))))) = false := by simpa using c56))
        (try (have c56b2e := c56b2; simp only [Go.Proofs.YtahfemlfdpbkkaaV.beq_nil, Go.Proofs.YtahfemlfdpbkkaaV.bne_nil] at c56b2e))
        (try (have c56b3 : ¬ (a0_1 = 0 && (a0_2.toList == ([] : List UInt8) && (a0_3 == 0 && (a0_4 == 0 && (a0_5 == 0 && (a0_6.toList == ([] : List UInt8) && (a0_7 == 0 && (a0_8 == 0)))))))) := by simpa using c56))
        (try (have c56b3e := c56b3; simp only [Go.Proofs.YtahfemlfdpbkkaaV.beq_nil, Go.Proofs.YtahfemlfdpbkkaaV.bne_nil] at c56b3e))
        clear c56
        have H' := Aside0.mk H
        clear H
        obtain ⟨hcz61_0, hcz61_1, hcz61_2, hcz61_3, hcz61_4, hcz61_5, hcz61_6, hcz61_7, hcz61_8, hcz61_9, hcz61_10, hcz61_11, hcz61_12, hcz61_13, hcz61_14, hcz61_15⟩ := cz16 BK346.out
        obtain ⟨hfz61_0, hfz61_1, hfz61_2, hfz61_3, hfz61_4, hfz61_5, hfz61_6, hfz61_7, hfz61_8, hfz61_9, hfz61_10, hfz61_11, hfz61_12, hfz61_13, hfz61_14, hfz61_15⟩ := fz16 BK346.out
        go_wp2_with (first | (go_at_call 84; (with_reducible refine (impl_LineOk.calls kj1 a0_9 a0_10 a0_11 a0_12 a0_13 a0_14 a0_15 true _ A54.out).mono ?_); rintro e w62 ⟨rfl, hb⟩; replace HO_3 := am_ (Kd.R_below (qR HO_3) hb); replace BK346 := am_ (blk_below (qK BK346) hb); replace HB := am_ (below_step (qB HB) hb); (try clear hb); (try clear hb2); (try clear hk); (try clear hi); obtain ⟨hcz63_0, hcz63_1, hcz63_2, hcz63_3, hcz63_4, hcz63_5, hcz63_6, hcz63_7, hcz63_8, hcz63_9, hcz63_10, hcz63_11, hcz63_12, hcz63_13, hcz63_14, hcz63_15⟩ := cz16 BK346.out; obtain ⟨hfz63_0, hfz63_1, hfz63_2, hfz63_3, hfz63_4, hfz63_5, hfz63_6, hfz63_7, hfz63_8, hfz63_9, hfz63_10, hfz63_11, hfz63_12, hfz63_13, hfz63_14, hfz63_15⟩ := fz16 BK346.out))
        go_meet
        case rel => exact ⟨_, (false), (by first | rfl | (simp; done) | (simp [*]; done) | (simp [Go.Proofs.YtahfemlfdpbkkaaV.bne_nil, Go.Proofs.YtahfemlfdpbkkaaV.beq_nil]; done)), H', ⟨by have := HJ1.out; first | omega | exact Nat.le_refl _⟩, ⟨qR HO_3⟩, ⟨qK BK346⟩, ⟨qB HB⟩⟩
      ·
       replace c55 := Bool.eq_false_iff.mpr c55
       subst c55
       have H1 : (impl_PutItem.j1 kj1 y347 false a0_0 a0_1 a0_2 a0_3 a0_4 a0_5 a0_6 a0_7 a0_8 a0_9 a0_10 a0_11 a0_12 a0_13 a0_14 a0_15) = some r := by rw [if_neg (show ¬ (false = true) by decide)] at H; exact H
       clear H
       have H := H1
       clear H1
       have H' := Aside0.mk H
       clear H
       obtain ⟨hcz64_0, hcz64_1, hcz64_2, hcz64_3, hcz64_4, hcz64_5, hcz64_6, hcz64_7, hcz64_8, hcz64_9, hcz64_10, hcz64_11, hcz64_12, hcz64_13, hcz64_14, hcz64_15⟩ := cz16 BK346.out
       obtain ⟨hfz64_0, hfz64_1, hfz64_2, hfz64_3, hfz64_4, hfz64_5, hfz64_6, hfz64_7, hfz64_8, hfz64_9, hfz64_10, hfz64_11, hfz64_12, hfz64_13, hfz64_14, hfz64_15⟩ := fz16 BK346.out
       go_wp2_with (first | (go_at_call 84; (with_reducible refine (impl_LineOk.calls kj1 a0_9 a0_10 a0_11 a0_12 a0_13 a0_14 a0_15 false _ A54.out).mono ?_); rintro e w65 ⟨rfl, hb⟩; replace HO_3 := am_ (Kd.R_below (qR HO_3) hb); replace BK346 := am_ (blk_below (qK BK346) hb); replace HB := am_ (below_step (qB HB) hb); (try clear hb); (try clear hb2); (try clear hk); (try clear hi)))
       go_meet
       case rel => exact ⟨_, (false), (by first | rfl | (simp; done) | (simp [*]; done) | (simp [Go.Proofs.YtahfemlfdpbkkaaV.bne_nil, Go.Proofs.YtahfemlfdpbkkaaV.beq_nil]; done)), H', ⟨by have := HJ1.out; first | omega | exact Nat.le_refl _⟩, ⟨qR HO_3⟩, ⟨qK BK346⟩, ⟨qB HB⟩⟩
     ·
      rw [if_neg c53] at H
      have c53b0 : (a0_0 == 2) = false := beq_eq_false_iff_ne.mpr c53
      have c53b1 : (a0_0 != 2) = true := bne_iff_ne.mpr c53
      (first | rw [c53b0] | (simp only [i64_w, i32_w]; rw [c53b0]) | skip)
      have H' := Aside0.mk H
      clear H
      obtain ⟨hcz66_0, hcz66_1, hcz66_2, hcz66_3, hcz66_4, hcz66_5, hcz66_6, hcz66_7, hcz66_8, hcz66_9, hcz66_10, hcz66_11, hcz66_12, hcz66_13, hcz66_14, hcz66_15⟩ := cz16 BK346.out
      obtain ⟨hfz66_0, hfz66_1, hfz66_2, hfz66_3, hfz66_4, hfz66_5, hfz66_6, hfz66_7, hfz66_8, hfz66_9, hfz66_10, hfz66_11, hfz66_12, hfz66_13, hfz66_14, hfz66_15⟩ := fz16 BK346.out
      go_wp2
      go_meet
      case rel => exact ⟨_, (false), (by first | rfl | (simp; done) | (simp [*]; done) | (simp [Go.Proofs.YtahfemlfdpbkkaaV.bne_nil, Go.Proofs.YtahfemlfdpbkkaaV.beq_nil]; done)), H', ⟨by have := HJ1.out; first | omega | exact Nat.le_refl _⟩, ⟨qR HO_3⟩, ⟨qK BK346⟩, ⟨qB HB⟩⟩
    case rest =>
     clear HC52
     try clear c2
     try clear p2
     try clear c5
     try clear c8
     try clear c21
     try clear c23
     try clear c53
     try clear c53b0
     try clear c53b1
     try clear c55
     try clear c56
     try clear c56b0
     try clear c56b1
     try clear c56b2
     (try clear hcz58_0 hcz58_1 hcz58_10 hcz58_11 hcz58_12 hcz58_13 hcz58_14 hcz58_15 hcz58_2 hcz58_3 hcz58_4 hcz58_5 hcz58_6 hcz58_7 hcz58_8 hcz58_9)
     (try clear hcz60_0 hcz60_1 hcz60_10 hcz60_11 hcz60_12 hcz60_13 hcz60_14 hcz60_15 hcz60_2 hcz60_3 hcz60_4 hcz60_5 hcz60_6 hcz60_7 hcz60_8 hcz60_9)
     (try clear hcz61_0 hcz61_1 hcz61_10 hcz61_11 hcz61_12 hcz61_13 hcz61_14 hcz61_15 hcz61_2 hcz61_3 hcz61_4 hcz61_5 hcz61_6 hcz61_7 hcz61_8 hcz61_9)
     (try clear hcz63_0 hcz63_1 hcz63_10 hcz63_11 hcz63_12 hcz63_13 hcz63_14 hcz63_15 hcz63_2 hcz63_3 hcz63_4 hcz63_5 hcz63_6 hcz63_7 hcz63_8 hcz63_9)
     (try clear hcz64_0 hcz64_1 hcz64_10 hcz64_11 hcz64_12 hcz64_13 hcz64_14 hcz64_15 hcz64_2 hcz64_3 hcz64_4 hcz64_5 hcz64_6 hcz64_7 hcz64_8 hcz64_9)
     (try clear hcz66_0 hcz66_1 hcz66_10 hcz66_11 hcz66_12 hcz66_13 hcz66_14 hcz66_15 hcz66_2 hcz66_3 hcz66_4 hcz66_5 hcz66_6 hcz66_7 hcz66_8 hcz66_9)
     (try clear hfz58_0 hfz58_1 hfz58_10 hfz58_11 hfz58_12 hfz58_13 hfz58_14 hfz58_15 hfz58_2 hfz58_3 hfz58_4 hfz58_5 hfz58_6 hfz58_7 hfz58_8 hfz58_9)
     (try clear hfz60_0 hfz60_1 hfz60_10 hfz60_11 hfz60_12 hfz60_13 hfz60_14 hfz60_15 hfz60_2 hfz60_3 hfz60_4 hfz60_5 hfz60_6 hfz60_7 hfz60_8 hfz60_9)
     (try clear hfz61_0 hfz61_1 hfz61_10 hfz61_11 hfz61_12 hfz61_13 hfz61_14 hfz61_15 hfz61_2 hfz61_3 hfz61_4 hfz61_5 hfz61_6 hfz61_7 hfz61_8 hfz61_9)
     (try clear hfz63_0 hfz63_1 hfz63_10 hfz63_11 hfz63_12 hfz63_13 hfz63_14 hfz63_15 hfz63_2 hfz63_3 hfz63_4 hfz63_5 hfz63_6 hfz63_7 hfz63_8 hfz63_9)
     (try clear hfz64_0 hfz64_1 hfz64_10 hfz64_11 hfz64_12 hfz64_13 hfz64_14 hfz64_15 hfz64_2 hfz64_3 hfz64_4 hfz64_5 hfz64_6 hfz64_7 hfz64_8 hfz64_9)
     (try clear hfz66_0 hfz66_1 hfz66_10 hfz66_11 hfz66_12 hfz66_13 hfz66_14 hfz66_15 hfz66_2 hfz66_3 hfz66_4 hfz66_5 hfz66_6 hfz66_7 hfz66_8 hfz66_9)
     obtain ⟨kq, x66_51, rfl, HA, HJ51, HO_3, BK346, HB⟩ := hcut
     cases kq with
     | zero => exact absurd HA.out (by simp [impl_PutItem.j1])
     | succ kj51 =>
      have H := HA.out
      clear HA
      simp only [impl_PutItem.j1] at H
      by_cases c67 : x66_51 = true
      ·
       subst c67
       have H1 : ((impl_PutWord.f y347 a0_9).bind fun t381 => ((some (([(a0_12) % 256] : List Int) : List Int)).bind fun y384 => (if t381.length + y384.length < 140737488355328 then ((impl_PutText.f kj51 (t381 ++ y384) a0_10).bind fun t390 => ((impl_PutWord.f t390 a0_11).bind fun t393 => ((impl_putSince.f t393 a0_13).bind fun t396 => ((impl_PutWord.f t396 a0_14).bind fun t399 => ((impl_PutWord.f t399 a0_15).bind fun t402 => (some t402)))))) else (none)))) = some r := by rw [if_pos rfl] at H; exact H
       clear H
       have H := H1
       clear H1
       replace H := Option.bind_eq_some_iff.mp H
       obtain ⟨t381, A680, H⟩ := H
       replace H : ((some (([(a0_12) % 256] : List Int) : List Int)).bind fun y384 => (if t381.length + y384.length < 140737488355328 then ((impl_PutText.f kj51 (t381 ++ y384) a0_10).bind fun t390 => ((impl_PutWord.f t390 a0_11).bind fun t393 => ((impl_putSince.f t393 a0_13).bind fun t396 => ((impl_PutWord.f t396 a0_14).bind fun t399 => ((impl_PutWord.f t399 a0_15).bind fun t402 => (some t402)))))) else (none))) = some r := H
       have A68 := Aside0.mk A680
       clear A680
       obtain ⟨y384, hy384⟩ : ∃ y_ : List Int, y_ = (([(a0_12) % 256] : List Int)) := ⟨_, rfl⟩
       replace H : (if t381.length + y384.length < 140737488355328 then ((impl_PutText.f kj51 (t381 ++ y384) a0_10).bind fun t390 => ((impl_PutWord.f t390 a0_11).bind fun t393 => ((impl_putSince.f t393 a0_13).bind fun t396 => ((impl_PutWord.f t396 a0_14).bind fun t399 => ((impl_PutWord.f t399 a0_15).bind fun t402 => (some t402)))))) else (none)) = some r := by first | (rw [hy384]; with_reducible exact H) | (have H2_ := (Option.bind_some _ _).symm.trans H; rw [hy384]; with_reducible exact H2_) | (have H2_ := (Option.bind_some _ _).symm.trans H; with_reducible exact H2_) | with_reducible exact H | (rw [hy384]; exact H) | exact H
       have Ny384 := Aside0.mk hy384
       clear hy384
       by_cases c69 : t381.length + y384.length < 140737488355328
       ·
        rw [if_pos c69] at H
        have LMc69 := Aside0.mk c69
        clear c69
        obtain ⟨y387, hy387⟩ : ∃ y_ : List Int, y_ = (t381 ++ y384) := ⟨_, rfl⟩
        replace H : ((impl_PutText.f kj51 y387 a0_10).bind fun t390 => ((impl_PutWord.f t390 a0_11).bind fun t393 => ((impl_putSince.f t393 a0_13).bind fun t396 => ((impl_PutWord.f t396 a0_14).bind fun t399 => ((impl_PutWord.f t399 a0_15).bind fun t402 => (some t402)))))) = some r := by first | (rw [hy387]; with_reducible exact H) | (have H2_ := (Option.bind_some _ _).symm.trans H; rw [hy387]; with_reducible exact H2_) | (have H2_ := (Option.bind_some _ _).symm.trans H; with_reducible exact H2_) | with_reducible exact H | (rw [hy387]; exact H) | exact H
        have Ny387 := Aside0.mk hy387
        clear hy387
        replace H := Option.bind_eq_some_iff.mp H
        obtain ⟨t390, A700, H⟩ := H
        replace H : ((impl_PutWord.f t390 a0_11).bind fun t393 => ((impl_putSince.f t393 a0_13).bind fun t396 => ((impl_PutWord.f t396 a0_14).bind fun t399 => ((impl_PutWord.f t399 a0_15).bind fun t402 => (some t402))))) = some r := H
        have A70 := Aside0.mk A700
        clear A700
        replace H := Option.bind_eq_some_iff.mp H
        obtain ⟨t393, A710, H⟩ := H
        replace H : ((impl_putSince.f t393 a0_13).bind fun t396 => ((impl_PutWord.f t396 a0_14).bind fun t399 => ((impl_PutWord.f t399 a0_15).bind fun t402 => (some t402)))) = some r := H
        have A71 := Aside0.mk A710
        clear A710
        replace H := Option.bind_eq_some_iff.mp H
        obtain ⟨t396, A720, H⟩ := H
        replace H : ((impl_PutWord.f t396 a0_14).bind fun t399 => ((impl_PutWord.f t399 a0_15).bind fun t402 => (some t402))) = some r := H
        have A72 := Aside0.mk A720
        clear A720
        replace H := Option.bind_eq_some_iff.mp H
        obtain ⟨t399, A730, H⟩ := H
        replace H : ((impl_PutWord.f t399 a0_15).bind fun t402 => (some t402)) = some r := H
        have A73 := Aside0.mk A730
        clear A730
        replace H := Option.bind_eq_some_iff.mp H
        obtain ⟨t402, A740, H⟩ := H
        replace H : (some t402) = some r := H
        have A74 := Aside0.mk A740
        clear A740
        obtain rfl := Option.some.inj H
        obtain ⟨Ao75, co75, eo75⟩ := Kd.R_slice HO_3.out
        subst eo75
        try go_wp2
        replace HO_3 := am_ (Kd.R_drew HO_3.out)
        replace BK346 := am_ (blk_drew BK346.out)
        replace HB := am_ (below_drew1 HB.out)
        refine start_ (n := 16) (S := fun w' => w'.cell? ⟨gb346, 0, none⟩ = some (.int .i64 a0_0) ∧ w'.cell? ⟨gb346, 1, none⟩ = some (.int .i64 a0_1) ∧ w'.cell? ⟨gb346, 2, none⟩ = some (.string a0_2) ∧ w'.cell? ⟨gb346, 3, none⟩ = some (.int .i64 a0_3) ∧ w'.cell? ⟨gb346, 4, none⟩ = some (.int .i64 a0_4) ∧ w'.cell? ⟨gb346, 5, none⟩ = some (.int .i64 a0_5) ∧ w'.cell? ⟨gb346, 6, none⟩ = some (.string a0_6) ∧ w'.cell? ⟨gb346, 7, none⟩ = some (.int .i64 a0_7) ∧ w'.cell? ⟨gb346, 8, none⟩ = some (.int .i64 a0_8) ∧ w'.cell? ⟨gb346, 9, none⟩ = some (.int .i64 a0_9) ∧ w'.cell? ⟨gb346, 10, none⟩ = some (.string a0_10) ∧ w'.cell? ⟨gb346, 11, none⟩ = some (.int .i64 a0_11) ∧ w'.cell? ⟨gb346, 12, none⟩ = some (.int .i64 a0_12) ∧ w'.cell? ⟨gb346, 13, none⟩ = some (.int .i64 a0_13) ∧ w'.cell? ⟨gb346, 14, none⟩ = some (.int .i64 a0_14) ∧ w'.cell? ⟨gb346, 15, none⟩ = some (.int .i64 a0_15)) (ds := []) #[false, false, false, false, false, false, false, false, false, false, false, false, false, false, false, false] (by kernel_rfl) rfl rfl (cz16 BK346.out) (fun hHeld => ?_); refine with_tabW impl_PutItem.tab7 impl_PutItem.bits7 (fun HT_ HW_ => ?_)
        generalize wc.drew = w76 at HO_3 BK346 HB hHeld ⊢
        refine pure_ (i := 0) (N := some 87) (v := ?_) (a' := ?_) #[true, false, false, false, false, false, false, false, false, false, false, false, false, false, false, false] rfl rfl (any_of HT_.out (by kernel_rfl)) (fun _ _ _ h => h) (Or.inl ⟨by rfl, ?_⟩) ?_ ?_
        rotate_left
        ·
         intro w'
         go_simp
         with_reducible rfl
        rotate_left
        ·
         simp only [Act.put, List.setIfInBounds_toArray, List.set_cons_zero, List.set_cons_succ, i64_w, i32_w]
         rfl
        refine pure_ (i := 1) (N := some 88) (v := ?_) (a' := ?_) #[true, true, false, false, false, false, false, false, false, false, false, false, false, false, false, false] rfl rfl (any_of HT_.out (by kernel_rfl)) (fun _ _ _ h => h) (Or.inl ⟨by rfl, ?_⟩) ?_ ?_
        rotate_left
        ·
         intro w'
         go_simp
         with_reducible rfl
        rotate_left
        ·
         simp only [Act.put, List.setIfInBounds_toArray, List.set_cons_zero, List.set_cons_succ, i64_w, i32_w]
         rfl
        refine pure_ (i := 2) (N := some 89) (v := ?_) (a' := ?_) #[true, true, true, false, false, false, false, false, false, false, false, false, false, false, false, false] rfl rfl (any_of HT_.out (by kernel_rfl)) (fun _ _ _ h => h) (Or.inl ⟨by rfl, ?_⟩) ?_ ?_
        rotate_left
        ·
         intro w'
         go_simp
         with_reducible rfl
        rotate_left
        ·
         simp only [Act.put, List.setIfInBounds_toArray, List.set_cons_zero, List.set_cons_succ, i64_w, i32_w]
         rfl
        refine pure_ (i := 5) (N := some 92) (v := ?_) (a' := ?_) #[true, true, true, false, false, true, false, false, false, false, false, false, false, false, false, false] rfl rfl (any_of HT_.out (by kernel_rfl)) (fun _ _ _ h => h) (Or.inl ⟨by rfl, ?_⟩) ?_ ?_
        rotate_left
        ·
         intro w'
         go_simp
         with_reducible rfl
        rotate_left
        ·
         simp only [Act.put, List.setIfInBounds_toArray, List.set_cons_zero, List.set_cons_succ, i64_w, i32_w]
         rfl
        refine pure_ (i := 6) (N := some 93) (v := ?_) (a' := ?_) #[true, true, true, false, false, true, true, false, false, false, false, false, false, false, false, false] rfl rfl (any_of HT_.out (by kernel_rfl)) (fun _ _ _ h => h) (Or.inl ⟨by rfl, ?_⟩) ?_ ?_
        rotate_left
        ·
         intro w'
         go_simp
         with_reducible rfl
        rotate_left
        ·
         simp only [Act.put, List.setIfInBounds_toArray, List.set_cons_zero, List.set_cons_succ, i64_w, i32_w]
         rfl
        refine pure_ (i := 11) (N := some 98) (v := ?_) (a' := ?_) #[true, true, true, false, false, true, true, false, false, false, false, true, false, false, false, false] rfl rfl (any_of HT_.out (by kernel_rfl)) (fun _ _ _ h => h) (Or.inl ⟨by rfl, ?_⟩) ?_ ?_
        rotate_left
        ·
         intro w'
         go_simp
         with_reducible rfl
        rotate_left
        ·
         simp only [Act.put, List.setIfInBounds_toArray, List.set_cons_zero, List.set_cons_succ, i64_w, i32_w]
         rfl
        refine pure_ (i := 12) (N := some 99) (v := ?_) (a' := ?_) #[true, true, true, false, false, true, true, false, false, false, false, true, true, false, false, false] rfl rfl (any_of HT_.out (by kernel_rfl)) (fun _ _ _ h => h) (Or.inl ⟨by rfl, ?_⟩) ?_ ?_
        rotate_left
        ·
         intro w'
         go_simp
         with_reducible rfl
        rotate_left
        ·
         simp only [Act.put, List.setIfInBounds_toArray, List.set_cons_zero, List.set_cons_succ, i64_w, i32_w]
         rfl
        refine take_ (i := 3) (N := some 90) (v := ?_) (a' := ?_) #[true, true, true, true, false, true, true, false, false, false, false, true, true, false, false, false] rfl rfl (take_ofW HT_.out HW_.out (by kernel_rfl)) (fun _ _ _ h => h) (Or.inl ⟨by rfl, ?_⟩) hHeld ?_ ?_
        rotate_left
        ·
         rintro w' ⟨s0, s1, s2, s3, s4, s5, s6, s7, s8, s9, s10, s11, s12, s13, s14, s15⟩
         go_simp
         with_reducible rfl
        rotate_left
        ·
         simp only [Act.put, List.setIfInBounds_toArray, List.set_cons_zero, List.set_cons_succ, i64_w, i32_w]
         rfl
        refine take_ (i := 7) (N := some 94) (v := ?_) (a' := ?_) #[true, true, true, true, false, true, true, true, false, false, false, true, true, false, false, false] rfl rfl (take_ofW HT_.out HW_.out (by kernel_rfl)) (fun _ _ _ h => h) (Or.inl ⟨by rfl, ?_⟩) hHeld ?_ ?_
        rotate_left
        ·
         rintro w' ⟨s0, s1, s2, s3, s4, s5, s6, s7, s8, s9, s10, s11, s12, s13, s14, s15⟩
         go_simp
         with_reducible rfl
        rotate_left
        ·
         simp only [Act.put, List.setIfInBounds_toArray, List.set_cons_zero, List.set_cons_succ, i64_w, i32_w]
         rfl
        refine pure_ (i := 8) (N := some 95) (v := ?_) (a' := ?_) #[true, true, true, true, false, true, true, true, true, false, false, true, true, false, false, false] rfl rfl (any_of HT_.out (by kernel_rfl)) (fun _ _ _ h => h) (Or.inl ⟨by rfl, ?_⟩) ?_ ?_
        rotate_left
        ·
         intro w'
         go_simp
         with_reducible rfl
        rotate_left
        ·
         simp only [Act.put, List.setIfInBounds_toArray, List.set_cons_zero, List.set_cons_succ, i64_w, i32_w]
         rfl
        refine take_ (i := 13) (N := some 100) (v := ?_) (a' := ?_) #[true, true, true, true, false, true, true, true, true, false, false, true, true, true, false, false] rfl rfl (take_ofW HT_.out HW_.out (by kernel_rfl)) (fun _ _ _ h => h) (Or.inl ⟨by rfl, ?_⟩) hHeld ?_ ?_
        rotate_left
        ·
         rintro w' ⟨s0, s1, s2, s3, s4, s5, s6, s7, s8, s9, s10, s11, s12, s13, s14, s15⟩
         go_simp
         with_reducible rfl
        rotate_left
        ·
         simp only [Act.put, List.setIfInBounds_toArray, List.set_cons_zero, List.set_cons_succ, i64_w, i32_w]
         rfl
        refine join_ (σ := Value × Value) 3 #[true, true, true, true, true, true, true, true, true, true, false, true, true, true, false, false] (fun s_ => [(91, s_.1), (96, s_.2)]) (fun s_ w' => (w'.cell? ⟨gb346, 0, none⟩ = some (.int .i64 a0_0) ∧ w'.cell? ⟨gb346, 1, none⟩ = some (.int .i64 a0_1) ∧ w'.cell? ⟨gb346, 2, none⟩ = some (.string a0_2) ∧ w'.cell? ⟨gb346, 3, none⟩ = some (.int .i64 a0_3) ∧ w'.cell? ⟨gb346, 4, none⟩ = some (.int .i64 a0_4) ∧ w'.cell? ⟨gb346, 5, none⟩ = some (.int .i64 a0_5) ∧ w'.cell? ⟨gb346, 6, none⟩ = some (.string a0_6) ∧ w'.cell? ⟨gb346, 7, none⟩ = some (.int .i64 a0_7) ∧ w'.cell? ⟨gb346, 8, none⟩ = some (.int .i64 a0_8) ∧ w'.cell? ⟨gb346, 9, none⟩ = some (.int .i64 a0_9) ∧ w'.cell? ⟨gb346, 10, none⟩ = some (.string a0_10) ∧ w'.cell? ⟨gb346, 11, none⟩ = some (.int .i64 a0_11) ∧ w'.cell? ⟨gb346, 12, none⟩ = some (.int .i64 a0_12) ∧ w'.cell? ⟨gb346, 13, none⟩ = some (.int .i64 a0_13) ∧ w'.cell? ⟨gb346, 14, none⟩ = some (.int .i64 a0_14) ∧ w'.cell? ⟨gb346, 15, none⟩ = some (.int .i64 a0_15)) ∧ (Kd.R (Kd.int .u8) 5 w' w.heap.size (fun k_ => some k_ ≠ (s_.2 : Value).ownBlock ∧ some k_ ≠ (.slice Ao75 y347.length co75 : Value).ownBlock) s_.1 t381) ∧ (Kd.R (Kd.int .u8) 5 w' w.heap.size (fun k_ => some k_ ≠ (s_.1 : Value).ownBlock ∧ some k_ ≠ (.slice Ao75 y347.length co75 : Value).ownBlock) s_.2 y384) ∧ (Kd.R (Kd.int .u8) 5 w' w.heap.size (fun k_ => some k_ ≠ (s_.1 : Value).ownBlock ∧ some k_ ≠ (s_.2 : Value).ownBlock) (.slice Ao75 y347.length co75) y347) ∧ (w'.heap[gb346]? = some (.cells #[.int .i64 a0_0, .int .i64 a0_1, .string a0_2, .int .i64 a0_3, .int .i64 a0_4, .int .i64 a0_5, .string a0_6, .int .i64 a0_7, .int .i64 a0_8, .int .i64 a0_9, .string a0_10, .int .i64 a0_11, .int .i64 a0_12, .int .i64 a0_13, .int .i64 a0_14, .int .i64 a0_15] 48 (0, 0))) ∧ (Below w.heap.size w w')) ?_ ?_
        rotate_left
        ·
         intro hCont
         refine two_ (i := 4) (j := 9) (Ni := some 91) (Nj := some 96) #[true, true, true, true, true, true, true, true, true, false, false, true, true, true, false, false] #[true, true, true, true, false, true, true, true, true, true, false, true, true, true, false, false] rfl rfl rfl rfl (two_of HT_.out (by kernel_rfl)) (by decide) (by decide) (fun K hK => ?_) (fun K hK => ?_)
         ·
          skip
          refine goes_ Try.func82 (by kernel_rfl) rfl #[.slice Ao75 y347.length co75, .int .i64 a0_9] (by rfl) rfl rfl (by (try simp only [List.map_toArray, List.map_cons, List.map_nil]); first | done | rfl | (simp only [List.length_drop, List.length_take]; rfl)) ?_
          with_reducible refine (impl_PutWord.calls _ _ y347 a0_9 t381 _ ?side1 ?side2 A68.out).mono ?_
          (case side1 => exact qC ((Kd.R_reads' HO_3.out).2.2))
          (case side2 => exact (Kd.R_reads' HO_3.out).2.1)
          rintro e w77 ⟨v382, rfl, ho0, hb⟩
          refine ⟨_, rfl, ?_⟩
          have HO383 := am_ (Kd.R_lower (Kd.R_new' ho0 (Kd.R_lt (qR HO_3))) (below_size (qB HB)))
          replace HO_3 := am_ (Kd.R_elder' (qR HO_3) (Kd.R_base ho0) hb)
          replace BK346 := am_ (blk_below (qK BK346) hb)
          replace HB := am_ (below_step (qB HB) hb)
          (try clear hb ho0)
          refine hK.out _ _ (cz16 BK346.out) (fun hHeld => ?_)
          clear hK K
          refine norm_ (a' := ?_) ?_ ?_
          rotate_left
          ·
           show Act.put _ (some 91) _ = _
           simp only [Act.put, List.setIfInBounds_toArray, List.set_cons_zero, List.set_cons_succ, i64_w, i32_w]
           rfl
          refine one_ (i := 9) (N := some 96) #[true, true, true, true, true, true, true, true, true, true, false, true, true, true, false, false] rfl rfl (one_of HT_.out (by kernel_rfl)) (by decide) (fun K hK => ?_)
          refine Kd.R_lit_step (Kd.int .u8) _ 5 ?hg (N := 96) ?hd (xs := ([(a0_12) % 256] : List Int)) (inner := [.int .u8 ((a0_12) % 256)]) (ok := fun _ => True) (okp := fun _ => True) ?hr ?hp (fun _ hk => hk) trivial (Below.refl _ _) (Nat.le_refl _) (by simp) ?_; (case hd => rfl); (case hg => rfl); (case hr => first | (go_simp; done) | (go_simp; rfl)); (case hp => exact (Reps.one (show Kd.M (Kd.int .u8) _ _ _ ((a0_12) % 256) [.int .u8 ((a0_12) % 256)] from rfl) (Reps.none _ _)))
          intro v385 w78 ho79 hb hg_ hnew_
          clear hg_ hnew_
          (first | rw [← Ny384.out] at ho79 | (simp only [Int.reduceToNat] at ho79; rw [← Ny384.out] at ho79))
          have HO386 := am_ (Kd.R_lower (Kd.R_new' (Kd.R_new' ho79 (Kd.R_lt (qR HO_3))) (Kd.R_lt (qR HO383))) (below_size (qB HB)))
          replace HO_3 := am_ (Kd.R_elder' (qR HO_3) (Kd.R_base ho79) hb)
          replace HO383 := am_ (Kd.R_elder' (qR HO383) (Kd.R_base ho79) hb)
          replace BK346 := am_ (blk_below (qK BK346) hb)
          replace HB := am_ (below_step (qB HB) hb)
          clear hb ho79
          refine hK.out _ _ (cz16 BK346.out) (fun hHeld => ?_)
          clear hK K
          refine norm_ (a' := ?_) ?_ ?_
          rotate_left
          ·
           show Act.put _ (some 96) _ = _
           simp only [Act.put, List.setIfInBounds_toArray, List.set_cons_zero, List.set_cons_succ, i64_w, i32_w]
           rfl
          exact norm_ (by simp only [putAll, Act.put, List.setIfInBounds_toArray, List.set_cons_zero, List.set_cons_succ]) (hCont (v382, v385) _ ⟨hHeld, (tR (Kd.R_mono HO383.out (fun _ hk => ⟨hk.2, hk.1.2⟩))), (tR (Kd.R_mono HO386.out (fun _ hk => ⟨hk.2, hk.1.2⟩))), (tR (Kd.R_mono HO_3.out (fun _ hk => ⟨hk.1.2, hk.2⟩))), (qK BK346), (qB HB)⟩)
         ·
          skip
          refine Kd.R_lit_step (Kd.int .u8) _ 5 ?hg (N := 96) ?hd (xs := ([(a0_12) % 256] : List Int)) (inner := [.int .u8 ((a0_12) % 256)]) (ok := fun _ => True) (okp := fun _ => True) ?hr ?hp (fun _ hk => hk) trivial (Below.refl _ _) (Nat.le_refl _) (by simp) ?_; (case hd => rfl); (case hg => rfl); (case hr => first | (go_simp; done) | (go_simp; rfl)); (case hp => exact (Reps.one (show Kd.M (Kd.int .u8) _ _ _ ((a0_12) % 256) [.int .u8 ((a0_12) % 256)] from rfl) (Reps.none _ _)))
          intro v385 w77 ho78 hb hg_ hnew_
          clear hg_ hnew_
          (first | rw [← Ny384.out] at ho78 | (simp only [Int.reduceToNat] at ho78; rw [← Ny384.out] at ho78))
          have HO386 := am_ (Kd.R_lower (Kd.R_new' ho78 (Kd.R_lt (qR HO_3))) (below_size (qB HB)))
          replace HO_3 := am_ (Kd.R_elder' (qR HO_3) (Kd.R_base ho78) hb)
          replace BK346 := am_ (blk_below (qK BK346) hb)
          replace HB := am_ (below_step (qB HB) hb)
          clear hb ho78
          refine hK.out _ _ (cz16 BK346.out) (fun hHeld => ?_)
          clear hK K
          refine norm_ (a' := ?_) ?_ ?_
          rotate_left
          ·
           show Act.put _ (some 96) _ = _
           simp only [Act.put, List.setIfInBounds_toArray, List.set_cons_zero, List.set_cons_succ, i64_w, i32_w]
           rfl
          refine one_ (i := 4) (N := some 91) #[true, true, true, true, true, true, true, true, true, true, false, true, true, true, false, false] rfl rfl (one_of HT_.out (by kernel_rfl)) (by decide) (fun K hK => ?_)
          refine goes_ Try.func82 (by kernel_rfl) rfl #[.slice Ao75 y347.length co75, .int .i64 a0_9] (by rfl) rfl rfl (by (try simp only [List.map_toArray, List.map_cons, List.map_nil]); first | done | rfl | (simp only [List.length_drop, List.length_take]; rfl)) ?_
          with_reducible refine (impl_PutWord.calls _ _ y347 a0_9 t381 _ ?side1 ?side2 A68.out).mono ?_
          (case side1 => exact qC ((Kd.R_reads' HO_3.out).2.2))
          (case side2 => exact (Kd.R_reads' HO_3.out).2.1)
          rintro e w79 ⟨v382, rfl, ho0, hb⟩
          refine ⟨_, rfl, ?_⟩
          have HO383 := am_ (Kd.R_lower (Kd.R_new' (Kd.R_new' ho0 (Kd.R_lt (qR HO_3))) (Kd.R_lt (qR HO386))) (below_size (qB HB)))
          replace HO_3 := am_ (Kd.R_elder' (qR HO_3) (Kd.R_base ho0) hb)
          replace HO386 := am_ (Kd.R_elder' (qR HO386) (Kd.R_base ho0) hb)
          replace BK346 := am_ (blk_below (qK BK346) hb)
          replace HB := am_ (below_step (qB HB) hb)
          (try clear hb ho0)
          refine hK.out _ _ (cz16 BK346.out) (fun hHeld => ?_)
          clear hK K
          refine norm_ (a' := ?_) ?_ ?_
          rotate_left
          ·
           show Act.put _ (some 91) _ = _
           simp only [Act.put, List.setIfInBounds_toArray, List.set_cons_zero, List.set_cons_succ, i64_w, i32_w]
           rfl
          exact norm_ (by simp only [putAll, Act.put, List.setIfInBounds_toArray, List.set_cons_zero, List.set_cons_succ]) (hCont (v382, v385) _ ⟨hHeld, (tR (Kd.R_mono HO383.out (fun _ hk => ⟨hk.2, hk.1.2⟩))), (tR (Kd.R_mono HO386.out (fun _ hk => ⟨hk.2, hk.1.2⟩))), (tR (Kd.R_mono HO_3.out (fun _ hk => ⟨hk.2, hk.1.2⟩))), (qK BK346), (qB HB)⟩)
        rintro ⟨v382, v385⟩ w80 ⟨hS_, h0_, h1_, h2_, h3_, h4_⟩
        have n0_ : Aside0 (Kd.R (Kd.int .u8) 5 w80 w.heap.size (fun k_ => some k_ ≠ (v385 : Value).ownBlock ∧ some k_ ≠ (.slice Ao75 y347.length co75 : Value).ownBlock) v382 t381) := ⟨h0_⟩
        have n1_ : Aside0 (Kd.R (Kd.int .u8) 5 w80 w.heap.size (fun k_ => some k_ ≠ (v382 : Value).ownBlock ∧ some k_ ≠ (.slice Ao75 y347.length co75 : Value).ownBlock) v385 y384) := ⟨h1_⟩
        have n2_ : Aside0 (Kd.R (Kd.int .u8) 5 w80 w.heap.size (fun k_ => some k_ ≠ (v382 : Value).ownBlock ∧ some k_ ≠ (v385 : Value).ownBlock) (.slice Ao75 y347.length co75) y347) := ⟨h2_⟩
        have n3_ : Aside0 (w80.heap[gb346]? = some (.cells #[.int .i64 a0_0, .int .i64 a0_1, .string a0_2, .int .i64 a0_3, .int .i64 a0_4, .int .i64 a0_5, .string a0_6, .int .i64 a0_7, .int .i64 a0_8, .int .i64 a0_9, .string a0_10, .int .i64 a0_11, .int .i64 a0_12, .int .i64 a0_13, .int .i64 a0_14, .int .i64 a0_15] 48 (0, 0))) := ⟨h3_⟩
        have n4_ : Aside0 (Below w.heap.size w w80) := ⟨h4_⟩
        clear HO_3
        clear BK346
        clear HB
        clear h0_ h1_ h2_ h3_ h4_
        have HO383 := n0_
        have HO386 := n1_
        have HO_3 := n2_
        have BK346 := n3_
        have HB := n4_
        clear n0_ n1_ n2_ n3_ n4_
        have hHeld : w80.cell? ⟨gb346, 0, none⟩ = some (.int .i64 a0_0) ∧ w80.cell? ⟨gb346, 1, none⟩ = some (.int .i64 a0_1) ∧ w80.cell? ⟨gb346, 2, none⟩ = some (.string a0_2) ∧ w80.cell? ⟨gb346, 3, none⟩ = some (.int .i64 a0_3) ∧ w80.cell? ⟨gb346, 4, none⟩ = some (.int .i64 a0_4) ∧ w80.cell? ⟨gb346, 5, none⟩ = some (.int .i64 a0_5) ∧ w80.cell? ⟨gb346, 6, none⟩ = some (.string a0_6) ∧ w80.cell? ⟨gb346, 7, none⟩ = some (.int .i64 a0_7) ∧ w80.cell? ⟨gb346, 8, none⟩ = some (.int .i64 a0_8) ∧ w80.cell? ⟨gb346, 9, none⟩ = some (.int .i64 a0_9) ∧ w80.cell? ⟨gb346, 10, none⟩ = some (.string a0_10) ∧ w80.cell? ⟨gb346, 11, none⟩ = some (.int .i64 a0_11) ∧ w80.cell? ⟨gb346, 12, none⟩ = some (.int .i64 a0_12) ∧ w80.cell? ⟨gb346, 13, none⟩ = some (.int .i64 a0_13) ∧ w80.cell? ⟨gb346, 14, none⟩ = some (.int .i64 a0_14) ∧ w80.cell? ⟨gb346, 15, none⟩ = some (.int .i64 a0_15) := hS_
        obtain ⟨Ao82, co82, eo82⟩ := Kd.R_slice HO386.out
        (first | subst eo82 | (injection eo82 with f1_ f2_ f3_; have f4_ := f1_.symm; have f5_ := f3_.symm; clear f1_ f2_ f3_; subst f4_; subst f5_))
        refine norm_ (a' := ?_) ?_ ?_
        rotate_left
        ·
         simp only [putAll, Act.put, List.setIfInBounds_toArray, List.set_cons_zero, List.set_cons_succ]
         rfl
        refine one_ (i := 10) (N := some 97) #[true, true, true, true, true, true, true, true, true, true, true, true, true, true, false, false] rfl rfl (one_of HT_.out (by kernel_rfl)) (by decide) (fun K hK => ?_)
        refine Kd.R_append_rows_step (Kd.int .u8) (w0 := w) w.heap.size (by rfl) (.tmp 91) (.tmp 96) 22 5 (.int .u8 0) 1 rfl Try.underlying22 info5 rfl (by decide) (by omega) v382 t381 y384 _ _ _ (fun k_ => some k_ ≠ (.slice Ao75 y347.length co75 : Value).ownBlock ∧ some k_ ≠ (.slice Ao82 y384.length co82 : Value).ownBlock) (fun _ => False) rfl rfl ?aO ?aR (fun _ _ h => h) (fun _ h => h.elim) ?aF ?aB ?aS ?aL ?_
        (case aR => exact qC ((Kd.R_reads' HO386.out).2.2))
        (case aB => exact (qB HB))
        (case aF => exact (fun k_ hk => ⟨Kd.fresh' (Kd.R_lt (qR HO_3)) k_ hk, Kd.fresh' (Kd.R_lt (qR HO386)) k_ hk⟩))
        (case aO => exact (tR (Kd.R_mono HO383.out (fun _ hk => ⟨hk.2, hk.1⟩))))
        (case aS => exact (below_size (qB HB)))
        (case aL => have := LMc69.out; omega)
        intro v388 w81 ho hb hg hat
        rw [← Ny387.out] at ho
        replace HO_3 := am_ (Kd.R_after (ok := (fun k_ => some k_ ≠ (.slice Ao82 y384.length co82 : Value).ownBlock)) (tR (Kd.R_mono HO_3.out (fun _ hk => ⟨hk.2, hk.1⟩))) hg hat)
        replace BK346 := am_ (blk_grown (qK BK346) hg (Kd.R_ne HO383.out BK346.out (by decide)))
        replace HO386 := am_ (Kd.R_after (ok := (fun k_ => some k_ ≠ (.slice Ao75 y347.length co75 : Value).ownBlock)) (tR (Kd.R_mono HO386.out (fun _ hk => ⟨hk.2, hk.1⟩))) hg hat)
        replace HB := am_ (hb)
        have HO389 := am_ (ho)
        clear HO383
        clear ho hb hg hat
        obtain ⟨Ao83, co83, eo83⟩ := Kd.R_slice HO389.out
        (first | subst eo83 | (injection eo83 with f1_ f2_ f3_; have f4_ := f1_.symm; have f5_ := f3_.symm; clear f1_ f2_ f3_; subst f4_; subst f5_))
        refine hK.out _ _ (cz16 BK346.out) (fun hHeld => ?_)
        clear hK K
        refine norm_ (a' := ?_) ?_ ?_
        rotate_left
        ·
         show Act.put _ (some 97) _ = _
         simp only [Act.put, List.setIfInBounds_toArray, List.set_cons_zero, List.set_cons_succ, i64_w, i32_w]
         rfl
        refine one_ (i := 14) (N := some 101) #[true, true, true, true, true, true, true, true, true, true, true, true, true, true, true, false] rfl rfl (one_of HT_.out (by kernel_rfl)) (by decide) (fun K hK => ?_)
        refine goes_ Try.func81 (by kernel_rfl) rfl #[.slice Ao83 y387.length co83, .string a0_10] (by rfl) rfl rfl (by (try simp only [List.map_toArray, List.map_cons, List.map_nil]); first | done | rfl | (simp only [List.length_drop, List.length_take]; rfl)) ?_
        with_reducible refine (impl_PutText.calls kj51 _ _ y387 a0_10 t390 _ ?side1 ?side2 A70.out).mono ?_
        (case side1 => exact qC ((Kd.R_reads' HO389.out).2.2))
        (case side2 => exact (Kd.R_reads' HO389.out).2.1)
        rintro e w84 ⟨v391, rfl, ho0, hb⟩
        refine ⟨_, rfl, ?_⟩
        have HO392 := am_ (Kd.R_lower (Kd.R_new' (Kd.R_new' (Kd.R_new' ho0 (Kd.R_lt (qR HO_3))) (Kd.R_lt (qR HO386))) (Kd.R_lt (qR HO389))) (below_size (qB HB)))
        replace HO_3 := am_ (Kd.R_elder' (qR HO_3) (Kd.R_base ho0) hb)
        replace HO386 := am_ (Kd.R_elder' (qR HO386) (Kd.R_base ho0) hb)
        replace HO389 := am_ (Kd.R_elder' (qR HO389) (Kd.R_base ho0) hb)
        replace BK346 := am_ (blk_below (qK BK346) hb)
        replace HB := am_ (below_step (qB HB) hb)
        (try clear hb ho0)
        refine hK.out _ _ (cz16 BK346.out) (fun hHeld => ?_)
        clear hK K
        refine norm_ (a' := ?_) ?_ ?_
        rotate_left
        ·
         show Act.put _ (some 101) _ = _
         simp only [Act.put, List.setIfInBounds_toArray, List.set_cons_zero, List.set_cons_succ, i64_w, i32_w]
         rfl
        refine pure_ (i := 15) (N := some 3) (v := ?_) (a' := ?_) #[true, true, true, true, true, true, true, true, true, true, true, true, true, true, true, true] rfl rfl (any_of HT_.out (by kernel_rfl)) (fun _ _ _ h => h) (Or.inl ⟨by rfl, ?_⟩) ?_ ?_
        rotate_left
        ·
         intro w'
         go_simp
         with_reducible rfl
        rotate_left
        ·
         simp only [Act.put, List.setIfInBounds_toArray, List.set_cons_zero, List.set_cons_succ, i64_w, i32_w]
         rfl
        refine done_ (done_of HT_.out (by kernel_rfl)) ?_
        try go_wp2
        replace HO_3 := am_ (Kd.R_drew HO_3.out)
        replace HO386 := am_ (Kd.R_drew HO386.out)
        replace HO389 := am_ (Kd.R_drew HO389.out)
        replace HO392 := am_ (Kd.R_drew HO392.out)
        replace BK346 := am_ (blk_drew BK346.out)
        replace HB := am_ (below_drew1 HB.out)
        obtain ⟨Ao86, co86, eo86⟩ := Kd.R_slice HO392.out
        (first | subst eo86 | (injection eo86 with f1_ f2_ f3_; have f4_ := f1_.symm; have f5_ := f3_.symm; clear f1_ f2_ f3_; subst f4_; subst f5_))
        refine start_ (n := 10) (S := fun w' => w'.cell? ⟨gb346, 0, none⟩ = some (.int .i64 a0_0) ∧ w'.cell? ⟨gb346, 1, none⟩ = some (.int .i64 a0_1) ∧ w'.cell? ⟨gb346, 2, none⟩ = some (.string a0_2) ∧ w'.cell? ⟨gb346, 3, none⟩ = some (.int .i64 a0_3) ∧ w'.cell? ⟨gb346, 4, none⟩ = some (.int .i64 a0_4) ∧ w'.cell? ⟨gb346, 5, none⟩ = some (.int .i64 a0_5) ∧ w'.cell? ⟨gb346, 6, none⟩ = some (.string a0_6) ∧ w'.cell? ⟨gb346, 7, none⟩ = some (.int .i64 a0_7) ∧ w'.cell? ⟨gb346, 8, none⟩ = some (.int .i64 a0_8) ∧ w'.cell? ⟨gb346, 9, none⟩ = some (.int .i64 a0_9) ∧ w'.cell? ⟨gb346, 10, none⟩ = some (.string a0_10) ∧ w'.cell? ⟨gb346, 11, none⟩ = some (.int .i64 a0_11) ∧ w'.cell? ⟨gb346, 12, none⟩ = some (.int .i64 a0_12) ∧ w'.cell? ⟨gb346, 13, none⟩ = some (.int .i64 a0_13) ∧ w'.cell? ⟨gb346, 14, none⟩ = some (.int .i64 a0_14) ∧ w'.cell? ⟨gb346, 15, none⟩ = some (.int .i64 a0_15)) (ds := []) #[false, false, false, false, false, false, false, false, false, false] (by kernel_rfl) rfl rfl (cz16 BK346.out) (fun hHeld => ?_); refine with_tabW impl_PutItem.tab8 impl_PutItem.bits8 (fun HT_ HW_ => ?_)
        generalize w84.drew = w85 at HO_3 HO386 HO389 HO392 BK346 HB hHeld ⊢
        refine pure_ (i := 0) (N := some 102) (v := ?_) (a' := ?_) #[true, false, false, false, false, false, false, false, false, false] rfl rfl (any_of HT_.out (by kernel_rfl)) (fun _ _ _ h => h) (Or.inl ⟨by rfl, ?_⟩) ?_ ?_
        rotate_left
        ·
         intro w'
         go_simp
         with_reducible rfl
        rotate_left
        ·
         simp only [Act.put, List.setIfInBounds_toArray, List.set_cons_zero, List.set_cons_succ, i64_w, i32_w]
         rfl
        refine pure_ (i := 1) (N := some 103) (v := ?_) (a' := ?_) #[true, true, false, false, false, false, false, false, false, false] rfl rfl (any_of HT_.out (by kernel_rfl)) (fun _ _ _ h => h) (Or.inl ⟨by rfl, ?_⟩) ?_ ?_
        rotate_left
        ·
         intro w'
         go_simp
         with_reducible rfl
        rotate_left
        ·
         simp only [Act.put, List.setIfInBounds_toArray, List.set_cons_zero, List.set_cons_succ, i64_w, i32_w]
         rfl
        refine pure_ (i := 2) (N := some 104) (v := ?_) (a' := ?_) #[true, true, true, false, false, false, false, false, false, false] rfl rfl (any_of HT_.out (by kernel_rfl)) (fun _ _ _ h => h) (Or.inl ⟨by rfl, ?_⟩) ?_ ?_
        rotate_left
        ·
         intro w'
         go_simp
         with_reducible rfl
        rotate_left
        ·
         simp only [Act.put, List.setIfInBounds_toArray, List.set_cons_zero, List.set_cons_succ, i64_w, i32_w]
         rfl
        refine pure_ (i := 5) (N := some 107) (v := ?_) (a' := ?_) #[true, true, true, false, false, true, false, false, false, false] rfl rfl (any_of HT_.out (by kernel_rfl)) (fun _ _ _ h => h) (Or.inl ⟨by rfl, ?_⟩) ?_ ?_
        rotate_left
        ·
         intro w'
         go_simp
         with_reducible rfl
        rotate_left
        ·
         simp only [Act.put, List.setIfInBounds_toArray, List.set_cons_zero, List.set_cons_succ, i64_w, i32_w]
         rfl
        refine pure_ (i := 6) (N := some 108) (v := ?_) (a' := ?_) #[true, true, true, false, false, true, true, false, false, false] rfl rfl (any_of HT_.out (by kernel_rfl)) (fun _ _ _ h => h) (Or.inl ⟨by rfl, ?_⟩) ?_ ?_
        rotate_left
        ·
         intro w'
         go_simp
         with_reducible rfl
        rotate_left
        ·
         simp only [Act.put, List.setIfInBounds_toArray, List.set_cons_zero, List.set_cons_succ, i64_w, i32_w]
         rfl
        refine take_ (i := 3) (N := some 105) (v := ?_) (a' := ?_) #[true, true, true, true, false, true, true, false, false, false] rfl rfl (take_ofW HT_.out HW_.out (by kernel_rfl)) (fun _ _ _ h => h) (Or.inl ⟨by rfl, ?_⟩) hHeld ?_ ?_
        rotate_left
        ·
         rintro w' ⟨s0, s1, s2, s3, s4, s5, s6, s7, s8, s9, s10, s11, s12, s13, s14, s15⟩
         go_simp
         with_reducible rfl
        rotate_left
        ·
         simp only [Act.put, List.setIfInBounds_toArray, List.set_cons_zero, List.set_cons_succ, i64_w, i32_w]
         rfl
        refine take_ (i := 7) (N := some 109) (v := ?_) (a' := ?_) #[true, true, true, true, false, true, true, true, false, false] rfl rfl (take_ofW HT_.out HW_.out (by kernel_rfl)) (fun _ _ _ h => h) (Or.inl ⟨by rfl, ?_⟩) hHeld ?_ ?_
        rotate_left
        ·
         rintro w' ⟨s0, s1, s2, s3, s4, s5, s6, s7, s8, s9, s10, s11, s12, s13, s14, s15⟩
         go_simp
         with_reducible rfl
        rotate_left
        ·
         simp only [Act.put, List.setIfInBounds_toArray, List.set_cons_zero, List.set_cons_succ, i64_w, i32_w]
         rfl
        refine one_ (i := 4) (N := some 106) #[true, true, true, true, true, true, true, true, false, false] rfl rfl (one_of HT_.out (by kernel_rfl)) (by decide) (fun K hK => ?_)
        refine goes_ Try.func82 (by kernel_rfl) rfl #[.slice Ao86 t390.length co86, .int .i64 a0_11] (by rfl) rfl rfl (by (try simp only [List.map_toArray, List.map_cons, List.map_nil]); first | done | rfl | (simp only [List.length_drop, List.length_take]; rfl)) ?_
        with_reducible refine (impl_PutWord.calls _ _ t390 a0_11 t393 _ ?side1 ?side2 A71.out).mono ?_
        (case side1 => exact qC ((Kd.R_reads' HO392.out).2.2))
        (case side2 => exact (Kd.R_reads' HO392.out).2.1)
        rintro e w87 ⟨v394, rfl, ho0, hb⟩
        refine ⟨_, rfl, ?_⟩
        have HO395 := am_ (Kd.R_lower (Kd.R_new' (Kd.R_new' (Kd.R_new' (Kd.R_new' ho0 (Kd.R_lt (qR HO_3))) (Kd.R_lt (qR HO386))) (Kd.R_lt (qR HO389))) (Kd.R_lt (qR HO392))) (below_size (qB HB)))
        replace HO_3 := am_ (Kd.R_elder' (qR HO_3) (Kd.R_base ho0) hb)
        replace HO386 := am_ (Kd.R_elder' (qR HO386) (Kd.R_base ho0) hb)
        replace HO389 := am_ (Kd.R_elder' (qR HO389) (Kd.R_base ho0) hb)
        replace HO392 := am_ (Kd.R_elder' (qR HO392) (Kd.R_base ho0) hb)
        replace BK346 := am_ (blk_below (qK BK346) hb)
        replace HB := am_ (below_step (qB HB) hb)
        (try clear hb ho0)
        obtain ⟨Ao88, co88, eo88⟩ := Kd.R_slice HO395.out
        (first | subst eo88 | (injection eo88 with f1_ f2_ f3_; have f4_ := f1_.symm; have f5_ := f3_.symm; clear f1_ f2_ f3_; subst f4_; subst f5_))
        refine hK.out _ _ (cz16 BK346.out) (fun hHeld => ?_)
        clear hK K
        refine norm_ (a' := ?_) ?_ ?_
        rotate_left
        ·
         show Act.put _ (some 106) _ = _
         simp only [Act.put, List.setIfInBounds_toArray, List.set_cons_zero, List.set_cons_succ, i64_w, i32_w]
         rfl
        refine one_ (i := 8) (N := some 110) #[true, true, true, true, true, true, true, true, true, false] rfl rfl (one_of HT_.out (by kernel_rfl)) (by decide) (fun K hK => ?_)
        refine goes_ Try.func83 (by kernel_rfl) rfl #[.slice Ao88 t393.length co88, .int .i64 a0_13] (by rfl) rfl rfl (by (try simp only [List.map_toArray, List.map_cons, List.map_nil]); first | done | rfl | (simp only [List.length_drop, List.length_take]; rfl)) ?_
        with_reducible refine (impl_putSince.calls _ _ t393 a0_13 t396 _ ?side1 ?side2 A72.out).mono ?_
        (case side1 => exact qC ((Kd.R_reads' HO395.out).2.2))
        (case side2 => exact (Kd.R_reads' HO395.out).2.1)
        rintro e w89 ⟨v397, rfl, ho0, hb⟩
        refine ⟨_, rfl, ?_⟩
        have HO398 := am_ (Kd.R_lower (Kd.R_new' (Kd.R_new' (Kd.R_new' (Kd.R_new' (Kd.R_new' ho0 (Kd.R_lt (qR HO_3))) (Kd.R_lt (qR HO386))) (Kd.R_lt (qR HO389))) (Kd.R_lt (qR HO392))) (Kd.R_lt (qR HO395))) (below_size (qB HB)))
        replace HO_3 := am_ (Kd.R_elder' (qR HO_3) (Kd.R_base ho0) hb)
        replace HO386 := am_ (Kd.R_elder' (qR HO386) (Kd.R_base ho0) hb)
        replace HO389 := am_ (Kd.R_elder' (qR HO389) (Kd.R_base ho0) hb)
        replace HO392 := am_ (Kd.R_elder' (qR HO392) (Kd.R_base ho0) hb)
        replace HO395 := am_ (Kd.R_elder' (qR HO395) (Kd.R_base ho0) hb)
        replace BK346 := am_ (blk_below (qK BK346) hb)
        replace HB := am_ (below_step (qB HB) hb)
        (try clear hb ho0)
        refine hK.out _ _ (cz16 BK346.out) (fun hHeld => ?_)
        clear hK K
        refine norm_ (a' := ?_) ?_ ?_
        rotate_left
        ·
         show Act.put _ (some 110) _ = _
         simp only [Act.put, List.setIfInBounds_toArray, List.set_cons_zero, List.set_cons_succ, i64_w, i32_w]
         rfl
        refine pure_ (i := 9) (N := some 3) (v := ?_) (a' := ?_) #[true, true, true, true, true, true, true, true, true, true] rfl rfl (any_of HT_.out (by kernel_rfl)) (fun _ _ _ h => h) (Or.inl ⟨by rfl, ?_⟩) ?_ ?_
        rotate_left
        ·
         intro w'
         go_simp
         with_reducible rfl
        rotate_left
        ·
         simp only [Act.put, List.setIfInBounds_toArray, List.set_cons_zero, List.set_cons_succ, i64_w, i32_w]
         rfl
        refine done_ (done_of HT_.out (by kernel_rfl)) ?_
        try go_wp2
        replace HO_3 := am_ (Kd.R_drew HO_3.out)
        replace HO386 := am_ (Kd.R_drew HO386.out)
        replace HO389 := am_ (Kd.R_drew HO389.out)
        replace HO392 := am_ (Kd.R_drew HO392.out)
        replace HO395 := am_ (Kd.R_drew HO395.out)
        replace HO398 := am_ (Kd.R_drew HO398.out)
        replace BK346 := am_ (blk_drew BK346.out)
        replace HB := am_ (below_drew1 HB.out)
        obtain ⟨Ao91, co91, eo91⟩ := Kd.R_slice HO398.out
        (first | subst eo91 | (injection eo91 with f1_ f2_ f3_; have f4_ := f1_.symm; have f5_ := f3_.symm; clear f1_ f2_ f3_; subst f4_; subst f5_))
        refine start_ (n := 10) (S := fun w' => w'.cell? ⟨gb346, 0, none⟩ = some (.int .i64 a0_0) ∧ w'.cell? ⟨gb346, 1, none⟩ = some (.int .i64 a0_1) ∧ w'.cell? ⟨gb346, 2, none⟩ = some (.string a0_2) ∧ w'.cell? ⟨gb346, 3, none⟩ = some (.int .i64 a0_3) ∧ w'.cell? ⟨gb346, 4, none⟩ = some (.int .i64 a0_4) ∧ w'.cell? ⟨gb346, 5, none⟩ = some (.int .i64 a0_5) ∧ w'.cell? ⟨gb346, 6, none⟩ = some (.string a0_6) ∧ w'.cell? ⟨gb346, 7, none⟩ = some (.int .i64 a0_7) ∧ w'.cell? ⟨gb346, 8, none⟩ = some (.int .i64 a0_8) ∧ w'.cell? ⟨gb346, 9, none⟩ = some (.int .i64 a0_9) ∧ w'.cell? ⟨gb346, 10, none⟩ = some (.string a0_10) ∧ w'.cell? ⟨gb346, 11, none⟩ = some (.int .i64 a0_11) ∧ w'.cell? ⟨gb346, 12, none⟩ = some (.int .i64 a0_12) ∧ w'.cell? ⟨gb346, 13, none⟩ = some (.int .i64 a0_13) ∧ w'.cell? ⟨gb346, 14, none⟩ = some (.int .i64 a0_14) ∧ w'.cell? ⟨gb346, 15, none⟩ = some (.int .i64 a0_15)) (ds := []) #[false, false, false, false, false, false, false, false, false, false] (by kernel_rfl) rfl rfl (cz16 BK346.out) (fun hHeld => ?_); refine with_tabW impl_PutItem.tab9 impl_PutItem.bits9 (fun HT_ HW_ => ?_)
        generalize w89.drew = w90 at HO_3 HO386 HO389 HO392 HO395 HO398 BK346 HB hHeld ⊢
        refine pure_ (i := 0) (N := some 111) (v := ?_) (a' := ?_) #[true, false, false, false, false, false, false, false, false, false] rfl rfl (any_of HT_.out (by kernel_rfl)) (fun _ _ _ h => h) (Or.inl ⟨by rfl, ?_⟩) ?_ ?_
        rotate_left
        ·
         intro w'
         go_simp
         with_reducible rfl
        rotate_left
        ·
         simp only [Act.put, List.setIfInBounds_toArray, List.set_cons_zero, List.set_cons_succ, i64_w, i32_w]
         rfl
        refine pure_ (i := 1) (N := some 112) (v := ?_) (a' := ?_) #[true, true, false, false, false, false, false, false, false, false] rfl rfl (any_of HT_.out (by kernel_rfl)) (fun _ _ _ h => h) (Or.inl ⟨by rfl, ?_⟩) ?_ ?_
        rotate_left
        ·
         intro w'
         go_simp
         with_reducible rfl
        rotate_left
        ·
         simp only [Act.put, List.setIfInBounds_toArray, List.set_cons_zero, List.set_cons_succ, i64_w, i32_w]
         rfl
        refine pure_ (i := 2) (N := some 113) (v := ?_) (a' := ?_) #[true, true, true, false, false, false, false, false, false, false] rfl rfl (any_of HT_.out (by kernel_rfl)) (fun _ _ _ h => h) (Or.inl ⟨by rfl, ?_⟩) ?_ ?_
        rotate_left
        ·
         intro w'
         go_simp
         with_reducible rfl
        rotate_left
        ·
         simp only [Act.put, List.setIfInBounds_toArray, List.set_cons_zero, List.set_cons_succ, i64_w, i32_w]
         rfl
        refine pure_ (i := 5) (N := some 116) (v := ?_) (a' := ?_) #[true, true, true, false, false, true, false, false, false, false] rfl rfl (any_of HT_.out (by kernel_rfl)) (fun _ _ _ h => h) (Or.inl ⟨by rfl, ?_⟩) ?_ ?_
        rotate_left
        ·
         intro w'
         go_simp
         with_reducible rfl
        rotate_left
        ·
         simp only [Act.put, List.setIfInBounds_toArray, List.set_cons_zero, List.set_cons_succ, i64_w, i32_w]
         rfl
        refine pure_ (i := 6) (N := some 117) (v := ?_) (a' := ?_) #[true, true, true, false, false, true, true, false, false, false] rfl rfl (any_of HT_.out (by kernel_rfl)) (fun _ _ _ h => h) (Or.inl ⟨by rfl, ?_⟩) ?_ ?_
        rotate_left
        ·
         intro w'
         go_simp
         with_reducible rfl
        rotate_left
        ·
         simp only [Act.put, List.setIfInBounds_toArray, List.set_cons_zero, List.set_cons_succ, i64_w, i32_w]
         rfl
        refine take_ (i := 3) (N := some 114) (v := ?_) (a' := ?_) #[true, true, true, true, false, true, true, false, false, false] rfl rfl (take_ofW HT_.out HW_.out (by kernel_rfl)) (fun _ _ _ h => h) (Or.inl ⟨by rfl, ?_⟩) hHeld ?_ ?_
        rotate_left
        ·
         rintro w' ⟨s0, s1, s2, s3, s4, s5, s6, s7, s8, s9, s10, s11, s12, s13, s14, s15⟩
         go_simp
         with_reducible rfl
        rotate_left
        ·
         simp only [Act.put, List.setIfInBounds_toArray, List.set_cons_zero, List.set_cons_succ, i64_w, i32_w]
         rfl
        refine take_ (i := 7) (N := some 118) (v := ?_) (a' := ?_) #[true, true, true, true, false, true, true, true, false, false] rfl rfl (take_ofW HT_.out HW_.out (by kernel_rfl)) (fun _ _ _ h => h) (Or.inl ⟨by rfl, ?_⟩) hHeld ?_ ?_
        rotate_left
        ·
         rintro w' ⟨s0, s1, s2, s3, s4, s5, s6, s7, s8, s9, s10, s11, s12, s13, s14, s15⟩
         go_simp
         with_reducible rfl
        rotate_left
        ·
         simp only [Act.put, List.setIfInBounds_toArray, List.set_cons_zero, List.set_cons_succ, i64_w, i32_w]
         rfl
        refine one_ (i := 4) (N := some 115) #[true, true, true, true, true, true, true, true, false, false] rfl rfl (one_of HT_.out (by kernel_rfl)) (by decide) (fun K hK => ?_)
        refine goes_ Try.func82 (by kernel_rfl) rfl #[.slice Ao91 t396.length co91, .int .i64 a0_14] (by rfl) rfl rfl (by (try simp only [List.map_toArray, List.map_cons, List.map_nil]); first | done | rfl | (simp only [List.length_drop, List.length_take]; rfl)) ?_
        with_reducible refine (impl_PutWord.calls _ _ t396 a0_14 t399 _ ?side1 ?side2 A73.out).mono ?_
        (case side1 => exact qC ((Kd.R_reads' HO398.out).2.2))
        (case side2 => exact (Kd.R_reads' HO398.out).2.1)
        rintro e w92 ⟨v400, rfl, ho0, hb⟩
        refine ⟨_, rfl, ?_⟩
        have HO401 := am_ (Kd.R_lower (Kd.R_new' (Kd.R_new' (Kd.R_new' (Kd.R_new' (Kd.R_new' (Kd.R_new' ho0 (Kd.R_lt (qR HO_3))) (Kd.R_lt (qR HO386))) (Kd.R_lt (qR HO389))) (Kd.R_lt (qR HO392))) (Kd.R_lt (qR HO395))) (Kd.R_lt (qR HO398))) (below_size (qB HB)))
        replace HO_3 := am_ (Kd.R_elder' (qR HO_3) (Kd.R_base ho0) hb)
        replace HO386 := am_ (Kd.R_elder' (qR HO386) (Kd.R_base ho0) hb)
        replace HO389 := am_ (Kd.R_elder' (qR HO389) (Kd.R_base ho0) hb)
        replace HO392 := am_ (Kd.R_elder' (qR HO392) (Kd.R_base ho0) hb)
        replace HO395 := am_ (Kd.R_elder' (qR HO395) (Kd.R_base ho0) hb)
        replace HO398 := am_ (Kd.R_elder' (qR HO398) (Kd.R_base ho0) hb)
        replace BK346 := am_ (blk_below (qK BK346) hb)
        replace HB := am_ (below_step (qB HB) hb)
        (try clear hb ho0)
        obtain ⟨Ao93, co93, eo93⟩ := Kd.R_slice HO401.out
        (first | subst eo93 | (injection eo93 with f1_ f2_ f3_; have f4_ := f1_.symm; have f5_ := f3_.symm; clear f1_ f2_ f3_; subst f4_; subst f5_))
        refine hK.out _ _ (cz16 BK346.out) (fun hHeld => ?_)
        clear hK K
        refine norm_ (a' := ?_) ?_ ?_
        rotate_left
        ·
         show Act.put _ (some 115) _ = _
         simp only [Act.put, List.setIfInBounds_toArray, List.set_cons_zero, List.set_cons_succ, i64_w, i32_w]
         rfl
        refine one_ (i := 8) (N := some 119) #[true, true, true, true, true, true, true, true, true, false] rfl rfl (one_of HT_.out (by kernel_rfl)) (by decide) (fun K hK => ?_)
        refine goes_ Try.func82 (by kernel_rfl) rfl #[.slice Ao93 t399.length co93, .int .i64 a0_15] (by rfl) rfl rfl (by (try simp only [List.map_toArray, List.map_cons, List.map_nil]); first | done | rfl | (simp only [List.length_drop, List.length_take]; rfl)) ?_
        with_reducible refine (impl_PutWord.calls _ _ t399 a0_15 t402 _ ?side1 ?side2 A74.out).mono ?_
        (case side1 => exact qC ((Kd.R_reads' HO401.out).2.2))
        (case side2 => exact (Kd.R_reads' HO401.out).2.1)
        rintro e w94 ⟨v403, rfl, ho0, hb⟩
        refine ⟨_, rfl, ?_⟩
        have HO404 := am_ (Kd.R_lower (Kd.R_new' (Kd.R_new' (Kd.R_new' (Kd.R_new' (Kd.R_new' (Kd.R_new' (Kd.R_new' ho0 (Kd.R_lt (qR HO_3))) (Kd.R_lt (qR HO386))) (Kd.R_lt (qR HO389))) (Kd.R_lt (qR HO392))) (Kd.R_lt (qR HO395))) (Kd.R_lt (qR HO398))) (Kd.R_lt (qR HO401))) (below_size (qB HB)))
        replace HO_3 := am_ (Kd.R_elder' (qR HO_3) (Kd.R_base ho0) hb)
        replace HO386 := am_ (Kd.R_elder' (qR HO386) (Kd.R_base ho0) hb)
        replace HO389 := am_ (Kd.R_elder' (qR HO389) (Kd.R_base ho0) hb)
        replace HO392 := am_ (Kd.R_elder' (qR HO392) (Kd.R_base ho0) hb)
        replace HO395 := am_ (Kd.R_elder' (qR HO395) (Kd.R_base ho0) hb)
        replace HO398 := am_ (Kd.R_elder' (qR HO398) (Kd.R_base ho0) hb)
        replace HO401 := am_ (Kd.R_elder' (qR HO401) (Kd.R_base ho0) hb)
        replace BK346 := am_ (blk_below (qK BK346) hb)
        replace HB := am_ (below_step (qB HB) hb)
        (try clear hb ho0)
        refine hK.out _ _ (cz16 BK346.out) (fun hHeld => ?_)
        clear hK K
        refine norm_ (a' := ?_) ?_ ?_
        rotate_left
        ·
         show Act.put _ (some 119) _ = _
         simp only [Act.put, List.setIfInBounds_toArray, List.set_cons_zero, List.set_cons_succ, i64_w, i32_w]
         rfl
        refine pure_ (i := 9) (N := some 2) (v := ?_) (a' := ?_) #[true, true, true, true, true, true, true, true, true, true] rfl rfl (any_of HT_.out (by kernel_rfl)) (fun _ _ _ h => h) (Or.inl ⟨by rfl, ?_⟩) ?_ ?_
        rotate_left
        ·
         intro w'
         go_simp
         with_reducible rfl
        rotate_left
        ·
         simp only [Act.put, List.setIfInBounds_toArray, List.set_cons_zero, List.set_cons_succ, i64_w, i32_w]
         rfl
        refine done_ (done_of HT_.out (by kernel_rfl)) ?_
        try go_wp2
        go_ret
        exact ⟨_, by first | rfl | (simp [errW_none, errW_some] <;> rfl) | (simp [*, errW_none, errW_some] <;> rfl), by (with_reducible repeat (first | apply Kd.R_alloc | apply Kd.R_drewN | apply Kd.R_drew)); exact Kd.R_mono HO404.out (fun _ hk => trivial), qB HB⟩
       ·
        rw [if_neg c69] at H
        exact absurd H (by simp)
      ·
       replace c67 := Bool.eq_false_iff.mpr c67
       subst c67
       have H1 : (some (([] : List Int))) = some r := by rw [if_neg (show ¬ (false = true) by decide)] at H; exact H
       clear H
       have H := H1
       clear H1
       obtain ⟨y405, hy405⟩ : ∃ y_ : List Int, y_ = (([] : List Int)) := ⟨_, rfl⟩
       replace H : (some y405) = some r := by first | (rw [hy405]; with_reducible exact H) | (have H2_ := (Option.bind_some _ _).symm.trans H; rw [hy405]; with_reducible exact H2_) | (have H2_ := (Option.bind_some _ _).symm.trans H; with_reducible exact H2_) | with_reducible exact H | (rw [hy405]; exact H) | exact H
       have Ny405 := Aside0.mk hy405
       clear hy405
       obtain rfl := Option.some.inj H
       go_wp2_with (first | ((with_reducible refine gate_dst (N := 120) rfl ?_); refine Kd.R_lit (Kd.int .u8) _ 5 ?hg (N := 120) ?hd (xs := ([] : List Int)) (inner := []) (ok := fun _ => True) (okp := fun _ => True) ?hr ?hp (fun _ hk => hk) trivial (Below.refl _ _) (Nat.le_refl _) (by simp) ?_; (case hd => rfl); (case hg => rfl); (case hr => first | (go_simp; done) | (go_simp; rfl)); (case hp => exact (Reps.none _ _)); intro v406 w95 ho96 hb hg_ hnew_; clear hg_ hnew_; (first | rw [← Ny405.out] at ho96 | (simp only [Int.reduceToNat] at ho96; rw [← Ny405.out] at ho96)); have HO407 := am_ (Kd.R_lower (Kd.R_new' ho96 (Kd.R_lt (qR HO_3))) (below_size (qB HB))); replace HO_3 := am_ (Kd.R_elder' (qR HO_3) (Kd.R_base ho96) hb); replace BK346 := am_ (blk_below (qK BK346) hb); replace HB := am_ (below_step (qB HB) hb); clear hb ho96))
       go_ret
       exact ⟨_, by first | rfl | (simp [errW_none, errW_some] <;> rfl) | (simp [*, errW_none, errW_some] <;> rfl), by (with_reducible repeat (first | apply Kd.R_alloc | apply Kd.R_drewN | apply Kd.R_drew)); exact Kd.R_mono HO407.out (fun _ hk => trivial), qB HB⟩

end Go.Proofs.Ytahfemlfdpbkkaa.PFnExactCtlOk
