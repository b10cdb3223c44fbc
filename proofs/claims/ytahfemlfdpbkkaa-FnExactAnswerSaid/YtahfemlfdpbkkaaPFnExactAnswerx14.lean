-- Written by a program of this session (myprint.py, over the kit's print): contracts of FnExactAnswer
import Derived.Test.YtahfemlfdpbkkaaPFnExactAnswerx0
import Derived.Test.YtahfemlfdpbkkaaPFnExactAnswerx9
import Derived.Test.YtahfemlfdpbkkaaPFnExactAnswerx10
import Derived.Test.YtahfemlfdpbkkaaPFnExactAnswerx11
import Derived.Test.YtahfemlfdpbkkaaPFnExactAnswerx12
import Derived.Test.YtahfemlfdpbkkaaPFnExactAnswerx13
namespace Go.Proofs.Ytahfemlfdpbkkaa.PFnExactAnswer
open Go.RowKit Go.Proofs.YtahfemlfdpbkkaaW.PrintWords Go.Proofs.YtahfemlfdpbkkaaW.PrintLast Go.Proofs.YtahfemlfdpbkkaaW.PrintMore Go.Proofs.YtahfemlfdpbkkaaV
attribute [local go_sem] max2_int min2_int max_two min_two max_three min_three max_four min_four   -- for this text's walks alone
set_option linter.unusedVariables false
set_option linter.unusedSimpArgs false

/-! ### impl_Answer: function 52 -/
mutual
def impl_Answer.j0 : Nat → Bool → Int → Int → Int → Bool → List Int → List Int → Int → Int → Int → Int → Int → Bool → List Int → List Int → Int → Int → Option (Int × Int × Int × Bool × List Int × List Int × Int × Int × Bool)
 | 0, _, _, _, _, _, _, _, _, _, _, _, _, _, _, _, _, _ => none
 | k + 1, x24, x370000, x370001, x370002, x370003, x370004, x370005, x370006, x370007, x384000, x384001, x384002, x384003, x384004, x384005, x384006, x384007 => if x24 = true then (some (x384000, x384001, x384002, x384003, x384004, x384005, x384006, x384007, false)) else (if 0 ≤ x370007 then (if x370007 ≤ (x370005.length : Int) then ((impl_GetFrame.f k (x370005.drop (x370007 : Int).toNat)).bind fun bt386 => (if bt386.2.2.2.2 = 0 then (if bt386.1 = 2 then ((impl_AnswerTo.f k x370006 bt386.2.1).bind fun t395 => ((impl_WordOf.f bt386.2.1).bind fun t398 => ((impl_NextSt.f k x370006 t398).bind fun t399 => (impl_Answer.j1 k bt386.2.2.2.1 t395 x370000 x370001 x370002 x370003 x370004 x370005 x370006 x370007 x384000 x384001 x384002 x384003 x384004 x384005 t399 x384007)))) else (impl_Answer.j1 k bt386.2.2.2.1 (([(⟨6, (⟨#[102, 111, 114, 109]⟩ : ByteArray), 0⟩ : S32), (⟨5, (⟨#[]⟩ : ByteArray), x370006⟩ : S32)] : List (S32))) x370000 x370001 x370002 x370003 x370004 x370005 x370006 x370007 x384000 x384001 x384002 x384003 x384004 x384005 x384006 x384007)) else (some (x384000, x384001, x384002, x384003, x384004, x384005, x384006, x384007, false)))) else (none)) else (none))
def impl_Answer.j1 : Nat → Int → List (S32) → Int → Int → Int → Bool → List Int → List Int → Int → Int → Int → Int → Int → Bool → List Int → List Int → Int → Int → Option (Int × Int × Int × Bool × List Int × List Int × Int × Int × Bool)
 | 0, _, _, _, _, _, _, _, _, _, _, _, _, _, _, _, _, _, _ => none
 | k + 1, x6, x8, x370000, x370001, x370002, x370003, x370004, x370005, x370006, x370007, x384000, x384001, x384002, x384003, x384004, x384005, x384006, x384007 => impl_Answer.l0 k x6 x8 (x8.length : Int) 0 x370000 x370001 x370002 x370003 x370004 x370005 x370006 x370007 x384000 x384001 x384002 x384003 x384004 x384005 x384006 x384007
def impl_Answer.l0 : Nat → Int → List (S32) → Int → Int → Int → Int → Int → Bool → List Int → List Int → Int → Int → Int → Int → Int → Bool → List Int → List Int → Int → Int → Option (Int × Int × Int × Bool × List Int × List Int × Int × Int × Bool)
 | 0, _, _, _, _, _, _, _, _, _, _, _, _, _, _, _, _, _, _, _, _ => none
 | k + 1, x6, x59, x60, x61, x370000, x370001, x370002, x370003, x370004, x370005, x370006, x370007, x384000, x384001, x384002, x384003, x384004, x384005, x384006, x384007 => if x61 < x60 then (if 0 ≤ x61 then (if x61 < (x59.length : Int) then ((impl_PutFrame.f k ((rd_T32 x59 x61).f0) ((rd_T32 x59 x61).f1) ((rd_T32 x59 x61).f2)).bind fun t402 => (if x384004.length + t402.length < 140737488355328 then (impl_Answer.l0 k x6 x59 x60 (wrap64 (x61 + 1)) x370000 x370001 x370002 x370003 x370004 x370005 x370006 x370007 x384000 x384001 x384002 x384003 (x384004 ++ t402) x384005 x384006 x384007) else (none))) else (none)) else (none)) else (if (x384004.length : Int) > 240 then ((impl_sockCopy.f x370000 x370001 x370002 x370003 x370004 x370005 x370006 x370007).bind fun bt408 => (some (bt408.1, bt408.2.1, bt408.2.2.1, bt408.2.2.2.1, bt408.2.2.2.2.1, bt408.2.2.2.2.2.1, bt408.2.2.2.2.2.2.1, bt408.2.2.2.2.2.2.2, false))) else (some (x384000, x384001, x384002, x384003, x384004, x384005, x384006, wrap64 (x384007 + x6), true)))
end
def impl_Answer.f (k : Nat) (a0_0 : Int) (a0_1 : Int) (a0_2 : Int) (a0_3 : Bool) (l0_4 : List Int) (l0_5 : List Int) (a0_6 : Int) (a0_7 : Int) : Option (Int × Int × Int × Bool × List Int × List Int × Int × Int × Bool) := (impl_sockCopy.f a0_0 a0_1 a0_2 a0_3 l0_4 l0_5 a0_6 a0_7).bind fun bt371 => ((impl_SockOk.f k a0_0 a0_1 a0_2 a0_3 l0_4 l0_5 a0_6 a0_7).bind fun t384 => (if t384 = true then (if a0_1 = 2 then (impl_Answer.j0 k a0_3 a0_0 a0_1 a0_2 a0_3 l0_4 l0_5 a0_6 a0_7 bt371.1 bt371.2.1 bt371.2.2.1 bt371.2.2.2.1 bt371.2.2.2.2.1 bt371.2.2.2.2.2.1 bt371.2.2.2.2.2.2.1 bt371.2.2.2.2.2.2.2) else (impl_Answer.j0 k true a0_0 a0_1 a0_2 a0_3 l0_4 l0_5 a0_6 a0_7 bt371.1 bt371.2.1 bt371.2.2.1 bt371.2.2.2.1 bt371.2.2.2.2.1 bt371.2.2.2.2.2.1 bt371.2.2.2.2.2.2.1 bt371.2.2.2.2.2.2.2)) else (impl_Answer.j0 k true a0_0 a0_1 a0_2 a0_3 l0_4 l0_5 a0_6 a0_7 bt371.1 bt371.2.1 bt371.2.2.1 bt371.2.2.2.1 bt371.2.2.2.2.1 bt371.2.2.2.2.2.1 bt371.2.2.2.2.2.2.1 bt371.2.2.2.2.2.2.2)))
theorem impl_Answer.mono_l : ∀ k, (∀ y0 y1 y2 y3 y4 y5 y6 y7 y8 y9 y10 y11 y12 y13 y14 y15 y16, LeO (impl_Answer.j0 k y0 y1 y2 y3 y4 y5 y6 y7 y8 y9 y10 y11 y12 y13 y14 y15 y16) (impl_Answer.j0 (k + 1) y0 y1 y2 y3 y4 y5 y6 y7 y8 y9 y10 y11 y12 y13 y14 y15 y16)) ∧ (∀ y0 y1 y2 y3 y4 y5 y6 y7 y8 y9 y10 y11 y12 y13 y14 y15 y16 y17, LeO (impl_Answer.j1 k y0 y1 y2 y3 y4 y5 y6 y7 y8 y9 y10 y11 y12 y13 y14 y15 y16 y17) (impl_Answer.j1 (k + 1) y0 y1 y2 y3 y4 y5 y6 y7 y8 y9 y10 y11 y12 y13 y14 y15 y16 y17)) ∧ (∀ y0 y1 y2 y3 y4 y5 y6 y7 y8 y9 y10 y11 y12 y13 y14 y15 y16 y17 y18 y19, LeO (impl_Answer.l0 k y0 y1 y2 y3 y4 y5 y6 y7 y8 y9 y10 y11 y12 y13 y14 y15 y16 y17 y18 y19) (impl_Answer.l0 (k + 1) y0 y1 y2 y3 y4 y5 y6 y7 y8 y9 y10 y11 y12 y13 y14 y15 y16 y17 y18 y19))
 | 0 => ⟨fun _ _ _ _ _ _ _ _ _ _ _ _ _ _ _ _ _ r h => by simp [impl_Answer.j0] at h, fun _ _ _ _ _ _ _ _ _ _ _ _ _ _ _ _ _ _ r h => by simp [impl_Answer.j1] at h, fun _ _ _ _ _ _ _ _ _ _ _ _ _ _ _ _ _ _ _ _ r h => by simp [impl_Answer.l0] at h⟩
 | k + 1 => by
  obtain ⟨ih0, ih1, ih2⟩ := impl_Answer.mono_l k
  refine ⟨?_, ?_, ?_⟩
  ·
   intro y0 y1 y2 y3 y4 y5 y6 y7 y8 y9 y10 y11 y12 y13 y14 y15 y16
   unfold impl_Answer.j0
   repeat' first
   | (with_reducible exact ih0 _ _ _ _ _ _ _ _ _ _ _ _ _ _ _ _ _)
   | (with_reducible exact ih1 _ _ _ _ _ _ _ _ _ _ _ _ _ _ _ _ _ _)
   | (with_reducible exact ih2 _ _ _ _ _ _ _ _ _ _ _ _ _ _ _ _ _ _ _ _)
   | (with_reducible exact impl_AnswerTo.mono _ _ _)
   | (with_reducible exact impl_GetFrame.mono _ _)
   | (with_reducible exact impl_NextSt.mono _ _ _)
   | (with_reducible exact impl_PutFrame.mono _ _ _ _)
   | (with_reducible exact impl_SockOk.mono _ _ _ _ _ _ _ _ _)
   | (with_reducible exact LeO.refl _)
   | (with_reducible exact LeO.none _)
   | (with_reducible refine LeO.ite ?_ ?_)
   | (with_reducible refine LeO.bind ?_ (fun _ => ?_))
   | exact ih0 _ _ _ _ _ _ _ _ _ _ _ _ _ _ _ _ _
   | exact ih1 _ _ _ _ _ _ _ _ _ _ _ _ _ _ _ _ _ _
   | exact ih2 _ _ _ _ _ _ _ _ _ _ _ _ _ _ _ _ _ _ _ _
   | exact impl_AnswerTo.mono _ _ _
   | exact impl_GetFrame.mono _ _
   | exact impl_NextSt.mono _ _ _
   | exact impl_PutFrame.mono _ _ _ _
   | exact impl_SockOk.mono _ _ _ _ _ _ _ _ _
   | exact LeO.none _
   | refine LeO.ite ?_ ?_
   | refine LeO.bind ?_ (fun _ => ?_)
  ·
   intro y0 y1 y2 y3 y4 y5 y6 y7 y8 y9 y10 y11 y12 y13 y14 y15 y16 y17
   unfold impl_Answer.j1
   repeat' first
   | (with_reducible exact ih0 _ _ _ _ _ _ _ _ _ _ _ _ _ _ _ _ _)
   | (with_reducible exact ih1 _ _ _ _ _ _ _ _ _ _ _ _ _ _ _ _ _ _)
   | (with_reducible exact ih2 _ _ _ _ _ _ _ _ _ _ _ _ _ _ _ _ _ _ _ _)
   | (with_reducible exact impl_AnswerTo.mono _ _ _)
   | (with_reducible exact impl_GetFrame.mono _ _)
   | (with_reducible exact impl_NextSt.mono _ _ _)
   | (with_reducible exact impl_PutFrame.mono _ _ _ _)
   | (with_reducible exact impl_SockOk.mono _ _ _ _ _ _ _ _ _)
   | (with_reducible exact LeO.refl _)
   | (with_reducible exact LeO.none _)
   | (with_reducible refine LeO.ite ?_ ?_)
   | (with_reducible refine LeO.bind ?_ (fun _ => ?_))
   | exact ih0 _ _ _ _ _ _ _ _ _ _ _ _ _ _ _ _ _
   | exact ih1 _ _ _ _ _ _ _ _ _ _ _ _ _ _ _ _ _ _
   | exact ih2 _ _ _ _ _ _ _ _ _ _ _ _ _ _ _ _ _ _ _ _
   | exact impl_AnswerTo.mono _ _ _
   | exact impl_GetFrame.mono _ _
   | exact impl_NextSt.mono _ _ _
   | exact impl_PutFrame.mono _ _ _ _
   | exact impl_SockOk.mono _ _ _ _ _ _ _ _ _
   | exact LeO.none _
   | refine LeO.ite ?_ ?_
   | refine LeO.bind ?_ (fun _ => ?_)
  ·
   intro y0 y1 y2 y3 y4 y5 y6 y7 y8 y9 y10 y11 y12 y13 y14 y15 y16 y17 y18 y19
   unfold impl_Answer.l0
   repeat' first
   | (with_reducible exact ih0 _ _ _ _ _ _ _ _ _ _ _ _ _ _ _ _ _)
   | (with_reducible exact ih1 _ _ _ _ _ _ _ _ _ _ _ _ _ _ _ _ _ _)
   | (with_reducible exact ih2 _ _ _ _ _ _ _ _ _ _ _ _ _ _ _ _ _ _ _ _)
   | (with_reducible exact impl_AnswerTo.mono _ _ _)
   | (with_reducible exact impl_GetFrame.mono _ _)
   | (with_reducible exact impl_NextSt.mono _ _ _)
   | (with_reducible exact impl_PutFrame.mono _ _ _ _)
   | (with_reducible exact impl_SockOk.mono _ _ _ _ _ _ _ _ _)
   | (with_reducible exact LeO.refl _)
   | (with_reducible exact LeO.none _)
   | (with_reducible refine LeO.ite ?_ ?_)
   | (with_reducible refine LeO.bind ?_ (fun _ => ?_))
   | exact ih0 _ _ _ _ _ _ _ _ _ _ _ _ _ _ _ _ _
   | exact ih1 _ _ _ _ _ _ _ _ _ _ _ _ _ _ _ _ _ _
   | exact ih2 _ _ _ _ _ _ _ _ _ _ _ _ _ _ _ _ _ _ _ _
   | exact impl_AnswerTo.mono _ _ _
   | exact impl_GetFrame.mono _ _
   | exact impl_NextSt.mono _ _ _
   | exact impl_PutFrame.mono _ _ _ _
   | exact impl_SockOk.mono _ _ _ _ _ _ _ _ _
   | exact LeO.none _
   | refine LeO.ite ?_ ?_
   | refine LeO.bind ?_ (fun _ => ?_)
theorem impl_Answer.mono : ∀ a0 a1 a2 a3 a4 a5 a6 a7 k, LeO (impl_Answer.f k a0 a1 a2 a3 a4 a5 a6 a7) (impl_Answer.f (k + 1) a0 a1 a2 a3 a4 a5 a6 a7) := by
 intro a0 a1 a2 a3 a4 a5 a6 a7 k
 obtain ⟨ih0, ih1, ih2⟩ := impl_Answer.mono_l k
 unfold impl_Answer.f
 repeat' first
   | (with_reducible exact ih0 _ _ _ _ _ _ _ _ _ _ _ _ _ _ _ _ _)
   | (with_reducible exact ih1 _ _ _ _ _ _ _ _ _ _ _ _ _ _ _ _ _ _)
   | (with_reducible exact ih2 _ _ _ _ _ _ _ _ _ _ _ _ _ _ _ _ _ _ _ _)
   | (with_reducible exact impl_AnswerTo.mono _ _ _)
   | (with_reducible exact impl_GetFrame.mono _ _)
   | (with_reducible exact impl_NextSt.mono _ _ _)
   | (with_reducible exact impl_PutFrame.mono _ _ _ _)
   | (with_reducible exact impl_SockOk.mono _ _ _ _ _ _ _ _ _)
   | (with_reducible exact LeO.refl _)
   | (with_reducible exact LeO.none _)
   | (with_reducible refine LeO.ite ?_ ?_)
   | (with_reducible refine LeO.bind ?_ (fun _ => ?_))
   | exact ih0 _ _ _ _ _ _ _ _ _ _ _ _ _ _ _ _ _
   | exact ih1 _ _ _ _ _ _ _ _ _ _ _ _ _ _ _ _ _ _
   | exact ih2 _ _ _ _ _ _ _ _ _ _ _ _ _ _ _ _ _ _ _ _
   | exact impl_AnswerTo.mono _ _ _
   | exact impl_GetFrame.mono _ _
   | exact impl_NextSt.mono _ _ _
   | exact impl_PutFrame.mono _ _ _ _
   | exact impl_SockOk.mono _ _ _ _ _ _ _ _ _
   | exact LeO.none _
   | refine LeO.ite ?_ ?_
   | refine LeO.bind ?_ (fun _ => ?_)
def impl_Answer.T10 : Bool × List (List Nat × List Nat) := (true, [([], []), ([0], [0]), ([], []), ([2], [2]), ([3], [3]), ([1, 4, 4], [1, 4]), ([0, 1, 2, 3, 4, 5], []), ([6, 5, 5, 0, 1, 2, 3, 4, 5], [5, 6])])
def impl_Answer.B10 : List Nat := [0, 1, 0, 4, 12, 31, 63, 127]
theorem impl_Answer.tab10 : rtab .any (opsOf Try.f52 10) = impl_Answer.T10 := by kernel_rfl
theorem impl_Answer.bits10 : waitsOk impl_Answer.T10.2 impl_Answer.B10 = true := by kernel_rfl
set_option maxHeartbeats 8000000 in
set_option maxRecDepth 100000 in
theorem impl_Answer.calls (k : Nat) (a0_0 : Int) (a0_1 : Int) (a0_2 : Int) (a0_3 : Bool) (A0_4 : Option Addr) (c0_4 : Nat) (l0_4 : List Int) (A0_5 : Option Addr) (c0_5 : Nat) (l0_5 : List Int) (a0_6 : Int) (a0_7 : Int) (r1 : Int) (r2 : Int) (r3 : Int) (r4 : Bool) (r5 : List Int) (r6 : List Int) (r7 : Int) (r8 : Int) (r9 : Bool) (w : World) (hr0_4 : Kd.C (Kd.int .u8) w A0_4 l0_4.length l0_4) (hc0_4 : l0_4.length ≤ c0_4) (hr0_5 : Kd.C (Kd.int .u8) w A0_5 l0_5.length l0_5) (hc0_5 : l0_5.length ≤ c0_5) (h : impl_Answer.f k a0_0 a0_1 a0_2 a0_3 l0_4 l0_5 a0_6 a0_7 = some (r1, r2, r3, r4, r5, r6, r7, r8, r9)) :
  Calls Try.prog 52 #[.agg #[.int .i64 a0_0, .int .i64 a0_1, .int .i64 a0_2, .bool a0_3, .slice A0_4 l0_4.length c0_4, .slice A0_5 l0_5.length c0_5, .int .i64 a0_6, .int .i64 a0_7]] w fun e w' => ∃ v4_ v5_ : Value, e = .returned (.tuple #[.agg #[.int .i64 r1, .int .i64 r2, .int .i64 r3, .bool r4, v4_, v5_, .int .i64 r7, .int .i64 r8], .bool r9]) ∧ Kd.R (Kd.int .u8) 5 w' w.heap.size (fun k_ => some k_ ≠ (v5_ : Value).ownBlock) v4_ r5 ∧ Kd.R (Kd.int .u8) 5 w' w.heap.size (fun k_ => some k_ ≠ (v4_ : Value).ownBlock) v5_ r6 ∧ Below w.heap.size w w' := by
 have hu29 := Try.underlying29
 have hu32 := Try.underlying32
 have HR0_4 := Aside0.mk hr0_4
 have HC0_4 := Aside0.mk hc0_4
 clear hr0_4 hc0_4
 have HR0_5 := Aside0.mk hr0_5
 have HC0_5 := Aside0.mk hc0_5
 clear hr0_5 hc0_5
 have HB := Aside0.mk (Below.refl w.heap.size w)
 have H : ((impl_sockCopy.f a0_0 a0_1 a0_2 a0_3 l0_4 l0_5 a0_6 a0_7).bind fun bt371 => ((impl_SockOk.f k a0_0 a0_1 a0_2 a0_3 l0_4 l0_5 a0_6 a0_7).bind fun t384 => (if t384 = true then (if a0_1 = 2 then (impl_Answer.j0 k a0_3 a0_0 a0_1 a0_2 a0_3 l0_4 l0_5 a0_6 a0_7 bt371.1 bt371.2.1 bt371.2.2.1 bt371.2.2.2.1 bt371.2.2.2.2.1 bt371.2.2.2.2.2.1 bt371.2.2.2.2.2.2.1 bt371.2.2.2.2.2.2.2) else (impl_Answer.j0 k true a0_0 a0_1 a0_2 a0_3 l0_4 l0_5 a0_6 a0_7 bt371.1 bt371.2.1 bt371.2.2.1 bt371.2.2.2.1 bt371.2.2.2.2.1 bt371.2.2.2.2.2.1 bt371.2.2.2.2.2.2.1 bt371.2.2.2.2.2.2.2)) else (impl_Answer.j0 k true a0_0 a0_1 a0_2 a0_3 l0_4 l0_5 a0_6 a0_7 bt371.1 bt371.2.1 bt371.2.2.1 bt371.2.2.2.1 bt371.2.2.2.2.1 bt371.2.2.2.2.2.1 bt371.2.2.2.2.2.2.1 bt371.2.2.2.2.2.2.2)))) = some (r1, r2, r3, r4, r5, r6, r7, r8, r9) := h
 clear h
 replace H := Option.bind_eq_some_iff.mp H
 obtain ⟨⟨t371, t372, t373, t374, t375, t378, t381, t382⟩, A20, H⟩ := H
 replace H : ((impl_SockOk.f k a0_0 a0_1 a0_2 a0_3 l0_4 l0_5 a0_6 a0_7).bind fun t384 => (if t384 = true then (if a0_1 = 2 then (impl_Answer.j0 k a0_3 a0_0 a0_1 a0_2 a0_3 l0_4 l0_5 a0_6 a0_7 t371 t372 t373 t374 t375 t378 t381 t382) else (impl_Answer.j0 k true a0_0 a0_1 a0_2 a0_3 l0_4 l0_5 a0_6 a0_7 t371 t372 t373 t374 t375 t378 t381 t382)) else (impl_Answer.j0 k true a0_0 a0_1 a0_2 a0_3 l0_4 l0_5 a0_6 a0_7 t371 t372 t373 t374 t375 t378 t381 t382))) = some (r1, r2, r3, r4, r5, r6, r7, r8, r9) := H
 have A2 := Aside0.mk A20
 clear A20
 have HC3 := Aside0.mk H
 clear H
 go_enter Try.func52, Try.ntmps52
 go_upto_region 2 with (first | ((with_reducible refine gate_dst (N := 1) rfl ?_); refine box_event ?hg (N := 1) ?hd (cs := #[.int .i64 a0_0, .int .i64 a0_1, .int .i64 a0_2, .bool a0_3, .slice A0_4 l0_4.length c0_4, .slice A0_5 l0_5.length c0_5, .int .i64 a0_6, .int .i64 a0_7]) (t := 29) ?hr ?_; (case hd => rfl); (case hg => rfl); (case hr => first | (go_simp; done) | (go_simp; rfl)); intro gb369 hg w4 hbox hb; have BK369 := am_ (hbox); have GW369 := am_ ((gG_ hg (qB HB))); have IGW369 := gI_ GW369; have GE369 := am_ ((gG_ hg (qB HB))); have IGE369 := gI_ GE369; replace HB := am_ (below_step (qB HB) hb); clear hb hbox hg) | ((with_reducible refine gate_dst (N := 2) rfl ?_); refine box_event ?hg (N := 2) ?hd (cs := #[.int .i64 0, .int .i64 0, .int .i64 0, .bool false, .slice none 0 0, .slice none 0 0, .int .i64 0, .int .i64 0]) (t := 29) ?hr ?_; (case hd => rfl); (case hg => rfl); (case hr => first | (go_simp; done) | (go_simp; rfl)); intro gb370 hg w5 hbox hb; have BK370 := am_ (hbox); have GW370 := am_ ((gG_ hg (qB HB))); have IGW370 := gI_ GW370; have GE370 := am_ ((gG_ hg (qB HB))); have IGE370 := gI_ GE370; replace HB := am_ (below_step (qB HB) hb); have NB369_370 := am_ ((gN_ hg (qK BK369))); have NB370_369 := am_ ((gM_ hg (qK BK369))); replace BK369 := am_ (blk_below (qK BK369) hb); clear hb hbox hg; have hnb6 := NB369_370.out; have hnc6 := NB370_369.out; obtain ⟨hcz7_0, hcz7_1, hcz7_2, hcz7_3, hcz7_4, hcz7_5, hcz7_6, hcz7_7⟩ := cz8 BK369.out; obtain ⟨hfz7_0, hfz7_1, hfz7_2, hfz7_3, hfz7_4, hfz7_5, hfz7_6, hfz7_7⟩ := fz8 BK369.out) | ((with_reducible refine gate_callee (f := 68) rfl ?_); refine goesL_ (some 12) rfl rfl Try.func68 (by kernel_rfl) rfl #[.agg #[.int .i64 a0_0, .int .i64 a0_1, .int .i64 a0_2, .bool a0_3, .slice A0_4 l0_4.length c0_4, .slice A0_5 l0_5.length c0_5, .int .i64 a0_6, .int .i64 a0_7]] rfl (by (try simp only [List.map_toArray, List.map_cons, List.map_nil]); first | done | rfl | (simp only [List.length_drop, List.length_take]; rfl)) ?_; (with_reducible refine (impl_sockCopy.calls a0_0 a0_1 a0_2 a0_3 _ _ l0_4 _ _ l0_5 a0_6 a0_7 t371 t372 t373 t374 t375 t378 t381 t382 _ ?side1 ?side2 ?side3 ?side4 A2.out).mono ?_); (case side1 => exact qC (Kd.C_below HR0_4.out HB.out)); (case side2 => exact HC0_4.out); (case side3 => exact qC (Kd.C_below HR0_5.out HB.out)); (case side4 => exact HC0_5.out); rintro e w8 ⟨v376, v379, rfl, ho0, ho1, hb⟩; refine ⟨_, rfl, ?_⟩; have HO377 := am_ (Kd.R_lower ho0 (below_size (qB HB))); have HO380 := am_ (Kd.R_lower ho1 (below_size (qB HB))); replace BK369 := am_ (blk_below (qK BK369) hb); replace BK370 := am_ (blk_below (qK BK370) hb); replace HB := am_ (below_step (qB HB) hb); (try clear hb); (try clear hb2); (try clear hk); (try clear hi); (try clear ho0); (try clear ho1)) | ((with_reducible refine gate_dst (N := 4) rfl ?_); refine box_event ?hg (N := 4) ?hd (cs := #[.int .i64 0, .int .i64 0, .int .i64 0, .bool false, .slice none 0 0, .slice none 0 0, .int .i64 0, .int .i64 0]) (t := 29) ?hr ?_; (case hd => rfl); (case hg => rfl); (case hr => first | (go_simp; done) | (go_simp; rfl)); intro gb383 hg w9 hbox hb; replace HO377 := am_ (Kd.R_below (qR HO377) hb); replace HO380 := am_ (Kd.R_below (qR HO380) hb); have BK383 := am_ (hbox); have GW383 := am_ ((gG_ hg (qB HB))); have IGW383 := gI_ GW383; have GE383 := am_ ((gG_ hg (qB HB))); have IGE383 := gI_ GE383; replace HB := am_ (below_step (qB HB) hb); have NB369_383 := am_ ((gN_ hg (qK BK369))); have NB383_369 := am_ ((gM_ hg (qK BK369))); replace BK369 := am_ (blk_below (qK BK369) hb); have NB370_383 := am_ ((gN_ hg (qK BK370))); have NB383_370 := am_ ((gM_ hg (qK BK370))); replace BK370 := am_ (blk_below (qK BK370) hb); clear hb hbox hg; have hnb10 := NB383_369.out; have hnc10 := NB369_383.out; have hnb11 := NB383_370.out; have hnc11 := NB370_383.out; obtain ⟨hcz12_0, hcz12_1, hcz12_2, hcz12_3, hcz12_4, hcz12_5, hcz12_6, hcz12_7⟩ := cz8 BK383.out; obtain ⟨hfz12_0, hfz12_1, hfz12_2, hfz12_3, hfz12_4, hfz12_5, hfz12_6, hfz12_7⟩ := fz8 BK383.out; obtain ⟨Ao13, co13, eo13⟩ := Kd.R_slice HO377.out; subst eo13; obtain ⟨Ao14, co14, eo14⟩ := Kd.R_slice HO380.out; subst eo14))
 (try simp only [Act.put, List.setIfInBounds_toArray, List.set_cons_zero, List.set_cons_succ])
 go_cut [24] (fun v24 wc => ∃ (kq : Nat) (x24_2 : Bool), v24 = .bool x24_2 ∧ Aside0 (impl_Answer.j0 kq x24_2 a0_0 a0_1 a0_2 a0_3 l0_4 l0_5 a0_6 a0_7 t371 t372 t373 t374 t375 t378 t381 t382 = some (r1, r2, r3, r4, r5, r6, r7, r8, r9)) ∧ Aside0 (kq ≤ k) ∧ Aside0 (Kd.R (Kd.int .u8) 5 wc w.heap.size (fun k_ => some k_ ≠ ((.slice Ao14 t378.length co14) : Value).ownBlock) (.slice Ao13 t375.length co13) t375) ∧ Aside0 (Kd.R (Kd.int .u8) 5 wc w.heap.size (fun k_ => some k_ ≠ ((.slice Ao13 t375.length co13) : Value).ownBlock) (.slice Ao14 t378.length co14) t378) ∧ Aside0 (wc.heap[gb369]? = some (.cells #[.int .i64 a0_0, .int .i64 a0_1, .int .i64 a0_2, .bool a0_3, (.slice A0_4 l0_4.length c0_4), (.slice A0_5 l0_5.length c0_5), .int .i64 a0_6, .int .i64 a0_7] 29 (0, 0))) ∧ Aside0 (wc.heap[gb370]? = some (.cells #[.int .i64 0, .int .i64 0, .int .i64 0, .bool false, (.slice none 0 0), (.slice none 0 0), .int .i64 0, .int .i64 0] 29 (0, 0))) ∧ Aside0 (wc.heap[gb383]? = some (.cells #[.int .i64 t371, .int .i64 t372, .int .i64 t373, .bool t374, (.slice Ao13 t375.length co13), (.slice Ao14 t378.length co14), .int .i64 t381, .int .i64 t382] 29 (0, 0))) ∧ Aside0 (Below w.heap.size w wc))
 case first =>
  have H := HC3.out
  clear HC3
  replace H := Option.bind_eq_some_iff.mp H
  obtain ⟨t384, A150, H⟩ := H
  replace H : (if t384 = true then (if a0_1 = 2 then (impl_Answer.j0 k a0_3 a0_0 a0_1 a0_2 a0_3 l0_4 l0_5 a0_6 a0_7 t371 t372 t373 t374 t375 t378 t381 t382) else (impl_Answer.j0 k true a0_0 a0_1 a0_2 a0_3 l0_4 l0_5 a0_6 a0_7 t371 t372 t373 t374 t375 t378 t381 t382)) else (impl_Answer.j0 k true a0_0 a0_1 a0_2 a0_3 l0_4 l0_5 a0_6 a0_7 t371 t372 t373 t374 t375 t378 t381 t382)) = some (r1, r2, r3, r4, r5, r6, r7, r8, r9) := H
  have A15 := Aside0.mk A150
  clear A150
  by_cases c16 : t384 = true
  ·
   subst c16
   have H1 : (if a0_1 = 2 then (impl_Answer.j0 k a0_3 a0_0 a0_1 a0_2 a0_3 l0_4 l0_5 a0_6 a0_7 t371 t372 t373 t374 t375 t378 t381 t382) else (impl_Answer.j0 k true a0_0 a0_1 a0_2 a0_3 l0_4 l0_5 a0_6 a0_7 t371 t372 t373 t374 t375 t378 t381 t382)) = some (r1, r2, r3, r4, r5, r6, r7, r8, r9) := by rw [if_pos rfl] at H; exact H
   clear H
   have H := H1
   clear H1
   by_cases c17 : a0_1 = 2
   ·
    rw [if_pos c17] at H
    have c17b0 : (a0_1 == 2) = true := beq_iff_eq.mpr c17
    have c17b1 : (a0_1 != 2) = false := bne_eq_false_iff_eq.mpr c17
    clear c17
    (first | rw [c17b0] | (simp only [i64_w, i32_w]; rw [c17b0]) | skip)
    have H' := Aside0.mk H
    clear H
    have hnb18 := NB369_370.out
    have hnc18 := NB370_369.out
    have hnb19 := NB369_383.out
    have hnc19 := NB383_369.out
    obtain ⟨hcz20_0, hcz20_1, hcz20_2, hcz20_3, hcz20_4, hcz20_5, hcz20_6, hcz20_7⟩ := cz8 BK369.out
    obtain ⟨hfz20_0, hfz20_1, hfz20_2, hfz20_3, hfz20_4, hfz20_5, hfz20_6, hfz20_7⟩ := fz8 BK369.out
    go_wp2_with (first | ((with_reducible refine gate_callee (f := 69) rfl ?_); refine goesL_ (some 14) rfl rfl Try.func69 (by kernel_rfl) rfl #[.agg #[.int .i64 a0_0, .int .i64 a0_1, .int .i64 a0_2, .bool a0_3, .slice A0_4 l0_4.length c0_4, .slice A0_5 l0_5.length c0_5, .int .i64 a0_6, .int .i64 a0_7]] rfl (by (try simp only [List.map_toArray, List.map_cons, List.map_nil]); first | done | rfl | (simp only [List.length_drop, List.length_take]; rfl)) ?_; (with_reducible refine (impl_SockOk.calls k a0_0 a0_1 a0_2 a0_3 _ _ l0_4 _ _ l0_5 a0_6 a0_7 true _ ?side1 ?side2 ?side3 ?side4 A15.out).mono ?_); (case side1 => exact Kd.C_below HR0_4.out (qB HB)); (case side2 => exact HC0_4.out); (case side3 => exact Kd.C_below HR0_5.out (qB HB)); (case side4 => exact HC0_5.out); rintro e w21 ⟨rfl, hb⟩; refine ⟨_, rfl, ?_⟩; replace HO377 := am_ (Kd.R_below (by (with_reducible repeat (first | apply Kd.R_alloc | apply Kd.R_drewN | apply Kd.R_drew)); exact (Kd.R_mono (Go.Proofs.YtahfemlfdpbkkaaV.R_far8 (g := gb383) (Kd.R_types HO377.out BK383.out (by decide)) (fun _ hk => hk.2)) (fun _ h_ => h_.1))) hb); replace HO380 := am_ (Kd.R_below (by (with_reducible repeat (first | apply Kd.R_alloc | apply Kd.R_drewN | apply Kd.R_drew)); exact (Kd.R_mono (Go.Proofs.YtahfemlfdpbkkaaV.R_far8 (g := gb383) (Kd.R_types HO380.out BK383.out (by decide)) (fun _ hk => hk.2)) (fun _ h_ => h_.1))) hb); replace BK369 := am_ (blk_below (g := gb369) (o := .cells #[.int .i64 a0_0, .int .i64 a0_1, .int .i64 a0_2, .bool a0_3, .slice A0_4 l0_4.length c0_4, .slice A0_5 l0_5.length c0_5, .int .i64 a0_6, .int .i64 a0_7] 29 (0, 0)) (by (with_reducible repeat (first | refine blk_drewN ?_ _ | refine blk_drew ?_ | refine blk_alloc ?_ _)); refine Go.Proofs.YtahfemlfdpbkkaaV.blk_far8 ?_ NB369_383.out; (with_reducible repeat (first | refine blk_drewN ?_ _ | refine blk_drew ?_ | refine blk_alloc ?_ _)); exact BK369.out) hb); replace BK370 := am_ (blk_below (g := gb370) (o := .cells #[.int .i64 0, .int .i64 0, .int .i64 0, .bool false, .slice none 0 0, .slice none 0 0, .int .i64 0, .int .i64 0] 29 (0, 0)) (by (with_reducible repeat (first | refine blk_drewN ?_ _ | refine blk_drew ?_ | refine blk_alloc ?_ _)); refine Go.Proofs.YtahfemlfdpbkkaaV.blk_far8 ?_ NB370_383.out; (with_reducible repeat (first | refine blk_drewN ?_ _ | refine blk_drew ?_ | refine blk_alloc ?_ _)); exact BK370.out) hb); replace BK383 := am_ (blk_below (g := gb383) (o := .cells #[.int .i64 t371, .int .i64 t372, .int .i64 t373, .bool t374, .slice Ao13 t375.length co13, .slice Ao14 t378.length co14, .int .i64 t381, .int .i64 t382] 29 (0, 0)) (by (with_reducible repeat (first | refine blk_drewN ?_ _ | refine blk_drew ?_ | refine blk_alloc ?_ _)); refine Go.Proofs.YtahfemlfdpbkkaaV.blk_all8 (show _ = some (Go.Obj.cells #[.int .i64 0, .int .i64 0, .int .i64 0, .bool false, .slice none 0 0, .slice none 0 0, .int .i64 0, .int .i64 0] _ (0, 0)) from ?_); (with_reducible repeat (first | refine blk_drewN ?_ _ | refine blk_drew ?_ | refine blk_alloc ?_ _)); exact BK383.out) hb); replace HB := am_ (below_step (qB HB) hb); (try clear hb); (try clear hb2); (try clear hk); (try clear hi); obtain ⟨hcz22_0, hcz22_1, hcz22_2, hcz22_3, hcz22_4, hcz22_5, hcz22_6, hcz22_7⟩ := cz8 BK369.out; obtain ⟨hfz22_0, hfz22_1, hfz22_2, hfz22_3, hfz22_4, hfz22_5, hfz22_6, hfz22_7⟩ := fz8 BK369.out))
    go_meet
    case rel => exact ⟨_, (a0_3), (by first | rfl | (simp; done) | (simp [*]; done) | (simp [Go.Proofs.YtahfemlfdpbkkaaV.bne_nil, Go.Proofs.YtahfemlfdpbkkaaV.beq_nil]; done)), H', ⟨by first | omega | exact Nat.le_refl _⟩, ⟨qR HO377⟩, ⟨qR HO380⟩, ⟨qK BK369⟩, ⟨qK BK370⟩, ⟨qK BK383⟩, ⟨qB HB⟩⟩
   ·
    rw [if_neg c17] at H
    have c17b0 : (a0_1 == 2) = false := beq_eq_false_iff_ne.mpr c17
    have c17b1 : (a0_1 != 2) = true := bne_iff_ne.mpr c17
    (first | rw [c17b0] | (simp only [i64_w, i32_w]; rw [c17b0]) | skip)
    have H' := Aside0.mk H
    clear H
    have hnb23 := NB369_370.out
    have hnc23 := NB370_369.out
    have hnb24 := NB369_383.out
    have hnc24 := NB383_369.out
    obtain ⟨hcz25_0, hcz25_1, hcz25_2, hcz25_3, hcz25_4, hcz25_5, hcz25_6, hcz25_7⟩ := cz8 BK369.out
    obtain ⟨hfz25_0, hfz25_1, hfz25_2, hfz25_3, hfz25_4, hfz25_5, hfz25_6, hfz25_7⟩ := fz8 BK369.out
    go_wp2_with (first | ((with_reducible refine gate_callee (f := 69) rfl ?_); refine goesL_ (some 14) rfl rfl Try.func69 (by kernel_rfl) rfl #[.agg #[.int .i64 a0_0, .int .i64 a0_1, .int .i64 a0_2, .bool a0_3, .slice A0_4 l0_4.length c0_4, .slice A0_5 l0_5.length c0_5, .int .i64 a0_6, .int .i64 a0_7]] rfl (by (try simp only [List.map_toArray, List.map_cons, List.map_nil]); first | done | rfl | (simp only [List.length_drop, List.length_take]; rfl)) ?_; (with_reducible refine (impl_SockOk.calls k a0_0 a0_1 a0_2 a0_3 _ _ l0_4 _ _ l0_5 a0_6 a0_7 true _ ?side1 ?side2 ?side3 ?side4 A15.out).mono ?_); (case side1 => exact Kd.C_below HR0_4.out (qB HB)); (case side2 => exact HC0_4.out); (case side3 => exact Kd.C_below HR0_5.out (qB HB)); (case side4 => exact HC0_5.out); rintro e w26 ⟨rfl, hb⟩; refine ⟨_, rfl, ?_⟩; replace HO377 := am_ (Kd.R_below (by (with_reducible repeat (first | apply Kd.R_alloc | apply Kd.R_drewN | apply Kd.R_drew)); exact (Kd.R_mono (Go.Proofs.YtahfemlfdpbkkaaV.R_far8 (g := gb383) (Kd.R_types HO377.out BK383.out (by decide)) (fun _ hk => hk.2)) (fun _ h_ => h_.1))) hb); replace HO380 := am_ (Kd.R_below (by (with_reducible repeat (first | apply Kd.R_alloc | apply Kd.R_drewN | apply Kd.R_drew)); exact (Kd.R_mono (Go.Proofs.YtahfemlfdpbkkaaV.R_far8 (g := gb383) (Kd.R_types HO380.out BK383.out (by decide)) (fun _ hk => hk.2)) (fun _ h_ => h_.1))) hb); replace BK369 := am_ (blk_below (g := gb369) (o := .cells #[.int .i64 a0_0, .int .i64 a0_1, .int .i64 a0_2, .bool a0_3, .slice A0_4 l0_4.length c0_4, .slice A0_5 l0_5.length c0_5, .int .i64 a0_6, .int .i64 a0_7] 29 (0, 0)) (by (with_reducible repeat (first | refine blk_drewN ?_ _ | refine blk_drew ?_ | refine blk_alloc ?_ _)); refine Go.Proofs.YtahfemlfdpbkkaaV.blk_far8 ?_ NB369_383.out; (with_reducible repeat (first | refine blk_drewN ?_ _ | refine blk_drew ?_ | refine blk_alloc ?_ _)); exact BK369.out) hb); replace BK370 := am_ (blk_below (g := gb370) (o := .cells #[.int .i64 0, .int .i64 0, .int .i64 0, .bool false, .slice none 0 0, .slice none 0 0, .int .i64 0, .int .i64 0] 29 (0, 0)) (by (with_reducible repeat (first | refine blk_drewN ?_ _ | refine blk_drew ?_ | refine blk_alloc ?_ _)); refine Go.Proofs.YtahfemlfdpbkkaaV.blk_far8 ?_ NB370_383.out; (with_reducible repeat (first | refine blk_drewN ?_ _ | refine blk_drew ?_ | refine blk_alloc ?_ _)); exact BK370.out) hb); replace BK383 := am_ (blk_below (g := gb383) (o := .cells #[.int .i64 t371, .int .i64 t372, .int .i64 t373, .bool t374, .slice Ao13 t375.length co13, .slice Ao14 t378.length co14, .int .i64 t381, .int .i64 t382] 29 (0, 0)) (by (with_reducible repeat (first | refine blk_drewN ?_ _ | refine blk_drew ?_ | refine blk_alloc ?_ _)); refine Go.Proofs.YtahfemlfdpbkkaaV.blk_all8 (show _ = some (Go.Obj.cells #[.int .i64 0, .int .i64 0, .int .i64 0, .bool false, .slice none 0 0, .slice none 0 0, .int .i64 0, .int .i64 0] _ (0, 0)) from ?_); (with_reducible repeat (first | refine blk_drewN ?_ _ | refine blk_drew ?_ | refine blk_alloc ?_ _)); exact BK383.out) hb); replace HB := am_ (below_step (qB HB) hb); (try clear hb); (try clear hb2); (try clear hk); (try clear hi); obtain ⟨hcz27_0, hcz27_1, hcz27_2, hcz27_3, hcz27_4, hcz27_5, hcz27_6, hcz27_7⟩ := cz8 BK369.out; obtain ⟨hfz27_0, hfz27_1, hfz27_2, hfz27_3, hfz27_4, hfz27_5, hfz27_6, hfz27_7⟩ := fz8 BK369.out))
    go_meet
    case rel => exact ⟨_, (true), (by first | rfl | (simp; done) | (simp [*]; done) | (simp [Go.Proofs.YtahfemlfdpbkkaaV.bne_nil, Go.Proofs.YtahfemlfdpbkkaaV.beq_nil]; done)), H', ⟨by first | omega | exact Nat.le_refl _⟩, ⟨qR HO377⟩, ⟨qR HO380⟩, ⟨qK BK369⟩, ⟨qK BK370⟩, ⟨qK BK383⟩, ⟨qB HB⟩⟩
  ·
   replace c16 := Bool.eq_false_iff.mpr c16
   subst c16
   have H1 : (impl_Answer.j0 k true a0_0 a0_1 a0_2 a0_3 l0_4 l0_5 a0_6 a0_7 t371 t372 t373 t374 t375 t378 t381 t382) = some (r1, r2, r3, r4, r5, r6, r7, r8, r9) := by rw [if_neg (show ¬ (false = true) by decide)] at H; exact H
   clear H
   have H := H1
   clear H1
   have H' := Aside0.mk H
   clear H
   have hnb28 := NB369_370.out
   have hnc28 := NB370_369.out
   have hnb29 := NB369_383.out
   have hnc29 := NB383_369.out
   obtain ⟨hcz30_0, hcz30_1, hcz30_2, hcz30_3, hcz30_4, hcz30_5, hcz30_6, hcz30_7⟩ := cz8 BK369.out
   obtain ⟨hfz30_0, hfz30_1, hfz30_2, hfz30_3, hfz30_4, hfz30_5, hfz30_6, hfz30_7⟩ := fz8 BK369.out
   go_wp2_with (first | ((with_reducible refine gate_callee (f := 69) rfl ?_); refine goesL_ (some 14) rfl rfl Try.func69 (by kernel_rfl) rfl #[.agg #[.int .i64 a0_0, .int .i64 a0_1, .int .i64 a0_2, .bool a0_3, .slice A0_4 l0_4.length c0_4, .slice A0_5 l0_5.length c0_5, .int .i64 a0_6, .int .i64 a0_7]] rfl (by (try simp only [List.map_toArray, List.map_cons, List.map_nil]); first | done | rfl | (simp only [List.length_drop, List.length_take]; rfl)) ?_; (with_reducible refine (impl_SockOk.calls k a0_0 a0_1 a0_2 a0_3 _ _ l0_4 _ _ l0_5 a0_6 a0_7 false _ ?side1 ?side2 ?side3 ?side4 A15.out).mono ?_); (case side1 => exact Kd.C_below HR0_4.out (qB HB)); (case side2 => exact HC0_4.out); (case side3 => exact Kd.C_below HR0_5.out (qB HB)); (case side4 => exact HC0_5.out); rintro e w31 ⟨rfl, hb⟩; refine ⟨_, rfl, ?_⟩; replace HO377 := am_ (Kd.R_below (by (with_reducible repeat (first | apply Kd.R_alloc | apply Kd.R_drewN | apply Kd.R_drew)); exact (Kd.R_mono (Go.Proofs.YtahfemlfdpbkkaaV.R_far8 (g := gb383) (Kd.R_types HO377.out BK383.out (by decide)) (fun _ hk => hk.2)) (fun _ h_ => h_.1))) hb); replace HO380 := am_ (Kd.R_below (by (with_reducible repeat (first | apply Kd.R_alloc | apply Kd.R_drewN | apply Kd.R_drew)); exact (Kd.R_mono (Go.Proofs.YtahfemlfdpbkkaaV.R_far8 (g := gb383) (Kd.R_types HO380.out BK383.out (by decide)) (fun _ hk => hk.2)) (fun _ h_ => h_.1))) hb); replace BK369 := am_ (blk_below (g := gb369) (o := .cells #[.int .i64 a0_0, .int .i64 a0_1, .int .i64 a0_2, .bool a0_3, .slice A0_4 l0_4.length c0_4, .slice A0_5 l0_5.length c0_5, .int .i64 a0_6, .int .i64 a0_7] 29 (0, 0)) (by (with_reducible repeat (first | refine blk_drewN ?_ _ | refine blk_drew ?_ | refine blk_alloc ?_ _)); refine Go.Proofs.YtahfemlfdpbkkaaV.blk_far8 ?_ NB369_383.out; (with_reducible repeat (first | refine blk_drewN ?_ _ | refine blk_drew ?_ | refine blk_alloc ?_ _)); exact BK369.out) hb); replace BK370 := am_ (blk_below (g := gb370) (o := .cells #[.int .i64 0, .int .i64 0, .int .i64 0, .bool false, .slice none 0 0, .slice none 0 0, .int .i64 0, .int .i64 0] 29 (0, 0)) (by (with_reducible repeat (first | refine blk_drewN ?_ _ | refine blk_drew ?_ | refine blk_alloc ?_ _)); refine Go.Proofs.YtahfemlfdpbkkaaV.blk_far8 ?_ NB370_383.out; (with_reducible repeat (first | refine blk_drewN ?_ _ | refine blk_drew ?_ | refine blk_alloc ?_ _)); exact BK370.out) hb); replace BK383 := am_ (blk_below (g := gb383) (o := .cells #[.int .i64 t371, .int .i64 t372, .int .i64 t373, .bool t374, .slice Ao13 t375.length co13, .slice Ao14 t378.length co14, .int .i64 t381, .int .i64 t382] 29 (0, 0)) (by (with_reducible repeat (first | refine blk_drewN ?_ _ | refine blk_drew ?_ | refine blk_alloc ?_ _)); refine Go.Proofs.YtahfemlfdpbkkaaV.blk_all8 (show _ = some (Go.Obj.cells #[.int .i64 0, .int .i64 0, .int .i64 0, .bool false, .slice none 0 0, .slice none 0 0, .int .i64 0, .int .i64 0] _ (0, 0)) from ?_); (with_reducible repeat (first | refine blk_drewN ?_ _ | refine blk_drew ?_ | refine blk_alloc ?_ _)); exact BK383.out) hb); replace HB := am_ (below_step (qB HB) hb); (try clear hb); (try clear hb2); (try clear hk); (try clear hi)))
   go_meet
   case rel => exact ⟨_, (true), (by first | rfl | (simp; done) | (simp [*]; done) | (simp [Go.Proofs.YtahfemlfdpbkkaaV.bne_nil, Go.Proofs.YtahfemlfdpbkkaaV.beq_nil]; done)), H', ⟨by first | omega | exact Nat.le_refl _⟩, ⟨qR HO377⟩, ⟨qR HO380⟩, ⟨qK BK369⟩, ⟨qK BK370⟩, ⟨qK BK383⟩, ⟨qB HB⟩⟩
 case rest =>
  clear HC3
  try clear c1
  try clear c2
  try clear p2
  try clear c5
  try clear c6
  try clear c10
  try clear c11
  try clear c16
  try clear c17
  try clear c17b0
  try clear c17b1
  try clear c18
  try clear c19
  try clear c23
  try clear c24
  try clear c28
  try clear c29
  (try clear hcz12_0 hcz12_1 hcz12_2 hcz12_3 hcz12_4 hcz12_5 hcz12_6 hcz12_7)
  (try clear hcz20_0 hcz20_1 hcz20_2 hcz20_3 hcz20_4 hcz20_5 hcz20_6 hcz20_7)
  (try clear hcz22_0 hcz22_1 hcz22_2 hcz22_3 hcz22_4 hcz22_5 hcz22_6 hcz22_7)
  (try clear hcz25_0 hcz25_1 hcz25_2 hcz25_3 hcz25_4 hcz25_5 hcz25_6 hcz25_7)
  (try clear hcz27_0 hcz27_1 hcz27_2 hcz27_3 hcz27_4 hcz27_5 hcz27_6 hcz27_7)
  (try clear hcz30_0 hcz30_1 hcz30_2 hcz30_3 hcz30_4 hcz30_5 hcz30_6 hcz30_7)
  (try clear hcz7_0 hcz7_1 hcz7_2 hcz7_3 hcz7_4 hcz7_5 hcz7_6 hcz7_7)
  (try clear hfz12_0 hfz12_1 hfz12_2 hfz12_3 hfz12_4 hfz12_5 hfz12_6 hfz12_7)
  (try clear hfz20_0 hfz20_1 hfz20_2 hfz20_3 hfz20_4 hfz20_5 hfz20_6 hfz20_7)
  (try clear hfz22_0 hfz22_1 hfz22_2 hfz22_3 hfz22_4 hfz22_5 hfz22_6 hfz22_7)
  (try clear hfz25_0 hfz25_1 hfz25_2 hfz25_3 hfz25_4 hfz25_5 hfz25_6 hfz25_7)
  (try clear hfz27_0 hfz27_1 hfz27_2 hfz27_3 hfz27_4 hfz27_5 hfz27_6 hfz27_7)
  (try clear hfz30_0 hfz30_1 hfz30_2 hfz30_3 hfz30_4 hfz30_5 hfz30_6 hfz30_7)
  (try clear hfz7_0 hfz7_1 hfz7_2 hfz7_3 hfz7_4 hfz7_5 hfz7_6 hfz7_7)
  obtain ⟨kq, x24_2, rfl, HA, HJ2, HO_384004, HO_384005, BK369, BK370, BK383, HB⟩ := hcut
  cases kq with
  | zero => exact absurd HA.out (by simp [impl_Answer.j0])
  | succ kj2 =>
   have H := HA.out
   clear HA
   simp only [impl_Answer.j0] at H
   by_cases c32 : x24_2 = true
   ·
    subst c32
    have H1 : (some (t371, t372, t373, t374, t375, t378, t381, t382, false)) = some (r1, r2, r3, r4, r5, r6, r7, r8, r9) := by rw [if_pos rfl] at H; exact H
    clear H
    have H := H1
    clear H1
    simp only [Option.some.injEq, Prod.mk.injEq] at H
    obtain ⟨rfl, rfl, rfl, rfl, rfl, rfl, rfl, rfl, rfl⟩ := H
    have hnb33 := NB383_369.out
    have hnc33 := NB369_383.out
    have hnb34 := NB383_370.out
    have hnc34 := NB370_383.out
    obtain ⟨hcz35_0, hcz35_1, hcz35_2, hcz35_3, hcz35_4, hcz35_5, hcz35_6, hcz35_7⟩ := cz8 BK383.out
    obtain ⟨hfz35_0, hfz35_1, hfz35_2, hfz35_3, hfz35_4, hfz35_5, hfz35_6, hfz35_7⟩ := fz8 BK383.out
    have hnb36 := NB370_369.out
    have hnc36 := NB369_370.out
    obtain ⟨hcz37_0, hcz37_1, hcz37_2, hcz37_3, hcz37_4, hcz37_5, hcz37_6, hcz37_7⟩ := cz8 BK370.out
    obtain ⟨hfz37_0, hfz37_1, hfz37_2, hfz37_3, hfz37_4, hfz37_5, hfz37_6, hfz37_7⟩ := fz8 BK370.out
    go_wp2
    refine bodyPost_ret (results_ct rfl _ _ gb370 29 #[.int .i64 t371, .int .i64 t372, .int .i64 t373, .bool t374, .slice Ao13 t375.length co13, .slice Ao14 t378.length co14, .int .i64 t381, .int .i64 t382] (0, 0) _ rfl (by (with_reducible repeat (first | refine blk_drewN ?_ _ | refine blk_drew ?_ | refine blk_alloc ?_ _)); refine blk_put (cs := #[.int .i64 t371, .int .i64 t372, .int .i64 t373, .bool t374, .slice Ao13 t375.length co13, .slice Ao14 t378.length co14, .int .i64 t381, .int .i64 0]) ?_ 7 _ rfl; (with_reducible repeat (first | refine blk_drewN ?_ _ | refine blk_drew ?_ | refine blk_alloc ?_ _)); refine blk_put (cs := #[.int .i64 t371, .int .i64 t372, .int .i64 t373, .bool t374, .slice Ao13 t375.length co13, .slice Ao14 t378.length co14, .int .i64 0, .int .i64 0]) ?_ 6 _ rfl; (with_reducible repeat (first | refine blk_drewN ?_ _ | refine blk_drew ?_ | refine blk_alloc ?_ _)); refine blk_put (cs := #[.int .i64 t371, .int .i64 t372, .int .i64 t373, .bool t374, .slice Ao13 t375.length co13, .slice none 0 0, .int .i64 0, .int .i64 0]) ?_ 5 _ rfl; (with_reducible repeat (first | refine blk_drewN ?_ _ | refine blk_drew ?_ | refine blk_alloc ?_ _)); refine blk_put (cs := #[.int .i64 t371, .int .i64 t372, .int .i64 t373, .bool t374, .slice none 0 0, .slice none 0 0, .int .i64 0, .int .i64 0]) ?_ 4 _ rfl; (with_reducible repeat (first | refine blk_drewN ?_ _ | refine blk_drew ?_ | refine blk_alloc ?_ _)); refine blk_put (cs := #[.int .i64 t371, .int .i64 t372, .int .i64 t373, .bool false, .slice none 0 0, .slice none 0 0, .int .i64 0, .int .i64 0]) ?_ 3 _ rfl; (with_reducible repeat (first | refine blk_drewN ?_ _ | refine blk_drew ?_ | refine blk_alloc ?_ _)); refine blk_put (cs := #[.int .i64 t371, .int .i64 t372, .int .i64 0, .bool false, .slice none 0 0, .slice none 0 0, .int .i64 0, .int .i64 0]) ?_ 2 _ rfl; (with_reducible repeat (first | refine blk_drewN ?_ _ | refine blk_drew ?_ | refine blk_alloc ?_ _)); refine blk_put (cs := #[.int .i64 t371, .int .i64 0, .int .i64 0, .bool false, .slice none 0 0, .slice none 0 0, .int .i64 0, .int .i64 0]) ?_ 1 _ rfl; (with_reducible repeat (first | refine blk_drewN ?_ _ | refine blk_drew ?_ | refine blk_alloc ?_ _)); refine blk_put (cs := #[.int .i64 0, .int .i64 0, .int .i64 0, .bool false, .slice none 0 0, .slice none 0 0, .int .i64 0, .int .i64 0]) ?_ 0 _ rfl; (with_reducible repeat (first | refine blk_drewN ?_ _ | refine blk_drew ?_ | refine blk_alloc ?_ _)); exact BK370.out) Try.underlying29 rfl (by kernel_rfl)) rfl ?_
    exact ⟨_, _, by first | rfl | (simp [errW_none, errW_some] <;> rfl) | (simp [*, errW_none, errW_some] <;> rfl), by (with_reducible repeat (first | apply Kd.R_alloc | apply Kd.R_drewN | apply Kd.R_drew)); exact Kd.R_mono (Go.Proofs.YtahfemlfdpbkkaaV.R_far8 (g := gb370) (Kd.R_types HO_384004.out BK370.out (by decide)) (fun _ hk => hk.2)) (fun _ hk => hk.1), by (with_reducible repeat (first | apply Kd.R_alloc | apply Kd.R_drewN | apply Kd.R_drew)); exact Kd.R_mono (Go.Proofs.YtahfemlfdpbkkaaV.R_far8 (g := gb370) (Kd.R_types HO_384005.out BK370.out (by decide)) (fun _ hk => hk.2)) (fun _ hk => hk.1), qB HB⟩
   ·
    replace c32 := Bool.eq_false_iff.mpr c32
    subst c32
    have H1 : (if 0 ≤ a0_7 then (if a0_7 ≤ (l0_5.length : Int) then ((impl_GetFrame.f kj2 (l0_5.drop (a0_7 : Int).toNat)).bind fun bt386 => (if bt386.2.2.2.2 = 0 then (if bt386.1 = 2 then ((impl_AnswerTo.f kj2 a0_6 bt386.2.1).bind fun t395 => ((impl_WordOf.f bt386.2.1).bind fun t398 => ((impl_NextSt.f kj2 a0_6 t398).bind fun t399 => (impl_Answer.j1 kj2 bt386.2.2.2.1 t395 a0_0 a0_1 a0_2 a0_3 l0_4 l0_5 a0_6 a0_7 t371 t372 t373 t374 t375 t378 t399 t382)))) else (impl_Answer.j1 kj2 bt386.2.2.2.1 (([(⟨6, (⟨#[102, 111, 114, 109]⟩ : ByteArray), 0⟩ : S32), (⟨5, (⟨#[]⟩ : ByteArray), a0_6⟩ : S32)] : List (S32))) a0_0 a0_1 a0_2 a0_3 l0_4 l0_5 a0_6 a0_7 t371 t372 t373 t374 t375 t378 t381 t382)) else (some (t371, t372, t373, t374, t375, t378, t381, t382, false)))) else (none)) else (none)) = some (r1, r2, r3, r4, r5, r6, r7, r8, r9) := by rw [if_neg (show ¬ (false = true) by decide)] at H; exact H
    clear H
    have H := H1
    clear H1
    by_cases c38 : 0 ≤ a0_7
    ·
     rw [if_pos c38] at H
     have c38b0 := eq_true c38
     have c38b1 : decide (0 ≤ a0_7) = true := decide_eq_true c38
     clear c38
     by_cases c39 : a0_7 ≤ (l0_5.length : Int)
     ·
      rw [if_pos c39] at H
      have c39b0 := eq_true c39
      have c39b1 : decide (a0_7 ≤ (l0_5.length : Int)) = true := decide_eq_true c39
      clear c39
      replace H := Option.bind_eq_some_iff.mp H
      obtain ⟨⟨t386, t387, t388, t389, t390⟩, A400, H⟩ := H
      replace H : (if t390 = 0 then (if t386 = 2 then ((impl_AnswerTo.f kj2 a0_6 t387).bind fun t395 => ((impl_WordOf.f t387).bind fun t398 => ((impl_NextSt.f kj2 a0_6 t398).bind fun t399 => (impl_Answer.j1 kj2 t389 t395 a0_0 a0_1 a0_2 a0_3 l0_4 l0_5 a0_6 a0_7 t371 t372 t373 t374 t375 t378 t399 t382)))) else (impl_Answer.j1 kj2 t389 (([(⟨6, (⟨#[102, 111, 114, 109]⟩ : ByteArray), 0⟩ : S32), (⟨5, (⟨#[]⟩ : ByteArray), a0_6⟩ : S32)] : List (S32))) a0_0 a0_1 a0_2 a0_3 l0_4 l0_5 a0_6 a0_7 t371 t372 t373 t374 t375 t378 t381 t382)) else (some (t371, t372, t373, t374, t375, t378, t381, t382, false))) = some (r1, r2, r3, r4, r5, r6, r7, r8, r9) := H
      have A40 := Aside0.mk A400
      clear A400
      have HC41 := Aside0.mk H
      clear H
      have hnb42 := NB369_370.out
      have hnc42 := NB370_369.out
      have hnb43 := NB369_383.out
      have hnc43 := NB383_369.out
      obtain ⟨hcz44_0, hcz44_1, hcz44_2, hcz44_3, hcz44_4, hcz44_5, hcz44_6, hcz44_7⟩ := cz8 BK369.out
      obtain ⟨hfz44_0, hfz44_1, hfz44_2, hfz44_3, hfz44_4, hfz44_5, hfz44_6, hfz44_7⟩ := fz8 BK369.out
      obtain ⟨i045, hi045, _, hsz45, _⟩ := info_parts info5
      obtain ⟨A45, hcut45, hA45, hC45⟩ := print_drop_of (P := Try.prog) (Value.int .u8) 0 22 5 .i64 Try.underlying22 hi045 hsz45 A0_5 c0_5 l0_5 a0_7 (of_decide_eq_true (by first | (with_reducible assumption) | assumption)) (of_decide_eq_true (by first | (with_reducible assumption) | assumption)) HC0_5.out
      have HR385 := Aside0.mk (Kd.C_of_reads (h1 := fun _ => rfl) (hA45 _ (Kd.reads_of_C HR0_5.out)))
      have HC385 := Aside0.mk hC45
      clear hA45 hC45 hi045 hsz45
      go_upto_if 37 with (first | ((with_reducible refine gate_callee (f := 118) rfl ?_); refine goesL_ (some 32) rfl rfl Try.func118 (by kernel_rfl) rfl #[.slice A45 (l0_5.drop (a0_7 : Int).toNat).length (c0_5 - a0_7.toNat)] rfl (by (try simp only [List.map_toArray, List.map_cons, List.map_nil]); first | done | (rw [show (l0_5.drop (a0_7 : Int).toNat).length = (l0_5.length - a0_7.toNat) from List.length_drop] <;> rfl) | rfl | (simp only [List.length_drop, List.length_take]; rfl)) ?_; (with_reducible refine (impl_GetFrame.calls kj2 _ _ (l0_5.drop (a0_7 : Int).toNat) t386 t387 t388 t389 t390 _ ?side1 ?side2 A40.out).mono ?_); (case side1 => exact qC (Kd.C_below HR385.out HB.out)); (case side2 => exact HC385.out); rintro e w46 ⟨rfl, hb⟩; refine ⟨_, rfl, ?_⟩; replace HO_384004 := am_ (Kd.R_below (qR HO_384004) hb); replace HO_384005 := am_ (Kd.R_below (qR HO_384005) hb); replace BK369 := am_ (blk_below (qK BK369) hb); replace BK370 := am_ (blk_below (qK BK370) hb); replace BK383 := am_ (blk_below (qK BK383) hb); replace HB := am_ (below_step (qB HB) hb); (try clear hb); (try clear hb2); (try clear hk); (try clear hi)) | ((with_reducible refine gate_dst (N := 5) rfl ?_); refine box_event ?hg (N := 5) ?hd (cs := #[.int .i64 0, .string (⟨#[]⟩ : ByteArray), .int .i64 0]) (t := 32) ?hr ?_; (case hd => rfl); (case hg => rfl); (case hr => first | (go_simp; done) | (go_simp; rfl)); intro gb391 hg w47 hbox hb; replace HO_384004 := am_ (Kd.R_below (qR HO_384004) hb); replace HO_384005 := am_ (Kd.R_below (qR HO_384005) hb); have BK391 := am_ (hbox); have GW391 := am_ ((gG_ hg (qB HB))); have IGW391 := gI_ GW391; have GE391 := am_ ((gG_ hg (qB HB))); have IGE391 := gI_ GE391; replace HB := am_ (below_step (qB HB) hb); have NB369_391 := am_ ((gN_ hg (qK BK369))); have NB391_369 := am_ ((gM_ hg (qK BK369))); replace BK369 := am_ (blk_below (qK BK369) hb); have NB370_391 := am_ ((gN_ hg (qK BK370))); have NB391_370 := am_ ((gM_ hg (qK BK370))); replace BK370 := am_ (blk_below (qK BK370) hb); have NB383_391 := am_ ((gN_ hg (qK BK383))); have NB391_383 := am_ ((gM_ hg (qK BK383))); replace BK383 := am_ (blk_below (qK BK383) hb); clear hb hbox hg; have hnb48 := NB391_369.out; have hnc48 := NB369_391.out; have hnb49 := NB391_370.out; have hnc49 := NB370_391.out; have hnb50 := NB391_383.out; have hnc50 := NB383_391.out; obtain ⟨hcz51_0, hcz51_1, hcz51_2⟩ := cz3 BK391.out; obtain ⟨hfz51_0, hfz51_1, hfz51_2⟩ := fz3 BK391.out))
      (try simp only [Act.put, List.setIfInBounds_toArray, List.set_cons_zero, List.set_cons_succ])
      have H := HC41.out
      clear HC41
      by_cases c52 : t390 = 0
      ·
       rw [if_pos c52] at H
       have c52b0 : (t390 == 0) = true := beq_iff_eq.mpr c52
       have c52b1 : (t390 != 0) = false := bne_eq_false_iff_eq.mpr c52
       clear c52
       (first | rw [c52b0] | (simp only [i64_w, i32_w]; rw [c52b0]) | skip)
       obtain ⟨y392, hy392⟩ : ∃ y_ : List (S32), y_ = (([(⟨6, (⟨#[102, 111, 114, 109]⟩ : ByteArray), 0⟩ : S32), (⟨5, (⟨#[]⟩ : ByteArray), a0_6⟩ : S32)] : List (S32))) := ⟨_, rfl⟩
       replace H : (if t386 = 2 then ((impl_AnswerTo.f kj2 a0_6 t387).bind fun t395 => ((impl_WordOf.f t387).bind fun t398 => ((impl_NextSt.f kj2 a0_6 t398).bind fun t399 => (impl_Answer.j1 kj2 t389 t395 a0_0 a0_1 a0_2 a0_3 l0_4 l0_5 a0_6 a0_7 t371 t372 t373 t374 t375 t378 t399 t382)))) else (impl_Answer.j1 kj2 t389 y392 a0_0 a0_1 a0_2 a0_3 l0_4 l0_5 a0_6 a0_7 t371 t372 t373 t374 t375 t378 t381 t382)) = some (r1, r2, r3, r4, r5, r6, r7, r8, r9) := by first | (rw [hy392]; with_reducible exact H) | (have H2_ := (Option.bind_some _ _).symm.trans H; rw [hy392]; with_reducible exact H2_) | (have H2_ := (Option.bind_some _ _).symm.trans H; with_reducible exact H2_) | with_reducible exact H | (rw [hy392]; exact H) | exact H
       have Ny392 := Aside0.mk hy392
       clear hy392
       have HC53 := Aside0.mk H
       clear H
       have hnb54 := NB369_370.out
       have hnc54 := NB370_369.out
       have hnb55 := NB369_383.out
       have hnc55 := NB383_369.out
       have hnb56 := NB369_391.out
       have hnc56 := NB391_369.out
       obtain ⟨hcz57_0, hcz57_1, hcz57_2, hcz57_3, hcz57_4, hcz57_5, hcz57_6, hcz57_7⟩ := cz8 BK369.out
       obtain ⟨hfz57_0, hfz57_1, hfz57_2, hfz57_3, hfz57_4, hfz57_5, hfz57_6, hfz57_7⟩ := fz8 BK369.out
       go_upto_if 46 with (first | ((with_reducible refine gate_dst (N := 43) rfl ?_); refine Kd.R_lit k32 _ 32 ?hg (N := 43) ?hd (xs := ([(⟨6, (⟨#[102, 111, 114, 109]⟩ : ByteArray), 0⟩ : S32), (⟨5, (⟨#[]⟩ : ByteArray), a0_6⟩ : S32)] : List (S32))) (inner := [.int .i64 6, .string (⟨#[102, 111, 114, 109]⟩ : ByteArray), .int .i64 0, .int .i64 5, .string (⟨#[]⟩ : ByteArray), .int .i64 a0_6]) (ok := fun _ => True) (okp := fun _ => True) ?hr ?hp (fun _ hk => hk) trivial (Below.refl _ _) (Nat.le_refl _) (by simp) ?_; (case hd => rfl); (case hg => rfl); (case hr => first | (go_simp; done) | (go_simp; rfl)); (case hp => exact (Reps.c3 (show Kd.M k32 _ _ _ (⟨6, (⟨#[102, 111, 114, 109]⟩ : ByteArray), 0⟩ : S32) [.int .i64 6, .string (⟨#[102, 111, 114, 109]⟩ : ByteArray), .int .i64 0] from (k32_mkM _ _ _ (⟨6, (⟨#[102, 111, 114, 109]⟩ : ByteArray), 0⟩ : S32) )) (Reps.c3 (show Kd.M k32 _ _ _ (⟨5, (⟨#[]⟩ : ByteArray), a0_6⟩ : S32) [.int .i64 5, .string (⟨#[]⟩ : ByteArray), .int .i64 a0_6] from (k32_mkM _ _ _ (⟨5, (⟨#[]⟩ : ByteArray), a0_6⟩ : S32) )) (Reps.none _ _)))); intro v393 w58 ho59 hb hg_ hnew_; clear hg_ hnew_; (first | rw [← Ny392.out] at ho59 | (simp only [Int.reduceToNat] at ho59; rw [← Ny392.out] at ho59)); replace HO_384004 := am_ (Kd.R_below (by (with_reducible repeat (first | apply Kd.R_alloc | apply Kd.R_drewN | apply Kd.R_drew)); exact (Kd.R_mono (Go.Proofs.YtahfemlfdpbkkaaV.R_far3 (g := gb391) (Kd.R_types HO_384004.out BK391.out (by decide)) (fun _ hk => hk.2)) (fun _ h_ => h_.1))) hb); replace HO_384005 := am_ (Kd.R_below (by (with_reducible repeat (first | apply Kd.R_alloc | apply Kd.R_drewN | apply Kd.R_drew)); exact (Kd.R_mono (Go.Proofs.YtahfemlfdpbkkaaV.R_far3 (g := gb391) (Kd.R_types HO_384005.out BK391.out (by decide)) (fun _ hk => hk.2)) (fun _ h_ => h_.1))) hb); have HO394 := am_ (Kd.R_lower (Kd.R_newB ho59 (g := gb391) (o := .cells #[.int .i64 t386, .string t387, .int .i64 t388] 32 (0, 0)) (by (with_reducible repeat (first | refine blk_drewN ?_ _ | refine blk_drew ?_ | refine blk_alloc ?_ _)); refine Go.Proofs.YtahfemlfdpbkkaaV.blk_all3 (show _ = some (Go.Obj.cells #[.int .i64 0, .string (⟨#[]⟩ : ByteArray), .int .i64 0] _ (0, 0)) from ?_); (with_reducible repeat (first | refine blk_drewN ?_ _ | refine blk_drew ?_ | refine blk_alloc ?_ _)); exact BK391.out)) (below_size (qB HB))); replace BK369 := am_ (blk_below (g := gb369) (o := .cells #[.int .i64 a0_0, .int .i64 a0_1, .int .i64 a0_2, .bool a0_3, .slice A0_4 l0_4.length c0_4, .slice A0_5 l0_5.length c0_5, .int .i64 a0_6, .int .i64 a0_7] 29 (0, 0)) (by (with_reducible repeat (first | refine blk_drewN ?_ _ | refine blk_drew ?_ | refine blk_alloc ?_ _)); refine Go.Proofs.YtahfemlfdpbkkaaV.blk_far3 ?_ NB369_391.out; (with_reducible repeat (first | refine blk_drewN ?_ _ | refine blk_drew ?_ | refine blk_alloc ?_ _)); exact BK369.out) hb); replace BK370 := am_ (blk_below (g := gb370) (o := .cells #[.int .i64 0, .int .i64 0, .int .i64 0, .bool false, .slice none 0 0, .slice none 0 0, .int .i64 0, .int .i64 0] 29 (0, 0)) (by (with_reducible repeat (first | refine blk_drewN ?_ _ | refine blk_drew ?_ | refine blk_alloc ?_ _)); refine Go.Proofs.YtahfemlfdpbkkaaV.blk_far3 ?_ NB370_391.out; (with_reducible repeat (first | refine blk_drewN ?_ _ | refine blk_drew ?_ | refine blk_alloc ?_ _)); exact BK370.out) hb); replace BK383 := am_ (blk_below (g := gb383) (o := .cells #[.int .i64 t371, .int .i64 t372, .int .i64 t373, .bool t374, .slice Ao13 t375.length co13, .slice Ao14 t378.length co14, .int .i64 t381, .int .i64 t382] 29 (0, 0)) (by (with_reducible repeat (first | refine blk_drewN ?_ _ | refine blk_drew ?_ | refine blk_alloc ?_ _)); refine Go.Proofs.YtahfemlfdpbkkaaV.blk_far3 ?_ NB383_391.out; (with_reducible repeat (first | refine blk_drewN ?_ _ | refine blk_drew ?_ | refine blk_alloc ?_ _)); exact BK383.out) hb); replace BK391 := am_ (blk_below (g := gb391) (o := .cells #[.int .i64 t386, .string t387, .int .i64 t388] 32 (0, 0)) (by (with_reducible repeat (first | refine blk_drewN ?_ _ | refine blk_drew ?_ | refine blk_alloc ?_ _)); refine Go.Proofs.YtahfemlfdpbkkaaV.blk_all3 (show _ = some (Go.Obj.cells #[.int .i64 0, .string (⟨#[]⟩ : ByteArray), .int .i64 0] _ (0, 0)) from ?_); (with_reducible repeat (first | refine blk_drewN ?_ _ | refine blk_drew ?_ | refine blk_alloc ?_ _)); exact BK391.out) hb); replace HB := am_ (below_step (qB HB) hb); clear hb ho59; have hnb60 := NB391_370.out; have hnc60 := NB370_391.out; have hnb61 := NB391_383.out; have hnc61 := NB383_391.out; obtain ⟨hcz62_0, hcz62_1, hcz62_2⟩ := cz3 BK391.out; obtain ⟨hfz62_0, hfz62_1, hfz62_2⟩ := fz3 BK391.out))
       (try simp only [Act.put, List.setIfInBounds_toArray, List.set_cons_zero, List.set_cons_succ])
       go_cut [8] (fun v8 wc => ∃ (kq : Nat) (x8_52 : List (S32)) (x384006_52 : Int), Aside0 (impl_Answer.j1 kq t389 x8_52 a0_0 a0_1 a0_2 a0_3 l0_4 l0_5 a0_6 a0_7 t371 t372 t373 t374 t375 t378 x384006_52 t382 = some (r1, r2, r3, r4, r5, r6, r7, r8, r9)) ∧ Aside0 (kq ≤ kj2) ∧ Aside0 (Kd.R k32 32 wc w.heap.size (fun k_ => k_ ≠ gb391) v8 x8_52) ∧ Aside0 (Kd.R (Kd.int .u8) 5 wc w.heap.size (fun k_ => some k_ ≠ ((.slice Ao14 t378.length co14) : Value).ownBlock) (.slice Ao13 t375.length co13) t375) ∧ Aside0 (Kd.R (Kd.int .u8) 5 wc w.heap.size (fun k_ => some k_ ≠ ((.slice Ao13 t375.length co13) : Value).ownBlock) (.slice Ao14 t378.length co14) t378) ∧ Aside0 (wc.heap[gb369]? = some (.cells #[.int .i64 a0_0, .int .i64 a0_1, .int .i64 a0_2, .bool a0_3, (.slice A0_4 l0_4.length c0_4), (.slice A0_5 l0_5.length c0_5), .int .i64 a0_6, .int .i64 a0_7] 29 (0, 0))) ∧ Aside0 (wc.heap[gb370]? = some (.cells #[.int .i64 0, .int .i64 0, .int .i64 0, .bool false, (.slice none 0 0), (.slice none 0 0), .int .i64 0, .int .i64 0] 29 (0, 0))) ∧ Aside0 (wc.heap[gb383]? = some (.cells #[.int .i64 t371, .int .i64 t372, .int .i64 t373, .bool t374, (.slice Ao13 t375.length co13), (.slice Ao14 t378.length co14), .int .i64 x384006_52, .int .i64 t382] 29 (0, 0))) ∧ Aside0 (wc.heap[gb391]? = some (.cells #[.int .i64 t386, .string t387, .int .i64 t388] 32 (0, 0))) ∧ Aside0 (Below w.heap.size w wc))
       case first =>
        have H := HC53.out
        clear HC53
        by_cases c63 : t386 = 2
        ·
         rw [if_pos c63] at H
         have c63b0 : (t386 == 2) = true := beq_iff_eq.mpr c63
         have c63b1 : (t386 != 2) = false := bne_eq_false_iff_eq.mpr c63
         clear c63
         (first | rw [c63b0] | (simp only [i64_w, i32_w]; rw [c63b0]) | skip)
         replace H := Option.bind_eq_some_iff.mp H
         obtain ⟨t395, A640, H⟩ := H
         replace H : ((impl_WordOf.f t387).bind fun t398 => ((impl_NextSt.f kj2 a0_6 t398).bind fun t399 => (impl_Answer.j1 kj2 t389 t395 a0_0 a0_1 a0_2 a0_3 l0_4 l0_5 a0_6 a0_7 t371 t372 t373 t374 t375 t378 t399 t382))) = some (r1, r2, r3, r4, r5, r6, r7, r8, r9) := H
         have A64 := Aside0.mk A640
         clear A640
         replace H := Option.bind_eq_some_iff.mp H
         obtain ⟨t398, A650, H⟩ := H
         replace H : ((impl_NextSt.f kj2 a0_6 t398).bind fun t399 => (impl_Answer.j1 kj2 t389 t395 a0_0 a0_1 a0_2 a0_3 l0_4 l0_5 a0_6 a0_7 t371 t372 t373 t374 t375 t378 t399 t382)) = some (r1, r2, r3, r4, r5, r6, r7, r8, r9) := H
         have A65 := Aside0.mk A650
         clear A650
         replace H := Option.bind_eq_some_iff.mp H
         obtain ⟨t399, A660, H⟩ := H
         replace H : (impl_Answer.j1 kj2 t389 t395 a0_0 a0_1 a0_2 a0_3 l0_4 l0_5 a0_6 a0_7 t371 t372 t373 t374 t375 t378 t399 t382) = some (r1, r2, r3, r4, r5, r6, r7, r8, r9) := H
         have A66 := Aside0.mk A660
         clear A660
         have H' := Aside0.mk H
         clear H
         have hnb67 := NB369_370.out
         have hnc67 := NB370_369.out
         have hnb68 := NB369_383.out
         have hnc68 := NB383_369.out
         have hnb69 := NB369_391.out
         have hnc69 := NB391_369.out
         obtain ⟨hcz70_0, hcz70_1, hcz70_2, hcz70_3, hcz70_4, hcz70_5, hcz70_6, hcz70_7⟩ := cz8 BK369.out
         obtain ⟨hfz70_0, hfz70_1, hfz70_2, hfz70_3, hfz70_4, hfz70_5, hfz70_6, hfz70_7⟩ := fz8 BK369.out
         have hnb71 := NB391_370.out
         have hnc71 := NB370_391.out
         have hnb72 := NB391_383.out
         have hnc72 := NB383_391.out
         obtain ⟨hcz73_0, hcz73_1, hcz73_2⟩ := cz3 BK391.out
         obtain ⟨hfz73_0, hfz73_1, hfz73_2⟩ := fz3 BK391.out
         try go_wp2_with (first | ((with_reducible refine gate_callee (f := 119) rfl ?_); refine goesL_ (some 51) rfl rfl Try.func119 (by kernel_rfl) rfl #[.int .i64 a0_6, .string t387] rfl (by (try simp only [List.map_toArray, List.map_cons, List.map_nil]); first | done | rfl | (simp only [List.length_drop, List.length_take]; rfl)) ?_; (with_reducible refine (impl_AnswerTo.calls kj2 a0_6 t387 t395 _ A64.out).mono ?_); rintro e w74 ⟨v396, rfl, ho0, hb⟩; refine ⟨_, rfl, ?_⟩; replace HO_384004 := am_ (Kd.R_below (qR HO_384004) hb); replace HO_384005 := am_ (Kd.R_below (qR HO_384005) hb); have HO397 := am_ (Kd.R_lower (Kd.R_newB (Kd.R_new' ho0 (Kd.R_lt (qR HO394))) (qK BK391)) (below_size (qB HB))); replace HO394 := am_ (Kd.R_elder' (qR HO394) (Kd.R_base ho0) hb); replace BK369 := am_ (blk_below (qK BK369) hb); replace BK370 := am_ (blk_below (qK BK370) hb); replace BK383 := am_ (blk_below (qK BK383) hb); replace BK391 := am_ (blk_below (qK BK391) hb); replace HB := am_ (below_step (qB HB) hb); (try clear hb); (try clear hb2); (try clear hk); (try clear hi); (try clear ho0)))
         replace HO_384004 := am_ (Kd.R_drew HO_384004.out)
         replace HO_384005 := am_ (Kd.R_drew HO_384005.out)
         replace HO394 := am_ (Kd.R_drew HO394.out)
         replace HO397 := am_ (Kd.R_drew HO397.out)
         replace BK369 := am_ (blk_drew BK369.out)
         replace BK370 := am_ (blk_drew BK370.out)
         replace BK383 := am_ (blk_drew BK383.out)
         replace BK391 := am_ (blk_drew BK391.out)
         replace HB := am_ (below_drew1 HB.out)
         refine start_ (n := 8) (S := fun w' => w'.cell? ⟨gb369, 0, none⟩ = some (.int .i64 a0_0) ∧ w'.cell? ⟨gb369, 1, none⟩ = some (.int .i64 a0_1) ∧ w'.cell? ⟨gb369, 2, none⟩ = some (.int .i64 a0_2) ∧ w'.cell? ⟨gb369, 3, none⟩ = some (.bool a0_3) ∧ w'.cell? ⟨gb369, 4, none⟩ = some (.slice A0_4 l0_4.length c0_4) ∧ w'.cell? ⟨gb369, 5, none⟩ = some (.slice A0_5 l0_5.length c0_5) ∧ w'.cell? ⟨gb369, 6, none⟩ = some (.int .i64 a0_6) ∧ w'.cell? ⟨gb369, 7, none⟩ = some (.int .i64 a0_7) ∧ w'.cell? ⟨gb391, 0, none⟩ = some (.int .i64 t386) ∧ w'.cell? ⟨gb391, 1, none⟩ = some (.string t387) ∧ w'.cell? ⟨gb391, 2, none⟩ = some (.int .i64 t388)) (ds := []) #[false, false, false, false, false, false, false, false] (by kernel_rfl) rfl rfl (cw8 BK369.out (cz3 BK391.out)) (fun hHeld => ?_); refine with_tabW impl_Answer.tab10 impl_Answer.bits10 (fun HT_ HW_ => ?_)
         generalize w74.drew = w75 at HO_384004 HO_384005 HO394 HO397 BK369 BK370 BK383 BK391 HB hHeld ⊢
         refine pure_ (i := 0) (N := some 52) (v := ?_) (a' := ?_) #[true, false, false, false, false, false, false, false] rfl rfl (any_of HT_.out (by kernel_rfl)) (fun _ _ _ h => h) (Or.inl ⟨by rfl, ?_⟩) ?_ ?_
         rotate_left
         ·
          intro w'
          go_simp
          with_reducible rfl
         rotate_left
         ·
          simp only [Act.put, List.setIfInBounds_toArray, List.set_cons_zero, List.set_cons_succ, i64_w, i32_w]
          rfl
         refine pure_ (i := 2) (N := some 54) (v := ?_) (a' := ?_) #[true, false, true, false, false, false, false, false] rfl rfl (any_of HT_.out (by kernel_rfl)) (fun _ _ _ h => h) (Or.inl ⟨by rfl, ?_⟩) ?_ ?_
         rotate_left
         ·
          intro w'
          go_simp
          with_reducible rfl
         rotate_left
         ·
          simp only [Act.put, List.setIfInBounds_toArray, List.set_cons_zero, List.set_cons_succ, i64_w, i32_w]
          rfl
         refine take_ (i := 1) (N := some 53) (v := ?_) (a' := ?_) #[true, true, true, false, false, false, false, false] rfl rfl (take_ofW HT_.out HW_.out (by kernel_rfl)) (fun _ _ _ h => h) (Or.inl ⟨by rfl, ?_⟩) hHeld ?_ ?_
         rotate_left
         ·
          rintro w' ⟨s0, s1, s2, s3, s4, s5, s6, s7, s8, s9, s10⟩
          go_simp
          with_reducible rfl
         rotate_left
         ·
          simp only [Act.put, List.setIfInBounds_toArray, List.set_cons_zero, List.set_cons_succ, i64_w, i32_w]
          rfl
         refine take_ (i := 3) (N := some 55) (v := ?_) (a' := ?_) #[true, true, true, true, false, false, false, false] rfl rfl (take_ofW HT_.out HW_.out (by kernel_rfl)) (fun _ _ _ h => h) (Or.inl ⟨by rfl, ?_⟩) hHeld ?_ ?_
         rotate_left
         ·
          rintro w' ⟨s0, s1, s2, s3, s4, s5, s6, s7, s8, s9, s10⟩
          go_simp
          with_reducible rfl
         rotate_left
         ·
          simp only [Act.put, List.setIfInBounds_toArray, List.set_cons_zero, List.set_cons_succ, i64_w, i32_w]
          rfl
         refine one_ (i := 4) (N := some 56) #[true, true, true, true, true, false, false, false] rfl rfl (one_of HT_.out (by kernel_rfl)) (by decide) (fun K hK => ?_)
         refine goes_ Try.func121 (by kernel_rfl) rfl #[.string t387] (by rfl) rfl rfl (by (try simp only [List.map_toArray, List.map_cons, List.map_nil]); first | done | rfl | (simp only [List.length_drop, List.length_take]; rfl)) ?_
         with_reducible refine (impl_WordOf.calls t387 t398 _ A65.out).mono ?_
         rintro e w' ⟨rfl, ⟨nd, rfl⟩⟩
         refine ⟨_, rfl, ?_⟩
         refine hK.out _ _ (cw8 BK369.out (cz3 BK391.out)) (fun hHeld => ?_)
         clear hK K
         refine norm_ (a' := ?_) ?_ ?_
         rotate_left
         ·
          show Act.put _ (some 56) _ = _
          simp only [Act.put, List.setIfInBounds_toArray, List.set_cons_zero, List.set_cons_succ, i64_w, i32_w]
          rfl
         refine one_ (i := 5) (N := some 57) #[true, true, true, true, true, true, false, false] rfl rfl (one_of HT_.out (by kernel_rfl)) (by decide) (fun K hK => ?_)
         refine goes_ Try.func120 (by kernel_rfl) rfl #[.int .i64 a0_6, .int .i64 t398] (by rfl) rfl rfl (by (try simp only [List.map_toArray, List.map_cons, List.map_nil]); first | done | rfl | (simp only [List.length_drop, List.length_take]; rfl)) ?_
         with_reducible refine (impl_NextSt.calls kj2 a0_6 t398 t399 _ A66.out).mono ?_
         rintro e w' ⟨rfl, ⟨nd, rfl⟩⟩
         refine ⟨_, rfl, ?_⟩
         refine hK.out _ _ (cw8 BK369.out (cz3 BK391.out)) (fun hHeld => ?_)
         clear hK K
         refine norm_ (a' := ?_) ?_ ?_
         rotate_left
         ·
          show Act.put _ (some 57) _ = _
          simp only [Act.put, List.setIfInBounds_toArray, List.set_cons_zero, List.set_cons_succ, i64_w, i32_w]
          rfl
         refine pure_ (i := 6) (N := some 58) (v := ?_) (a' := ?_) #[true, true, true, true, true, true, true, false] rfl rfl (any_of HT_.out (by kernel_rfl)) (fun _ _ _ h => h) (Or.inl ⟨by rfl, ?_⟩) ?_ ?_
         rotate_left
         ·
          intro w'
          go_simp
          with_reducible rfl
         rotate_left
         ·
          simp only [Act.put, List.setIfInBounds_toArray, List.set_cons_zero, List.set_cons_succ, i64_w, i32_w]
          rfl
         refine one_ (i := 7) (N := none) #[true, true, true, true, true, true, true, true] rfl rfl (one_of HT_.out (by kernel_rfl)) (by decide) (fun K hK => ?_)
         have hs76 : w75.cell? ⟨gb383, 6, none⟩ = some (.int .i64 t381) := (blk_cell BK383.out 6).trans rfl
         have hfs76 := blk_frozen BK383.out 6
         have hns76_0 := NB369_383.out
         have hns76_1 := NB370_383.out
         have hns76_3 := NB391_383.out
         have hms76_0 := NB383_369.out
         have hms76_1 := NB383_370.out
         have hms76_3 := NB383_391.out
         refine skip_ (w1 := ?_) (by rfl) rfl ?_ ?_
         rotate_left
         ·
          go_simp
          rfl
         refine hK.out _ _ ⟨((cell_far (p := ⟨gb383, _, none⟩) NB369_383.out _).trans (hHeld.1)), ((cell_far (p := ⟨gb383, _, none⟩) NB369_383.out _).trans (hHeld.2.1)), ((cell_far (p := ⟨gb383, _, none⟩) NB369_383.out _).trans (hHeld.2.2.1)), ((cell_far (p := ⟨gb383, _, none⟩) NB369_383.out _).trans (hHeld.2.2.2.1)), ((cell_far (p := ⟨gb383, _, none⟩) NB369_383.out _).trans (hHeld.2.2.2.2.1)), ((cell_far (p := ⟨gb383, _, none⟩) NB369_383.out _).trans (hHeld.2.2.2.2.2.1)), ((cell_far (p := ⟨gb383, _, none⟩) NB369_383.out _).trans (hHeld.2.2.2.2.2.2.1)), ((cell_far (p := ⟨gb383, _, none⟩) NB369_383.out _).trans (hHeld.2.2.2.2.2.2.2.1)), ((cell_far (p := ⟨gb383, _, none⟩) NB391_383.out _).trans (hHeld.2.2.2.2.2.2.2.2.1)), ((cell_far (p := ⟨gb383, _, none⟩) NB391_383.out _).trans (hHeld.2.2.2.2.2.2.2.2.2.1)), ((cell_far (p := ⟨gb383, _, none⟩) NB391_383.out _).trans (hHeld.2.2.2.2.2.2.2.2.2.2))⟩ (fun hHeld => ?_)
         clear hK K
         refine done_ (done_of HT_.out (by kernel_rfl)) ?_
         try go_wp2
         go_meet
         case rel => exact ⟨_, (t395), (t399), H', ⟨by have := HJ2.out; first | omega | exact Nat.le_refl _⟩, ⟨by (with_reducible repeat (first | apply Kd.R_alloc | apply Kd.R_drewN | apply Kd.R_drew)); exact Kd.R_mono (Kd.R_far (p := ⟨gb383, 6, none⟩) (Kd.R_types HO397.out BK383.out (by decide)) (fun _ hk => hk.2) (.int .i64 t399)) (fun _ hk => hk.1.2)⟩, ⟨by (with_reducible repeat (first | apply Kd.R_alloc | apply Kd.R_drewN | apply Kd.R_drew)); exact Kd.R_mono (Kd.R_far (p := ⟨gb383, 6, none⟩) (Kd.R_types HO_384004.out BK383.out (by decide)) (fun _ hk => hk.2) (.int .i64 t399)) (fun _ hk => hk.1)⟩, ⟨by (with_reducible repeat (first | apply Kd.R_alloc | apply Kd.R_drewN | apply Kd.R_drew)); exact Kd.R_mono (Kd.R_far (p := ⟨gb383, 6, none⟩) (Kd.R_types HO_384005.out BK383.out (by decide)) (fun _ hk => hk.2) (.int .i64 t399)) (fun _ hk => hk.1)⟩, ⟨by (with_reducible repeat (first | refine blk_drewN ?_ _ | refine blk_drew ?_ | refine blk_alloc ?_ _)); refine blk_far ?_ NB369_383.out _; (with_reducible repeat (first | refine blk_drewN ?_ _ | refine blk_drew ?_ | refine blk_alloc ?_ _)); exact BK369.out⟩, ⟨by (with_reducible repeat (first | refine blk_drewN ?_ _ | refine blk_drew ?_ | refine blk_alloc ?_ _)); refine blk_far ?_ NB370_383.out _; (with_reducible repeat (first | refine blk_drewN ?_ _ | refine blk_drew ?_ | refine blk_alloc ?_ _)); exact BK370.out⟩, ⟨by (with_reducible repeat (first | refine blk_drewN ?_ _ | refine blk_drew ?_ | refine blk_alloc ?_ _)); refine blk_put (cs := #[.int .i64 t371, .int .i64 t372, .int .i64 t373, .bool t374, .slice Ao13 t375.length co13, .slice Ao14 t378.length co14, .int .i64 t381, .int .i64 t382]) ?_ 6 _ rfl; (with_reducible repeat (first | refine blk_drewN ?_ _ | refine blk_drew ?_ | refine blk_alloc ?_ _)); exact BK383.out⟩, ⟨by (with_reducible repeat (first | refine blk_drewN ?_ _ | refine blk_drew ?_ | refine blk_alloc ?_ _)); refine blk_far ?_ NB391_383.out _; (with_reducible repeat (first | refine blk_drewN ?_ _ | refine blk_drew ?_ | refine blk_alloc ?_ _)); exact BK391.out⟩, ⟨qB HB⟩⟩
        ·
         rw [if_neg c63] at H
         have c63b0 : (t386 == 2) = false := beq_eq_false_iff_ne.mpr c63
         have c63b1 : (t386 != 2) = true := bne_iff_ne.mpr c63
         (first | rw [c63b0] | (simp only [i64_w, i32_w]; rw [c63b0]) | skip)
         have H' := Aside0.mk H
         clear H
         go_wp2
         go_meet
         case rel => exact ⟨_, (y392), (t381), H', ⟨by have := HJ2.out; first | omega | exact Nat.le_refl _⟩, ⟨by (with_reducible repeat (first | apply Kd.R_alloc | apply Kd.R_drewN | apply Kd.R_drew)); exact Kd.R_mono HO394.out (fun _ hk => hk.2)⟩, ⟨qR HO_384004⟩, ⟨qR HO_384005⟩, ⟨qK BK369⟩, ⟨qK BK370⟩, ⟨qK BK383⟩, ⟨qK BK391⟩, ⟨qB HB⟩⟩
       case rest =>
        clear HC53
        try clear c1
        try clear c2
        try clear p2
        try clear c3
        try clear c4
        try clear c5
        try clear c6
        try clear c7
        try clear c10
        try clear c11
        try clear c12
        try clear c16
        try clear c17
        try clear c17b0
        try clear c17b1
        try clear c18
        try clear c19
        try clear c23
        try clear c24
        try clear c28
        try clear c29
        try clear c32
        try clear c33
        try clear c34
        try clear c36
        try clear c38
        try clear c38b0
        try clear c38b1
        try clear c39
        try clear c39b0
        try clear c39b1
        try clear c42
        try clear c43
        try clear c48
        try clear c49
        try clear c50
        try clear c52
        try clear c52b0
        try clear c52b1
        try clear c54
        try clear c55
        try clear c56
        try clear c60
        try clear c61
        try clear c63
        try clear c63b0
        try clear c63b1
        try clear c67
        try clear c68
        try clear c69
        try clear c71
        try clear c72
        (try clear hcz12_0 hcz12_1 hcz12_2 hcz12_3 hcz12_4 hcz12_5 hcz12_6 hcz12_7)
        (try clear hcz20_0 hcz20_1 hcz20_2 hcz20_3 hcz20_4 hcz20_5 hcz20_6 hcz20_7)
        (try clear hcz22_0 hcz22_1 hcz22_2 hcz22_3 hcz22_4 hcz22_5 hcz22_6 hcz22_7)
        (try clear hcz25_0 hcz25_1 hcz25_2 hcz25_3 hcz25_4 hcz25_5 hcz25_6 hcz25_7)
        (try clear hcz27_0 hcz27_1 hcz27_2 hcz27_3 hcz27_4 hcz27_5 hcz27_6 hcz27_7)
        (try clear hcz30_0 hcz30_1 hcz30_2 hcz30_3 hcz30_4 hcz30_5 hcz30_6 hcz30_7)
        (try clear hcz35_0 hcz35_1 hcz35_2 hcz35_3 hcz35_4 hcz35_5 hcz35_6 hcz35_7)
        (try clear hcz37_0 hcz37_1 hcz37_2 hcz37_3 hcz37_4 hcz37_5 hcz37_6 hcz37_7)
        (try clear hcz44_0 hcz44_1 hcz44_2 hcz44_3 hcz44_4 hcz44_5 hcz44_6 hcz44_7)
        (try clear hcz51_0 hcz51_1 hcz51_2)
        (try clear hcz57_0 hcz57_1 hcz57_2 hcz57_3 hcz57_4 hcz57_5 hcz57_6 hcz57_7)
        (try clear hcz62_0 hcz62_1 hcz62_2)
        (try clear hcz70_0 hcz70_1 hcz70_2 hcz70_3 hcz70_4 hcz70_5 hcz70_6 hcz70_7)
        (try clear hcz73_0 hcz73_1 hcz73_2)
        (try clear hcz7_0 hcz7_1 hcz7_2 hcz7_3 hcz7_4 hcz7_5 hcz7_6 hcz7_7)
        (try clear hfz12_0 hfz12_1 hfz12_2 hfz12_3 hfz12_4 hfz12_5 hfz12_6 hfz12_7)
        (try clear hfz20_0 hfz20_1 hfz20_2 hfz20_3 hfz20_4 hfz20_5 hfz20_6 hfz20_7)
        (try clear hfz22_0 hfz22_1 hfz22_2 hfz22_3 hfz22_4 hfz22_5 hfz22_6 hfz22_7)
        (try clear hfz25_0 hfz25_1 hfz25_2 hfz25_3 hfz25_4 hfz25_5 hfz25_6 hfz25_7)
        (try clear hfz27_0 hfz27_1 hfz27_2 hfz27_3 hfz27_4 hfz27_5 hfz27_6 hfz27_7)
        (try clear hfz30_0 hfz30_1 hfz30_2 hfz30_3 hfz30_4 hfz30_5 hfz30_6 hfz30_7)
        (try clear hfz35_0 hfz35_1 hfz35_2 hfz35_3 hfz35_4 hfz35_5 hfz35_6 hfz35_7)
        (try clear hfz37_0 hfz37_1 hfz37_2 hfz37_3 hfz37_4 hfz37_5 hfz37_6 hfz37_7)
        (try clear hfz44_0 hfz44_1 hfz44_2 hfz44_3 hfz44_4 hfz44_5 hfz44_6 hfz44_7)
        (try clear hfz51_0 hfz51_1 hfz51_2)
        (try clear hfz57_0 hfz57_1 hfz57_2 hfz57_3 hfz57_4 hfz57_5 hfz57_6 hfz57_7)
        (try clear hfz62_0 hfz62_1 hfz62_2)
        (try clear hfz70_0 hfz70_1 hfz70_2 hfz70_3 hfz70_4 hfz70_5 hfz70_6 hfz70_7)
        (try clear hfz73_0 hfz73_1 hfz73_2)
        (try clear hfz7_0 hfz7_1 hfz7_2 hfz7_3 hfz7_4 hfz7_5 hfz7_6 hfz7_7)
        try clear p2
        obtain ⟨kq, x8_52, x384006_52, HA, HJ52, HO_8, HO_384004, HO_384005, BK369, BK370, BK383, BK391, HB⟩ := hcut
        cases kq with
        | zero => exact absurd HA.out (by simp [impl_Answer.j1])
        | succ kj52 =>
         have H := HA.out
         clear HA
         simp only [impl_Answer.j1] at H
         have H' := Aside0.mk H
         clear H
         obtain ⟨Ao77, co77, eo77⟩ := Kd.R_slice HO_8.out
         subst eo77
         go_wp2
         go_loopg [61] kj52 (fun kq v61 w' => ∃ (x61_3 : Int) (x384004_3 : List Int) (u384004 : Value), v61 = .int .i64 x61_3 ∧ Aside0 (impl_Answer.l0 kq t389 x8_52 (x8_52.length : Int) x61_3 a0_0 a0_1 a0_2 a0_3 l0_4 l0_5 a0_6 a0_7 t371 t372 t373 t374 x384004_3 t378 x384006_52 t382 = some (r1, r2, r3, r4, r5, r6, r7, r8, r9)) ∧ Aside0 (kq ≤ kj52) ∧ Aside0 (Kd.R k32 32 w' w.heap.size (fun k_ => k_ ≠ gb391) (.slice Ao77 x8_52.length co77) x8_52) ∧ Aside0 (Kd.R (Kd.int .u8) 5 w' w.heap.size (fun k_ => some k_ ≠ ((.slice Ao14 t378.length co14) : Value).ownBlock) u384004 x384004_3) ∧ Aside0 (Kd.R (Kd.int .u8) 5 w' w.heap.size (fun k_ => some k_ ≠ (u384004 : Value).ownBlock) (.slice Ao14 t378.length co14) t378) ∧ Aside0 (w'.heap[gb369]? = some (.cells #[.int .i64 a0_0, .int .i64 a0_1, .int .i64 a0_2, .bool a0_3, (.slice A0_4 l0_4.length c0_4), (.slice A0_5 l0_5.length c0_5), .int .i64 a0_6, .int .i64 a0_7] 29 (0, 0))) ∧ Aside0 (w'.heap[gb370]? = some (.cells #[.int .i64 0, .int .i64 0, .int .i64 0, .bool false, (.slice none 0 0), (.slice none 0 0), .int .i64 0, .int .i64 0] 29 (0, 0))) ∧ Aside0 (w'.heap[gb383]? = some (.cells #[.int .i64 t371, .int .i64 t372, .int .i64 t373, .bool t374, u384004, (.slice Ao14 t378.length co14), .int .i64 x384006_52, .int .i64 t382] 29 (0, 0))) ∧ Aside0 (w'.heap[gb391]? = some (.cells #[.int .i64 t386, .string t387, .int .i64 t388] 32 (0, 0))) ∧ Aside0 (Below w.heap.size w w'))
         case atStart => exact ⟨(0), (t375), (.slice Ao13 t375.length co13), (by first | rfl | (simp; done) | (simp [*]; done) | (simp [Go.Proofs.YtahfemlfdpbkkaaV.bne_nil, Go.Proofs.YtahfemlfdpbkkaaV.beq_nil]; done)), H', ⟨Nat.le_refl _⟩, ⟨qR HO_8⟩, ⟨qR HO_384004⟩, ⟨qR HO_384005⟩, ⟨qK BK369⟩, ⟨qK BK370⟩, ⟨qK BK383⟩, ⟨qK BK391⟩, ⟨qB HB⟩⟩
         case round =>
          clear H'
          try clear c1
          try clear c2
          try clear p2
          try clear c3
          try clear c4
          try clear c5
          try clear c6
          try clear c7
          try clear c10
          try clear c11
          try clear c12
          try clear c16
          try clear c17
          try clear c17b0
          try clear c17b1
          try clear c18
          try clear c19
          try clear c23
          try clear c24
          try clear c28
          try clear c29
          try clear c32
          try clear c33
          try clear c34
          try clear c36
          try clear c38
          try clear c38b0
          try clear c38b1
          try clear c39
          try clear c39b0
          try clear c39b1
          try clear c42
          try clear c43
          try clear c48
          try clear c49
          try clear c50
          try clear c52
          try clear c52b0
          try clear c52b1
          try clear c54
          try clear c55
          try clear c56
          try clear c60
          try clear c61
          try clear c63
          try clear c63b0
          try clear c63b1
          try clear c67
          try clear c68
          try clear c69
          try clear c71
          try clear c72
          (try clear hcz12_0 hcz12_1 hcz12_2 hcz12_3 hcz12_4 hcz12_5 hcz12_6 hcz12_7)
          (try clear hcz20_0 hcz20_1 hcz20_2 hcz20_3 hcz20_4 hcz20_5 hcz20_6 hcz20_7)
          (try clear hcz22_0 hcz22_1 hcz22_2 hcz22_3 hcz22_4 hcz22_5 hcz22_6 hcz22_7)
          (try clear hcz25_0 hcz25_1 hcz25_2 hcz25_3 hcz25_4 hcz25_5 hcz25_6 hcz25_7)
          (try clear hcz27_0 hcz27_1 hcz27_2 hcz27_3 hcz27_4 hcz27_5 hcz27_6 hcz27_7)
          (try clear hcz30_0 hcz30_1 hcz30_2 hcz30_3 hcz30_4 hcz30_5 hcz30_6 hcz30_7)
          (try clear hcz35_0 hcz35_1 hcz35_2 hcz35_3 hcz35_4 hcz35_5 hcz35_6 hcz35_7)
          (try clear hcz37_0 hcz37_1 hcz37_2 hcz37_3 hcz37_4 hcz37_5 hcz37_6 hcz37_7)
          (try clear hcz44_0 hcz44_1 hcz44_2 hcz44_3 hcz44_4 hcz44_5 hcz44_6 hcz44_7)
          (try clear hcz51_0 hcz51_1 hcz51_2)
          (try clear hcz57_0 hcz57_1 hcz57_2 hcz57_3 hcz57_4 hcz57_5 hcz57_6 hcz57_7)
          (try clear hcz62_0 hcz62_1 hcz62_2)
          (try clear hcz70_0 hcz70_1 hcz70_2 hcz70_3 hcz70_4 hcz70_5 hcz70_6 hcz70_7)
          (try clear hcz73_0 hcz73_1 hcz73_2)
          (try clear hcz7_0 hcz7_1 hcz7_2 hcz7_3 hcz7_4 hcz7_5 hcz7_6 hcz7_7)
          (try clear hfz12_0 hfz12_1 hfz12_2 hfz12_3 hfz12_4 hfz12_5 hfz12_6 hfz12_7)
          (try clear hfz20_0 hfz20_1 hfz20_2 hfz20_3 hfz20_4 hfz20_5 hfz20_6 hfz20_7)
          (try clear hfz22_0 hfz22_1 hfz22_2 hfz22_3 hfz22_4 hfz22_5 hfz22_6 hfz22_7)
          (try clear hfz25_0 hfz25_1 hfz25_2 hfz25_3 hfz25_4 hfz25_5 hfz25_6 hfz25_7)
          (try clear hfz27_0 hfz27_1 hfz27_2 hfz27_3 hfz27_4 hfz27_5 hfz27_6 hfz27_7)
          (try clear hfz30_0 hfz30_1 hfz30_2 hfz30_3 hfz30_4 hfz30_5 hfz30_6 hfz30_7)
          (try clear hfz35_0 hfz35_1 hfz35_2 hfz35_3 hfz35_4 hfz35_5 hfz35_6 hfz35_7)
          (try clear hfz37_0 hfz37_1 hfz37_2 hfz37_3 hfz37_4 hfz37_5 hfz37_6 hfz37_7)
          (try clear hfz44_0 hfz44_1 hfz44_2 hfz44_3 hfz44_4 hfz44_5 hfz44_6 hfz44_7)
          (try clear hfz51_0 hfz51_1 hfz51_2)
          (try clear hfz57_0 hfz57_1 hfz57_2 hfz57_3 hfz57_4 hfz57_5 hfz57_6 hfz57_7)
          (try clear hfz62_0 hfz62_1 hfz62_2)
          (try clear hfz70_0 hfz70_1 hfz70_2 hfz70_3 hfz70_4 hfz70_5 hfz70_6 hfz70_7)
          (try clear hfz73_0 hfz73_1 hfz73_2)
          (try clear hfz7_0 hfz7_1 hfz7_2 hfz7_3 hfz7_4 hfz7_5 hfz7_6 hfz7_7)
          try clear p2
          obtain ⟨x61_3, x384004_3, u384004, rfl, HA, HK3, HO_59, HO_384004, HO_384005, BK369, BK370, BK383, BK391, HB⟩ := hrel
          cases gk with
          | zero => exact absurd HA.out (by simp [impl_Answer.l0])
          | succ k3 =>
           have H := HA.out
           clear HA
           simp only [impl_Answer.l0] at H
           by_cases c78 : x61_3 < (x8_52.length : Int)
           ·
            rw [if_pos c78] at H
            have c78b0 : decide (x61_3 < (x8_52.length : Int)) = true := decide_eq_true c78
            clear c78
            by_cases c79 : 0 ≤ x61_3
            ·
             rw [if_pos c79] at H
             have c79b0 : decide (0 ≤ x61_3) = true := decide_eq_true c79
             clear c79
             by_cases c80 : x61_3 < (x8_52.length : Int)
             ·
              rw [if_pos c80] at H
              have c80b0 : decide (x61_3 < (x8_52.length : Int)) = true := decide_eq_true c80
              clear c80
              replace H := Option.bind_eq_some_iff.mp H
              obtain ⟨t402, A810, H⟩ := H
              replace H : (if x384004_3.length + t402.length < 140737488355328 then (impl_Answer.l0 k3 t389 x8_52 (x8_52.length : Int) (wrap64 (x61_3 + 1)) a0_0 a0_1 a0_2 a0_3 l0_4 l0_5 a0_6 a0_7 t371 t372 t373 t374 (x384004_3 ++ t402) t378 x384006_52 t382) else (none)) = some (r1, r2, r3, r4, r5, r6, r7, r8, r9) := H
              have A81 := Aside0.mk A810
              clear A810
              by_cases c82 : x384004_3.length + t402.length < 140737488355328
              ·
               rw [if_pos c82] at H
               have LMc82 := Aside0.mk c82
               clear c82
               obtain ⟨y405, hy405⟩ : ∃ y_ : List Int, y_ = (x384004_3 ++ t402) := ⟨_, rfl⟩
               replace H : (impl_Answer.l0 k3 t389 x8_52 (x8_52.length : Int) (wrap64 (x61_3 + 1)) a0_0 a0_1 a0_2 a0_3 l0_4 l0_5 a0_6 a0_7 t371 t372 t373 t374 y405 t378 x384006_52 t382) = some (r1, r2, r3, r4, r5, r6, r7, r8, r9) := by first | (rw [hy405]; with_reducible exact H) | (have H2_ := (Option.bind_some _ _).symm.trans H; rw [hy405]; with_reducible exact H2_) | (have H2_ := (Option.bind_some _ _).symm.trans H; with_reducible exact H2_) | with_reducible exact H | (rw [hy405]; exact H) | exact H
               have Ny405 := Aside0.mk hy405
               clear hy405
               have H' := Aside0.mk H
               clear H
               have p400 : 0 ≤ (x61_3 : Int) := of_decide_eq_true (by first | (with_reducible assumption) | assumption)
               have q400 : x61_3 < (x8_52.length : Int) := of_decide_eq_true (by first | (with_reducible assumption) | assumption)
               obtain ⟨ad400, e400, hx400_0, hx400_1, hx400_2⟩ := at_T32 (Kd.R_reads' HO_59.out).2.2 x61_3 p400 q400
               cases e400
               replace p400 := eq_true p400
               replace q400 := eq_true q400
               try go_wp2_with (first | ((with_reducible refine gate_dst (N := 10) rfl ?_); refine box_event ?hg (N := 10) ?hd (cs := #[.int .i64 0, .string (⟨#[]⟩ : ByteArray), .int .i64 0]) (t := 32) ?hr ?_; (case hd => rfl); (case hg => rfl); (case hr => first | (go_simp; done) | (go_simp; rfl)); intro gb401 hg w83 hbox hb; replace HO_59 := am_ (Kd.R_below (Kd.R_elderB (qR HO_59) gb401 (Nat.le_of_eq hg.symm)) hb); replace HO_384004 := am_ (Kd.R_below (qR HO_384004) hb); replace HO_384005 := am_ (Kd.R_below (qR HO_384005) hb); have BK401 := am_ (hbox); have GW401 := am_ ((gG_ hg (qB HB))); have IGW401 := gI_ GW401; have GE401 := am_ ((gG_ hg (qB HB))); have IGE401 := gI_ GE401; replace HB := am_ (below_step (qB HB) hb); have NB369_401 := am_ ((gN_ hg (qK BK369))); have NB401_369 := am_ ((gM_ hg (qK BK369))); replace BK369 := am_ (blk_below (qK BK369) hb); have NB370_401 := am_ ((gN_ hg (qK BK370))); have NB401_370 := am_ ((gM_ hg (qK BK370))); replace BK370 := am_ (blk_below (qK BK370) hb); have NB383_401 := am_ ((gN_ hg (qK BK383))); have NB401_383 := am_ ((gM_ hg (qK BK383))); replace BK383 := am_ (blk_below (qK BK383) hb); have NB391_401 := am_ ((gN_ hg (qK BK391))); have NB401_391 := am_ ((gM_ hg (qK BK391))); replace BK391 := am_ (blk_below (qK BK391) hb); clear hb hbox hg; have hnb84 := NB401_369.out; have hnc84 := NB369_401.out; have hnb85 := NB401_370.out; have hnc85 := NB370_401.out; have hnb86 := NB401_383.out; have hnc86 := NB383_401.out; have hnb87 := NB401_391.out; have hnc87 := NB391_401.out; obtain ⟨hcz88_0, hcz88_1, hcz88_2⟩ := cz3 BK401.out; obtain ⟨hfz88_0, hfz88_1, hfz88_2⟩ := fz3 BK401.out))
               have n0_ : Aside0 (Kd.R k32 32 (((w83.setCell ⟨gb401, 0, none⟩ (.int .i64 ((rd_T32 x8_52 x61_3).f0))).setCell ⟨gb401, 1, none⟩ (.string ((rd_T32 x8_52 x61_3).f1))).setCell ⟨gb401, 2, none⟩ (.int .i64 ((rd_T32 x8_52 x61_3).f2))) w.heap.size (fun k_ => k_ ≠ gb391 ∧ k_ ≠ gb401) (.slice (some ad400) x8_52.length co77) x8_52) := ⟨by (with_reducible repeat (first | apply Kd.R_alloc | apply Kd.R_drewN | apply Kd.R_drew)); exact Kd.R_mono (Go.Proofs.YtahfemlfdpbkkaaV.R_far3 (g := gb401) (Kd.R_mono HO_59.out (fun k_ hk => (⟨hk, hk.2⟩ : _ ∧ k_ ≠ gb401))) (fun _ hk => hk.2)) (fun _ hk => ⟨hk.1.1, hk.1.2⟩)⟩
               have n1_ : Aside0 (Kd.R (Kd.int .u8) 5 (((w83.setCell ⟨gb401, 0, none⟩ (.int .i64 ((rd_T32 x8_52 x61_3).f0))).setCell ⟨gb401, 1, none⟩ (.string ((rd_T32 x8_52 x61_3).f1))).setCell ⟨gb401, 2, none⟩ (.int .i64 ((rd_T32 x8_52 x61_3).f2))) w.heap.size (fun k_ => some k_ ≠ (.slice Ao14 t378.length co14 : Value).ownBlock) u384004 x384004_3) := ⟨by (with_reducible repeat (first | apply Kd.R_alloc | apply Kd.R_drewN | apply Kd.R_drew)); exact Kd.R_mono (Go.Proofs.YtahfemlfdpbkkaaV.R_far3 (g := gb401) (Kd.R_types HO_384004.out BK401.out (by decide)) (fun _ hk => hk.2)) (fun _ hk => hk.1)⟩
               have n2_ : Aside0 (Kd.R (Kd.int .u8) 5 (((w83.setCell ⟨gb401, 0, none⟩ (.int .i64 ((rd_T32 x8_52 x61_3).f0))).setCell ⟨gb401, 1, none⟩ (.string ((rd_T32 x8_52 x61_3).f1))).setCell ⟨gb401, 2, none⟩ (.int .i64 ((rd_T32 x8_52 x61_3).f2))) w.heap.size (fun k_ => some k_ ≠ (u384004 : Value).ownBlock) (.slice Ao14 t378.length co14) t378) := ⟨by (with_reducible repeat (first | apply Kd.R_alloc | apply Kd.R_drewN | apply Kd.R_drew)); exact Kd.R_mono (Go.Proofs.YtahfemlfdpbkkaaV.R_far3 (g := gb401) (Kd.R_types HO_384005.out BK401.out (by decide)) (fun _ hk => hk.2)) (fun _ hk => hk.1)⟩
               have n3_ : Aside0 ((((w83.setCell ⟨gb401, 0, none⟩ (.int .i64 ((rd_T32 x8_52 x61_3).f0))).setCell ⟨gb401, 1, none⟩ (.string ((rd_T32 x8_52 x61_3).f1))).setCell ⟨gb401, 2, none⟩ (.int .i64 ((rd_T32 x8_52 x61_3).f2))).heap[gb369]? = some (.cells #[.int .i64 a0_0, .int .i64 a0_1, .int .i64 a0_2, .bool a0_3, .slice A0_4 l0_4.length c0_4, .slice A0_5 l0_5.length c0_5, .int .i64 a0_6, .int .i64 a0_7] 29 (0, 0))) := ⟨by (with_reducible repeat (first | refine blk_drewN ?_ _ | refine blk_drew ?_ | refine blk_alloc ?_ _)); refine Go.Proofs.YtahfemlfdpbkkaaV.blk_far3 ?_ NB369_401.out; (with_reducible repeat (first | refine blk_drewN ?_ _ | refine blk_drew ?_ | refine blk_alloc ?_ _)); exact BK369.out⟩
               have n4_ : Aside0 ((((w83.setCell ⟨gb401, 0, none⟩ (.int .i64 ((rd_T32 x8_52 x61_3).f0))).setCell ⟨gb401, 1, none⟩ (.string ((rd_T32 x8_52 x61_3).f1))).setCell ⟨gb401, 2, none⟩ (.int .i64 ((rd_T32 x8_52 x61_3).f2))).heap[gb370]? = some (.cells #[.int .i64 0, .int .i64 0, .int .i64 0, .bool false, .slice none 0 0, .slice none 0 0, .int .i64 0, .int .i64 0] 29 (0, 0))) := ⟨by (with_reducible repeat (first | refine blk_drewN ?_ _ | refine blk_drew ?_ | refine blk_alloc ?_ _)); refine Go.Proofs.YtahfemlfdpbkkaaV.blk_far3 ?_ NB370_401.out; (with_reducible repeat (first | refine blk_drewN ?_ _ | refine blk_drew ?_ | refine blk_alloc ?_ _)); exact BK370.out⟩
               have n5_ : Aside0 ((((w83.setCell ⟨gb401, 0, none⟩ (.int .i64 ((rd_T32 x8_52 x61_3).f0))).setCell ⟨gb401, 1, none⟩ (.string ((rd_T32 x8_52 x61_3).f1))).setCell ⟨gb401, 2, none⟩ (.int .i64 ((rd_T32 x8_52 x61_3).f2))).heap[gb383]? = some (.cells #[.int .i64 t371, .int .i64 t372, .int .i64 t373, .bool t374, u384004, .slice Ao14 t378.length co14, .int .i64 x384006_52, .int .i64 t382] 29 (0, 0))) := ⟨by (with_reducible repeat (first | refine blk_drewN ?_ _ | refine blk_drew ?_ | refine blk_alloc ?_ _)); refine Go.Proofs.YtahfemlfdpbkkaaV.blk_far3 ?_ NB383_401.out; (with_reducible repeat (first | refine blk_drewN ?_ _ | refine blk_drew ?_ | refine blk_alloc ?_ _)); exact BK383.out⟩
               have n6_ : Aside0 ((((w83.setCell ⟨gb401, 0, none⟩ (.int .i64 ((rd_T32 x8_52 x61_3).f0))).setCell ⟨gb401, 1, none⟩ (.string ((rd_T32 x8_52 x61_3).f1))).setCell ⟨gb401, 2, none⟩ (.int .i64 ((rd_T32 x8_52 x61_3).f2))).heap[gb391]? = some (.cells #[.int .i64 t386, .string t387, .int .i64 t388] 32 (0, 0))) := ⟨by (with_reducible repeat (first | refine blk_drewN ?_ _ | refine blk_drew ?_ | refine blk_alloc ?_ _)); refine Go.Proofs.YtahfemlfdpbkkaaV.blk_far3 ?_ NB391_401.out; (with_reducible repeat (first | refine blk_drewN ?_ _ | refine blk_drew ?_ | refine blk_alloc ?_ _)); exact BK391.out⟩
               have n7_ : Aside0 ((((w83.setCell ⟨gb401, 0, none⟩ (.int .i64 ((rd_T32 x8_52 x61_3).f0))).setCell ⟨gb401, 1, none⟩ (.string ((rd_T32 x8_52 x61_3).f1))).setCell ⟨gb401, 2, none⟩ (.int .i64 ((rd_T32 x8_52 x61_3).f2))).heap[gb401]? = some (.cells #[.int .i64 ((rd_T32 x8_52 x61_3).f0), .string ((rd_T32 x8_52 x61_3).f1), .int .i64 ((rd_T32 x8_52 x61_3).f2)] 32 (0, 0))) := ⟨by (with_reducible repeat (first | refine blk_drewN ?_ _ | refine blk_drew ?_ | refine blk_alloc ?_ _)); refine Go.Proofs.YtahfemlfdpbkkaaV.blk_all3 (show _ = some (Go.Obj.cells #[.int .i64 0, .string (⟨#[]⟩ : ByteArray), .int .i64 0] _ (0, 0)) from ?_); (with_reducible repeat (first | refine blk_drewN ?_ _ | refine blk_drew ?_ | refine blk_alloc ?_ _)); exact BK401.out⟩
               have n8_ : Aside0 (Below w.heap.size w (((w83.setCell ⟨gb401, 0, none⟩ (.int .i64 ((rd_T32 x8_52 x61_3).f0))).setCell ⟨gb401, 1, none⟩ (.string ((rd_T32 x8_52 x61_3).f1))).setCell ⟨gb401, 2, none⟩ (.int .i64 ((rd_T32 x8_52 x61_3).f2)))) := ⟨qB HB⟩
               (try clear HO_59)
               (try clear HO_384004)
               (try clear HO_384005)
               (try clear BK369)
               (try clear BK370)
               (try clear BK383)
               (try clear BK391)
               (try clear BK401)
               (try clear HB)
               generalize (((w83.setCell ⟨gb401, 0, none⟩ (.int .i64 ((rd_T32 x8_52 x61_3).f0))).setCell ⟨gb401, 1, none⟩ (.string ((rd_T32 x8_52 x61_3).f1))).setCell ⟨gb401, 2, none⟩ (.int .i64 ((rd_T32 x8_52 x61_3).f2))) = w89 at n0_ n1_ n2_ n3_ n4_ n5_ n6_ n7_ n8_ ⊢
               have HO_59 := n0_
               have HO_384004 := n1_
               have HO_384005 := n2_
               have BK369 := n3_
               have BK370 := n4_
               have BK383 := n5_
               have BK391 := n6_
               have BK401 := n7_
               have HB := n8_
               clear n0_ n1_ n2_ n3_ n4_ n5_ n6_ n7_ n8_
               replace HO_59 := am_ (Kd.R_drew HO_59.out)
               replace HO_384004 := am_ (Kd.R_drew HO_384004.out)
               replace HO_384005 := am_ (Kd.R_drew HO_384005.out)
               replace BK369 := am_ (blk_drew BK369.out)
               replace BK370 := am_ (blk_drew BK370.out)
               replace BK383 := am_ (blk_drew BK383.out)
               replace BK391 := am_ (blk_drew BK391.out)
               replace BK401 := am_ (blk_drew BK401.out)
               replace HB := am_ (below_drew1 HB.out)
               refine start_ (n := 7) (S := fun w' => w'.cell? ⟨gb383, 0, none⟩ = some (.int .i64 t371) ∧ w'.cell? ⟨gb383, 1, none⟩ = some (.int .i64 t372) ∧ w'.cell? ⟨gb383, 2, none⟩ = some (.int .i64 t373) ∧ w'.cell? ⟨gb383, 3, none⟩ = some (.bool t374) ∧ w'.cell? ⟨gb383, 4, none⟩ = some (u384004) ∧ w'.cell? ⟨gb383, 5, none⟩ = some (.slice Ao14 t378.length co14) ∧ w'.cell? ⟨gb383, 6, none⟩ = some (.int .i64 x384006_52) ∧ w'.cell? ⟨gb383, 7, none⟩ = some (.int .i64 t382) ∧ w'.cell? ⟨gb401, 0, none⟩ = some (.int .i64 ((rd_T32 x8_52 x61_3).f0)) ∧ w'.cell? ⟨gb401, 1, none⟩ = some (.string ((rd_T32 x8_52 x61_3).f1)) ∧ w'.cell? ⟨gb401, 2, none⟩ = some (.int .i64 ((rd_T32 x8_52 x61_3).f2))) (ds := [6]) #[false, false, false, false, false, false, false] (by kernel_rfl) rfl rfl (cw8 BK383.out (cz3 BK401.out)) (fun hHeld => ?_)
               generalize w89.drew = w90 at HO_59 HO_384004 HO_384005 BK369 BK370 BK383 BK391 BK401 HB hHeld ⊢
               refine pure_ (i := 0) (N := some 65) (v := ?_) (a' := ?_) #[true, false, false, false, false, false, false] rfl rfl (by kernel_rfl) (fun _ _ _ h => h) (Or.inl ⟨by rfl, ?_⟩) ?_ ?_
               rotate_left
               ·
                intro w'
                go_simp
                with_reducible rfl
               rotate_left
               ·
                simp only [Act.put, List.setIfInBounds_toArray, List.set_cons_zero, List.set_cons_succ, i64_w, i32_w]
                rfl
               refine take_ (i := 1) (N := some 66) (v := ?_) (a' := ?_) #[true, true, false, false, false, false, false] rfl rfl (by kernel_rfl) (fun _ _ _ h => h) (Or.inl ⟨by rfl, ?_⟩) hHeld ?_ ?_
               rotate_left
               ·
                rintro w' ⟨s0, s1, s2, s3, s4, s5, s6, s7, s8, s9, s10⟩
                go_simp
                with_reducible rfl
               rotate_left
               ·
                simp only [Act.put, List.setIfInBounds_toArray, List.set_cons_zero, List.set_cons_succ, i64_w, i32_w]
                rfl
               refine take_ (i := 2) (N := some 67) (v := ?_) (a' := ?_) #[true, true, true, false, false, false, false] rfl rfl (by kernel_rfl) (fun _ _ _ h => h) (Or.inl ⟨by rfl, ?_⟩) hHeld ?_ ?_
               rotate_left
               ·
                rintro w' ⟨s0, s1, s2, s3, s4, s5, s6, s7, s8, s9, s10⟩
                go_simp
                with_reducible rfl
               rotate_left
               ·
                simp only [Act.put, List.setIfInBounds_toArray, List.set_cons_zero, List.set_cons_succ, i64_w, i32_w]
                rfl
               refine one_ (i := 3) (N := some 68) #[true, true, true, true, false, false, false] rfl rfl (by kernel_rfl) (by decide) (fun K hK => ?_)
               refine goes_ Try.func70 (by kernel_rfl) rfl #[.agg #[.int .i64 ((rd_T32 x8_52 x61_3).f0), .string ((rd_T32 x8_52 x61_3).f1), .int .i64 ((rd_T32 x8_52 x61_3).f2)]] (by rfl) rfl rfl (by (try simp only [List.map_toArray, List.map_cons, List.map_nil]); first | done | rfl | (simp only [List.length_drop, List.length_take]; rfl)) ?_
               with_reducible refine (impl_PutFrame.calls k3 ((rd_T32 x8_52 x61_3).f0) ((rd_T32 x8_52 x61_3).f1) ((rd_T32 x8_52 x61_3).f2) t402 _ A81.out).mono ?_
               rintro e w91 ⟨v403, rfl, ho0, hb⟩
               refine ⟨_, rfl, ?_⟩
               replace HO_59 := am_ (Kd.R_below (qR HO_59) hb)
               have HO404 := am_ (Kd.R_lower (Kd.R_new' (Kd.R_new' ho0 (Kd.R_lt (qR HO_384004))) (Kd.R_lt (qR HO_384005))) (below_size (qB HB)))
               replace HO_384004 := am_ (Kd.R_elder' (qR HO_384004) (Kd.R_base ho0) hb)
               replace HO_384005 := am_ (Kd.R_elder' (qR HO_384005) (Kd.R_base ho0) hb)
               replace BK369 := am_ (blk_below (qK BK369) hb)
               replace BK370 := am_ (blk_below (qK BK370) hb)
               replace BK383 := am_ (blk_below (qK BK383) hb)
               replace BK391 := am_ (blk_below (qK BK391) hb)
               replace BK401 := am_ (blk_below (qK BK401) hb)
               replace HB := am_ (below_step (qB HB) hb)
               (try clear hb ho0)
               obtain ⟨Ao93, co93, eo93⟩ := Kd.R_slice HO404.out
               (first | subst eo93 | (injection eo93 with f1_ f2_ f3_; have f4_ := f1_.symm; have f5_ := f3_.symm; clear f1_ f2_ f3_; subst f4_; subst f5_))
               refine hK.out _ _ (cw8 BK383.out (cz3 BK401.out)) (fun hHeld => ?_)
               clear hK K
               refine norm_ (a' := ?_) ?_ ?_
               rotate_left
               ·
                show Act.put _ (some 68) _ = _
                simp only [Act.put, List.setIfInBounds_toArray, List.set_cons_zero, List.set_cons_succ, i64_w, i32_w]
                rfl
               refine one_ (i := 4) (N := some 69) #[true, true, true, true, true, false, false] rfl rfl (by kernel_rfl) (by decide) (fun K hK => ?_)
               refine Kd.R_append_rows_step (Kd.int .u8) (w0 := w) w.heap.size (by rfl) (.tmp 66) (.tmp 68) 22 5 (.int .u8 0) 1 rfl Try.underlying22 info5 rfl (by decide) (by omega) u384004 x384004_3 t402 _ _ _ (fun k_ => some k_ ≠ (.slice Ao14 t378.length co14 : Value).ownBlock ∧ some k_ ≠ (.slice Ao93 t402.length co93 : Value).ownBlock) (fun _ => False) rfl rfl ?aO ?aR (fun _ _ h => h) (fun _ h => h.elim) ?aF ?aB ?aS ?aL ?_
               (case aR => exact qC ((Kd.R_reads' HO404.out).2.2))
               (case aB => exact (qB HB))
               (case aF => exact (fun k_ hk => ⟨Kd.fresh' (Kd.R_lt (qR HO_384005)) k_ hk, Kd.fresh' (Kd.R_lt (qR HO404)) k_ hk⟩))
               (case aO => exact (qR HO_384004))
               (case aS => exact (below_size (qB HB)))
               (case aL => have := LMc82.out; omega)
               intro v406 w92 ho hb hg hat
               rw [← Ny405.out] at ho
               replace HO_59 := am_ (Kd.R_over' (qR HO_59) (Kd.R_typed (qR HO_384004)) (by decide) hg)
               replace HO_384005 := am_ (Kd.R_after (ok := (fun k_ => some k_ ≠ (.slice Ao93 t402.length co93 : Value).ownBlock)) (tR (Kd.R_mono HO_384005.out (fun _ hk => ⟨hk.2, hk.1⟩))) hg hat)
               replace BK369 := am_ (blk_grown (qK BK369) hg (Kd.R_ne HO_384004.out BK369.out (by decide)))
               replace BK370 := am_ (blk_grown (qK BK370) hg (Kd.R_ne HO_384004.out BK370.out (by decide)))
               replace BK383 := am_ (blk_grown (qK BK383) hg (Kd.R_ne HO_384004.out BK383.out (by decide)))
               replace BK391 := am_ (blk_grown (qK BK391) hg (Kd.R_ne HO_384004.out BK391.out (by decide)))
               replace BK401 := am_ (blk_grown (qK BK401) hg (Kd.R_ne HO_384004.out BK401.out (by decide)))
               replace HO404 := am_ (Kd.R_after (ok := (fun k_ => some k_ ≠ (.slice Ao14 t378.length co14 : Value).ownBlock)) (tR (Kd.R_mono HO404.out (fun _ hk => ⟨hk.2, hk.1.2⟩))) hg hat)
               replace HB := am_ (hb)
               have HO407 := am_ (ho)
               clear HO_384004
               clear ho hb hg hat
               obtain ⟨Ao94, co94, eo94⟩ := Kd.R_slice HO407.out
               (first | subst eo94 | (injection eo94 with f1_ f2_ f3_; have f4_ := f1_.symm; have f5_ := f3_.symm; clear f1_ f2_ f3_; subst f4_; subst f5_))
               refine hK.out _ _ (cw8 BK383.out (cz3 BK401.out)) (fun hHeld => ?_)
               clear hK K
               refine norm_ (a' := ?_) ?_ ?_
               rotate_left
               ·
                show Act.put _ (some 69) _ = _
                simp only [Act.put, List.setIfInBounds_toArray, List.set_cons_zero, List.set_cons_succ, i64_w, i32_w]
                rfl
               refine pure_ (i := 5) (N := some 70) (v := ?_) (a' := ?_) #[true, true, true, true, true, true, false] rfl rfl (by kernel_rfl) (fun _ _ _ h => h) (Or.inl ⟨by rfl, ?_⟩) ?_ ?_
               rotate_left
               ·
                intro w'
                go_simp
                with_reducible rfl
               rotate_left
               ·
                simp only [Act.put, List.setIfInBounds_toArray, List.set_cons_zero, List.set_cons_succ, i64_w, i32_w]
                rfl
               refine last_ (i := 6) (N := none) #[true, true, true, true, true, true, true] rfl rfl (by kernel_rfl) (by decide) (fun K hK => ?_)
               have hs95 : w92.cell? ⟨gb383, 4, none⟩ = some (u384004) := (blk_cell BK383.out 4).trans rfl
               have hfs95 := blk_frozen BK383.out 4
               have hns95_0 := NB369_383.out
               have hns95_1 := NB370_383.out
               have hns95_3 := NB391_383.out
               have hns95_4 := NB401_383.out
               have hms95_0 := NB383_369.out
               have hms95_1 := NB383_370.out
               have hms95_3 := NB383_391.out
               have hms95_4 := NB383_401.out
               refine skip_ (w1 := ?_) (by rfl) rfl ?_ ?_
               rotate_left
               ·
                go_simp
                rfl
               refine hK.out _ _ ?_
               clear hK K
               refine done_ (by kernel_rfl) ?_
               try go_wp2
               go_roundg k3
               case measure => have := HJ2.out; have := HJ52.out; have := HK3.out; omega
               case rel => exact ⟨(wrap64 (x61_3 + 1)), (y405), (.slice Ao94 y405.length co94), (by first | rfl | (simp; done) | (simp [*]; done) | (simp [Go.Proofs.YtahfemlfdpbkkaaV.bne_nil, Go.Proofs.YtahfemlfdpbkkaaV.beq_nil]; done)), H', ⟨by have := HJ2.out; have := HJ52.out; have := HK3.out; omega⟩, ⟨by (with_reducible repeat (first | apply Kd.R_alloc | apply Kd.R_drewN | apply Kd.R_drew)); exact Kd.R_mono (Kd.R_far (p := ⟨gb383, 4, none⟩) (Kd.R_types HO_59.out BK383.out (by decide)) (fun _ hk => hk.2) (.slice Ao94 y405.length co94)) (fun _ hk => hk.1.1)⟩, ⟨by (with_reducible repeat (first | apply Kd.R_alloc | apply Kd.R_drewN | apply Kd.R_drew)); exact Kd.R_mono (Kd.R_far (p := ⟨gb383, 4, none⟩) (Kd.R_types HO407.out BK383.out (by decide)) (fun _ hk => hk.2) (.slice Ao94 y405.length co94)) (fun _ hk => hk.1.1)⟩, ⟨by (with_reducible repeat (first | apply Kd.R_alloc | apply Kd.R_drewN | apply Kd.R_drew)); exact Kd.R_mono (Kd.R_far (p := ⟨gb383, 4, none⟩) (Kd.R_types HO_384005.out BK383.out (by decide)) (fun _ hk => hk.2) (.slice Ao94 y405.length co94)) (fun _ hk => hk.1.2)⟩, ⟨by (with_reducible repeat (first | refine blk_drewN ?_ _ | refine blk_drew ?_ | refine blk_alloc ?_ _)); refine blk_far ?_ NB369_383.out _; (with_reducible repeat (first | refine blk_drewN ?_ _ | refine blk_drew ?_ | refine blk_alloc ?_ _)); exact BK369.out⟩, ⟨by (with_reducible repeat (first | refine blk_drewN ?_ _ | refine blk_drew ?_ | refine blk_alloc ?_ _)); refine blk_far ?_ NB370_383.out _; (with_reducible repeat (first | refine blk_drewN ?_ _ | refine blk_drew ?_ | refine blk_alloc ?_ _)); exact BK370.out⟩, ⟨by (with_reducible repeat (first | refine blk_drewN ?_ _ | refine blk_drew ?_ | refine blk_alloc ?_ _)); refine blk_put (cs := #[.int .i64 t371, .int .i64 t372, .int .i64 t373, .bool t374, u384004, .slice Ao14 t378.length co14, .int .i64 x384006_52, .int .i64 t382]) ?_ 4 _ rfl; (with_reducible repeat (first | refine blk_drewN ?_ _ | refine blk_drew ?_ | refine blk_alloc ?_ _)); exact BK383.out⟩, ⟨by (with_reducible repeat (first | refine blk_drewN ?_ _ | refine blk_drew ?_ | refine blk_alloc ?_ _)); refine blk_far ?_ NB391_383.out _; (with_reducible repeat (first | refine blk_drewN ?_ _ | refine blk_drew ?_ | refine blk_alloc ?_ _)); exact BK391.out⟩, ⟨qB HB⟩⟩
              ·
               rw [if_neg c82] at H
               exact absurd H (by simp)
             ·
              rw [if_neg c80] at H
              exact absurd H (by simp)
            ·
             rw [if_neg c79] at H
             exact absurd H (by simp)
           ·
            rw [if_neg c78] at H
            have c78b0 : decide (x61_3 < (x8_52.length : Int)) = false := decide_eq_false c78
            clear c78
            by_cases c96 : (x384004_3.length : Int) > 240
            ·
             rw [if_pos c96] at H
             have c96b0 : decide (240 < (x384004_3.length : Int)) = true := decide_eq_true c96
             have c96b1 : decide (240 < x384004_3.length) = true := decide_eq_true (by omega)
             clear c96
             replace H := Option.bind_eq_some_iff.mp H
             obtain ⟨⟨t408, t409, t410, t411, t412, t415, t418, t419⟩, A970, H⟩ := H
             replace H : (some (t408, t409, t410, t411, t412, t415, t418, t419, false)) = some (r1, r2, r3, r4, r5, r6, r7, r8, r9) := H
             have A97 := Aside0.mk A970
             clear A970
             simp only [Option.some.injEq, Prod.mk.injEq] at H
             obtain ⟨rfl, rfl, rfl, rfl, rfl, rfl, rfl, rfl, rfl⟩ := H
             have hnb98 := NB383_369.out
             have hnc98 := NB369_383.out
             have hnb99 := NB383_370.out
             have hnc99 := NB370_383.out
             have hnb100 := NB383_391.out
             have hnc100 := NB391_383.out
             obtain ⟨hcz101_0, hcz101_1, hcz101_2, hcz101_3, hcz101_4, hcz101_5, hcz101_6, hcz101_7⟩ := cz8 BK383.out
             obtain ⟨hfz101_0, hfz101_1, hfz101_2, hfz101_3, hfz101_4, hfz101_5, hfz101_6, hfz101_7⟩ := fz8 BK383.out
             obtain ⟨Ao102, co102, eo102⟩ := Kd.R_slice HO_384004.out
             subst eo102
             have hnb103 := NB369_370.out
             have hnc103 := NB370_369.out
             have hnb104 := NB369_391.out
             have hnc104 := NB391_369.out
             obtain ⟨hcz105_0, hcz105_1, hcz105_2, hcz105_3, hcz105_4, hcz105_5, hcz105_6, hcz105_7⟩ := cz8 BK369.out
             obtain ⟨hfz105_0, hfz105_1, hfz105_2, hfz105_3, hfz105_4, hfz105_5, hfz105_6, hfz105_7⟩ := fz8 BK369.out
             go_wp2_with (first | ((with_reducible refine gate_callee (f := 68) rfl ?_); refine goesL_ (some 77) rfl rfl Try.func68 (by kernel_rfl) rfl #[.agg #[.int .i64 a0_0, .int .i64 a0_1, .int .i64 a0_2, .bool a0_3, .slice A0_4 l0_4.length c0_4, .slice A0_5 l0_5.length c0_5, .int .i64 a0_6, .int .i64 a0_7]] rfl (by (try simp only [List.map_toArray, List.map_cons, List.map_nil]); first | done | rfl | (simp only [List.length_drop, List.length_take]; rfl)) ?_; (with_reducible refine (impl_sockCopy.calls a0_0 a0_1 a0_2 a0_3 _ _ l0_4 _ _ l0_5 a0_6 a0_7 t408 t409 t410 t411 t412 t415 t418 t419 _ ?side1 ?side2 ?side3 ?side4 A97.out).mono ?_); (case side1 => exact qC (Kd.C_below HR0_4.out HB.out)); (case side2 => exact HC0_4.out); (case side3 => exact qC (Kd.C_below HR0_5.out HB.out)); (case side4 => exact HC0_5.out); rintro e w106 ⟨v413, v416, rfl, ho0, ho1, hb⟩; refine ⟨_, rfl, ?_⟩; replace HO_59 := am_ (Kd.R_below (qR HO_59) hb); have HO414 := am_ (Kd.R_lower (Kd.R_new' (Kd.R_new' ho0 (Kd.R_lt (qR HO_384004))) (Kd.R_lt (qR HO_384005))) (below_size (qB HB))); have HO417 := am_ (Kd.R_lower (Kd.R_new' (Kd.R_new' ho1 (Kd.R_lt (qR HO_384004))) (Kd.R_lt (qR HO_384005))) (below_size (qB HB))); replace HO_384004 := am_ (Kd.R_mono (Kd.R_told (Kd.R_told (Kd.R_old (qR HO_384004) hb) (Kd.R_base ho0)) (Kd.R_base ho1)) (fun _ h_ => h_.1)); replace HO_384005 := am_ (Kd.R_mono (Kd.R_told (Kd.R_told (Kd.R_old (qR HO_384005) hb) (Kd.R_base ho0)) (Kd.R_base ho1)) (fun _ h_ => h_.1)); replace BK369 := am_ (blk_below (qK BK369) hb); replace BK370 := am_ (blk_below (qK BK370) hb); replace BK383 := am_ (blk_below (qK BK383) hb); replace BK391 := am_ (blk_below (qK BK391) hb); replace HB := am_ (below_step (qB HB) hb); (try clear hb); (try clear hb2); (try clear hk); (try clear hi); (try clear ho0); (try clear ho1); have hnb107 := NB370_391.out; have hnc107 := NB391_370.out; obtain ⟨hcz108_0, hcz108_1, hcz108_2, hcz108_3, hcz108_4, hcz108_5, hcz108_6, hcz108_7⟩ := cz8 BK370.out; obtain ⟨hfz108_0, hfz108_1, hfz108_2, hfz108_3, hfz108_4, hfz108_5, hfz108_6, hfz108_7⟩ := fz8 BK370.out; obtain ⟨Ao109, co109, eo109⟩ := Kd.R_slice HO414.out; subst eo109; obtain ⟨Ao110, co110, eo110⟩ := Kd.R_slice HO417.out; subst eo110))
             refine bodyPost_ret (results_ct rfl _ _ gb370 29 #[.int .i64 t408, .int .i64 t409, .int .i64 t410, .bool t411, .slice Ao109 t412.length co109, .slice Ao110 t415.length co110, .int .i64 t418, .int .i64 t419] (0, 0) _ rfl (by (with_reducible repeat (first | refine blk_drewN ?_ _ | refine blk_drew ?_ | refine blk_alloc ?_ _)); refine blk_put (cs := #[.int .i64 t408, .int .i64 t409, .int .i64 t410, .bool t411, .slice Ao109 t412.length co109, .slice Ao110 t415.length co110, .int .i64 t418, .int .i64 0]) ?_ 7 _ rfl; (with_reducible repeat (first | refine blk_drewN ?_ _ | refine blk_drew ?_ | refine blk_alloc ?_ _)); refine blk_put (cs := #[.int .i64 t408, .int .i64 t409, .int .i64 t410, .bool t411, .slice Ao109 t412.length co109, .slice Ao110 t415.length co110, .int .i64 0, .int .i64 0]) ?_ 6 _ rfl; (with_reducible repeat (first | refine blk_drewN ?_ _ | refine blk_drew ?_ | refine blk_alloc ?_ _)); refine blk_put (cs := #[.int .i64 t408, .int .i64 t409, .int .i64 t410, .bool t411, .slice Ao109 t412.length co109, .slice none 0 0, .int .i64 0, .int .i64 0]) ?_ 5 _ rfl; (with_reducible repeat (first | refine blk_drewN ?_ _ | refine blk_drew ?_ | refine blk_alloc ?_ _)); refine blk_put (cs := #[.int .i64 t408, .int .i64 t409, .int .i64 t410, .bool t411, .slice none 0 0, .slice none 0 0, .int .i64 0, .int .i64 0]) ?_ 4 _ rfl; (with_reducible repeat (first | refine blk_drewN ?_ _ | refine blk_drew ?_ | refine blk_alloc ?_ _)); refine blk_put (cs := #[.int .i64 t408, .int .i64 t409, .int .i64 t410, .bool false, .slice none 0 0, .slice none 0 0, .int .i64 0, .int .i64 0]) ?_ 3 _ rfl; (with_reducible repeat (first | refine blk_drewN ?_ _ | refine blk_drew ?_ | refine blk_alloc ?_ _)); refine blk_put (cs := #[.int .i64 t408, .int .i64 t409, .int .i64 0, .bool false, .slice none 0 0, .slice none 0 0, .int .i64 0, .int .i64 0]) ?_ 2 _ rfl; (with_reducible repeat (first | refine blk_drewN ?_ _ | refine blk_drew ?_ | refine blk_alloc ?_ _)); refine blk_put (cs := #[.int .i64 t408, .int .i64 0, .int .i64 0, .bool false, .slice none 0 0, .slice none 0 0, .int .i64 0, .int .i64 0]) ?_ 1 _ rfl; (with_reducible repeat (first | refine blk_drewN ?_ _ | refine blk_drew ?_ | refine blk_alloc ?_ _)); refine blk_put (cs := #[.int .i64 0, .int .i64 0, .int .i64 0, .bool false, .slice none 0 0, .slice none 0 0, .int .i64 0, .int .i64 0]) ?_ 0 _ rfl; (with_reducible repeat (first | refine blk_drewN ?_ _ | refine blk_drew ?_ | refine blk_alloc ?_ _)); exact BK370.out) Try.underlying29 rfl (by kernel_rfl)) rfl ?_
             exact ⟨_, _, by first | rfl | (simp [errW_none, errW_some] <;> rfl) | (simp [*, errW_none, errW_some] <;> rfl), by (with_reducible repeat (first | apply Kd.R_alloc | apply Kd.R_drewN | apply Kd.R_drew)); exact Kd.R_mono (Go.Proofs.YtahfemlfdpbkkaaV.R_far8 (g := gb370) (Kd.R_types HO414.out BK370.out (by decide)) (fun _ hk => hk.2)) (fun _ hk => hk.1.1.1), by (with_reducible repeat (first | apply Kd.R_alloc | apply Kd.R_drewN | apply Kd.R_drew)); exact Kd.R_mono (Go.Proofs.YtahfemlfdpbkkaaV.R_far8 (g := gb370) (Kd.R_types HO417.out BK370.out (by decide)) (fun _ hk => hk.2)) (fun _ hk => hk.1.1.1), qB HB⟩
            ·
             rw [if_neg c96] at H
             have c96b0 : decide (240 < (x384004_3.length : Int)) = false := decide_eq_false c96
             have c96b1 : decide (240 < x384004_3.length) = false := decide_eq_false (by omega)
             clear c96
             simp only [Option.some.injEq, Prod.mk.injEq] at H
             obtain ⟨rfl, rfl, rfl, rfl, rfl, rfl, rfl, rfl, rfl⟩ := H
             have hnb111 := NB383_369.out
             have hnc111 := NB369_383.out
             have hnb112 := NB383_370.out
             have hnc112 := NB370_383.out
             have hnb113 := NB383_391.out
             have hnc113 := NB391_383.out
             obtain ⟨hcz114_0, hcz114_1, hcz114_2, hcz114_3, hcz114_4, hcz114_5, hcz114_6, hcz114_7⟩ := cz8 BK383.out
             obtain ⟨hfz114_0, hfz114_1, hfz114_2, hfz114_3, hfz114_4, hfz114_5, hfz114_6, hfz114_7⟩ := fz8 BK383.out
             obtain ⟨Ao115, co115, eo115⟩ := Kd.R_slice HO_384004.out
             subst eo115
             have hnb116 := NB370_369.out
             have hnc116 := NB369_370.out
             have hnb117 := NB370_391.out
             have hnc117 := NB391_370.out
             obtain ⟨hcz118_0, hcz118_1, hcz118_2, hcz118_3, hcz118_4, hcz118_5, hcz118_6, hcz118_7⟩ := cz8 BK370.out
             obtain ⟨hfz118_0, hfz118_1, hfz118_2, hfz118_3, hfz118_4, hfz118_5, hfz118_6, hfz118_7⟩ := fz8 BK370.out
             go_wp2
             refine bodyPost_ret (results_ct rfl _ _ gb370 29 #[.int .i64 t371, .int .i64 t372, .int .i64 t373, .bool t374, .slice Ao115 x384004_3.length co115, .slice Ao14 t378.length co14, .int .i64 x384006_52, .int .i64 (wrap64 (t382 + t389))] (0, 0) _ rfl (by (with_reducible repeat (first | refine blk_drewN ?_ _ | refine blk_drew ?_ | refine blk_alloc ?_ _)); refine blk_put (cs := #[.int .i64 t371, .int .i64 t372, .int .i64 t373, .bool t374, .slice Ao115 x384004_3.length co115, .slice Ao14 t378.length co14, .int .i64 x384006_52, .int .i64 0]) ?_ 7 _ rfl; (with_reducible repeat (first | refine blk_drewN ?_ _ | refine blk_drew ?_ | refine blk_alloc ?_ _)); refine blk_put (cs := #[.int .i64 t371, .int .i64 t372, .int .i64 t373, .bool t374, .slice Ao115 x384004_3.length co115, .slice Ao14 t378.length co14, .int .i64 0, .int .i64 0]) ?_ 6 _ rfl; (with_reducible repeat (first | refine blk_drewN ?_ _ | refine blk_drew ?_ | refine blk_alloc ?_ _)); refine blk_put (cs := #[.int .i64 t371, .int .i64 t372, .int .i64 t373, .bool t374, .slice Ao115 x384004_3.length co115, .slice none 0 0, .int .i64 0, .int .i64 0]) ?_ 5 _ rfl; (with_reducible repeat (first | refine blk_drewN ?_ _ | refine blk_drew ?_ | refine blk_alloc ?_ _)); refine blk_put (cs := #[.int .i64 t371, .int .i64 t372, .int .i64 t373, .bool t374, .slice none 0 0, .slice none 0 0, .int .i64 0, .int .i64 0]) ?_ 4 _ rfl; (with_reducible repeat (first | refine blk_drewN ?_ _ | refine blk_drew ?_ | refine blk_alloc ?_ _)); refine blk_put (cs := #[.int .i64 t371, .int .i64 t372, .int .i64 t373, .bool false, .slice none 0 0, .slice none 0 0, .int .i64 0, .int .i64 0]) ?_ 3 _ rfl; (with_reducible repeat (first | refine blk_drewN ?_ _ | refine blk_drew ?_ | refine blk_alloc ?_ _)); refine blk_put (cs := #[.int .i64 t371, .int .i64 t372, .int .i64 0, .bool false, .slice none 0 0, .slice none 0 0, .int .i64 0, .int .i64 0]) ?_ 2 _ rfl; (with_reducible repeat (first | refine blk_drewN ?_ _ | refine blk_drew ?_ | refine blk_alloc ?_ _)); refine blk_put (cs := #[.int .i64 t371, .int .i64 0, .int .i64 0, .bool false, .slice none 0 0, .slice none 0 0, .int .i64 0, .int .i64 0]) ?_ 1 _ rfl; (with_reducible repeat (first | refine blk_drewN ?_ _ | refine blk_drew ?_ | refine blk_alloc ?_ _)); refine blk_put (cs := #[.int .i64 0, .int .i64 0, .int .i64 0, .bool false, .slice none 0 0, .slice none 0 0, .int .i64 0, .int .i64 0]) ?_ 0 _ rfl; (with_reducible repeat (first | refine blk_drewN ?_ _ | refine blk_drew ?_ | refine blk_alloc ?_ _)); refine blk_far ?_ NB370_383.out _; (with_reducible repeat (first | refine blk_drewN ?_ _ | refine blk_drew ?_ | refine blk_alloc ?_ _)); exact BK370.out) Try.underlying29 rfl (by kernel_rfl)) rfl ?_
             exact ⟨_, _, by first | rfl | (simp [errW_none, errW_some] <;> rfl) | (simp [*, errW_none, errW_some] <;> rfl), by (with_reducible repeat (first | apply Kd.R_alloc | apply Kd.R_drewN | apply Kd.R_drew)); exact Kd.R_mono (Go.Proofs.YtahfemlfdpbkkaaV.R_far8 (g := gb370) (Kd.R_far (p := ⟨gb383, 7, none⟩) (Kd.R_types (Kd.R_types HO_384004.out BK383.out (by decide)) BK370.out (by decide)) (fun _ hk => hk.1.2) (.int .i64 (wrap64 (t382 + t389)))) (fun _ hk => hk.2)) (fun _ hk => hk.1.1), by (with_reducible repeat (first | apply Kd.R_alloc | apply Kd.R_drewN | apply Kd.R_drew)); exact Kd.R_mono (Go.Proofs.YtahfemlfdpbkkaaV.R_far8 (g := gb370) (Kd.R_far (p := ⟨gb383, 7, none⟩) (Kd.R_types (Kd.R_types HO_384005.out BK383.out (by decide)) BK370.out (by decide)) (fun _ hk => hk.1.2) (.int .i64 (wrap64 (t382 + t389)))) (fun _ hk => hk.2)) (fun _ hk => hk.1.1), qB HB⟩
      ·
       rw [if_neg c52] at H
       have c52b0 : (t390 == 0) = false := beq_eq_false_iff_ne.mpr c52
       have c52b1 : (t390 != 0) = true := bne_iff_ne.mpr c52
       (first | rw [c52b0] | (simp only [i64_w, i32_w]; rw [c52b0]) | skip)
       simp only [Option.some.injEq, Prod.mk.injEq] at H
       obtain ⟨rfl, rfl, rfl, rfl, rfl, rfl, rfl, rfl, rfl⟩ := H
       have hnb119 := NB383_369.out
       have hnc119 := NB369_383.out
       have hnb120 := NB383_370.out
       have hnc120 := NB370_383.out
       have hnb121 := NB383_391.out
       have hnc121 := NB391_383.out
       obtain ⟨hcz122_0, hcz122_1, hcz122_2, hcz122_3, hcz122_4, hcz122_5, hcz122_6, hcz122_7⟩ := cz8 BK383.out
       obtain ⟨hfz122_0, hfz122_1, hfz122_2, hfz122_3, hfz122_4, hfz122_5, hfz122_6, hfz122_7⟩ := fz8 BK383.out
       have hnb123 := NB370_369.out
       have hnc123 := NB369_370.out
       have hnb124 := NB370_391.out
       have hnc124 := NB391_370.out
       obtain ⟨hcz125_0, hcz125_1, hcz125_2, hcz125_3, hcz125_4, hcz125_5, hcz125_6, hcz125_7⟩ := cz8 BK370.out
       obtain ⟨hfz125_0, hfz125_1, hfz125_2, hfz125_3, hfz125_4, hfz125_5, hfz125_6, hfz125_7⟩ := fz8 BK370.out
       go_wp2
       refine bodyPost_ret (results_ct rfl _ _ gb370 29 #[.int .i64 t371, .int .i64 t372, .int .i64 t373, .bool t374, .slice Ao13 t375.length co13, .slice Ao14 t378.length co14, .int .i64 t381, .int .i64 t382] (0, 0) _ rfl (by (with_reducible repeat (first | refine blk_drewN ?_ _ | refine blk_drew ?_ | refine blk_alloc ?_ _)); refine blk_put (cs := #[.int .i64 t371, .int .i64 t372, .int .i64 t373, .bool t374, .slice Ao13 t375.length co13, .slice Ao14 t378.length co14, .int .i64 t381, .int .i64 0]) ?_ 7 _ rfl; (with_reducible repeat (first | refine blk_drewN ?_ _ | refine blk_drew ?_ | refine blk_alloc ?_ _)); refine blk_put (cs := #[.int .i64 t371, .int .i64 t372, .int .i64 t373, .bool t374, .slice Ao13 t375.length co13, .slice Ao14 t378.length co14, .int .i64 0, .int .i64 0]) ?_ 6 _ rfl; (with_reducible repeat (first | refine blk_drewN ?_ _ | refine blk_drew ?_ | refine blk_alloc ?_ _)); refine blk_put (cs := #[.int .i64 t371, .int .i64 t372, .int .i64 t373, .bool t374, .slice Ao13 t375.length co13, .slice none 0 0, .int .i64 0, .int .i64 0]) ?_ 5 _ rfl; (with_reducible repeat (first | refine blk_drewN ?_ _ | refine blk_drew ?_ | refine blk_alloc ?_ _)); refine blk_put (cs := #[.int .i64 t371, .int .i64 t372, .int .i64 t373, .bool t374, .slice none 0 0, .slice none 0 0, .int .i64 0, .int .i64 0]) ?_ 4 _ rfl; (with_reducible repeat (first | refine blk_drewN ?_ _ | refine blk_drew ?_ | refine blk_alloc ?_ _)); refine blk_put (cs := #[.int .i64 t371, .int .i64 t372, .int .i64 t373, .bool false, .slice none 0 0, .slice none 0 0, .int .i64 0, .int .i64 0]) ?_ 3 _ rfl; (with_reducible repeat (first | refine blk_drewN ?_ _ | refine blk_drew ?_ | refine blk_alloc ?_ _)); refine blk_put (cs := #[.int .i64 t371, .int .i64 t372, .int .i64 0, .bool false, .slice none 0 0, .slice none 0 0, .int .i64 0, .int .i64 0]) ?_ 2 _ rfl; (with_reducible repeat (first | refine blk_drewN ?_ _ | refine blk_drew ?_ | refine blk_alloc ?_ _)); refine blk_put (cs := #[.int .i64 t371, .int .i64 0, .int .i64 0, .bool false, .slice none 0 0, .slice none 0 0, .int .i64 0, .int .i64 0]) ?_ 1 _ rfl; (with_reducible repeat (first | refine blk_drewN ?_ _ | refine blk_drew ?_ | refine blk_alloc ?_ _)); refine blk_put (cs := #[.int .i64 0, .int .i64 0, .int .i64 0, .bool false, .slice none 0 0, .slice none 0 0, .int .i64 0, .int .i64 0]) ?_ 0 _ rfl; (with_reducible repeat (first | refine blk_drewN ?_ _ | refine blk_drew ?_ | refine blk_alloc ?_ _)); refine blk_far ?_ NB370_391.out _; (with_reducible repeat (first | refine blk_drewN ?_ _ | refine blk_drew ?_ | refine blk_alloc ?_ _)); refine blk_far ?_ NB370_391.out _; (with_reducible repeat (first | refine blk_drewN ?_ _ | refine blk_drew ?_ | refine blk_alloc ?_ _)); refine blk_far ?_ NB370_391.out _; (with_reducible repeat (first | refine blk_drewN ?_ _ | refine blk_drew ?_ | refine blk_alloc ?_ _)); exact BK370.out) Try.underlying29 rfl (by kernel_rfl)) rfl ?_
       exact ⟨_, _, by first | rfl | (simp [errW_none, errW_some] <;> rfl) | (simp [*, errW_none, errW_some] <;> rfl), by (with_reducible repeat (first | apply Kd.R_alloc | apply Kd.R_drewN | apply Kd.R_drew)); exact Kd.R_mono (Go.Proofs.YtahfemlfdpbkkaaV.R_far8 (g := gb370) (Go.Proofs.YtahfemlfdpbkkaaV.R_far3 (g := gb391) (Kd.R_types (Kd.R_types HO_384004.out BK391.out (by decide)) BK370.out (by decide)) (fun _ hk => hk.1.2)) (fun _ hk => hk.2)) (fun _ hk => hk.1.1), by (with_reducible repeat (first | apply Kd.R_alloc | apply Kd.R_drewN | apply Kd.R_drew)); exact Kd.R_mono (Go.Proofs.YtahfemlfdpbkkaaV.R_far8 (g := gb370) (Go.Proofs.YtahfemlfdpbkkaaV.R_far3 (g := gb391) (Kd.R_types (Kd.R_types HO_384005.out BK391.out (by decide)) BK370.out (by decide)) (fun _ hk => hk.1.2)) (fun _ hk => hk.2)) (fun _ hk => hk.1.1), qB HB⟩
     ·
      rw [if_neg c39] at H
      exact absurd H (by simp)
    ·
     rw [if_neg c38] at H
     exact absurd H (by simp)

end Go.Proofs.Ytahfemlfdpbkkaa.PFnExactAnswer
