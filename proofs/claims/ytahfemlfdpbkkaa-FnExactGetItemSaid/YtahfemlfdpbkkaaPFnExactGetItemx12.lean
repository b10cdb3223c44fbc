-- Written by a program of this session (myprint.py, over the kit's print): contracts of FnExactGetItem
import Derived.Test.YtahfemlfdpbkkaaPFnExactGetItemx0
import Derived.Test.YtahfemlfdpbkkaaPFnExactGetItemx1
import Derived.Test.YtahfemlfdpbkkaaPFnExactGetItemx2
import Derived.Test.YtahfemlfdpbkkaaPFnExactGetItemx9
import Derived.Test.YtahfemlfdpbkkaaPFnExactGetItemx10
import Derived.Test.YtahfemlfdpbkkaaPFnExactGetItemx11
namespace Go.Proofs.Ytahfemlfdpbkkaa.PFnExactGetItem
open Go.RowKit Go.Proofs.YtahfemlfdpbkkaaW.PrintWords Go.Proofs.YtahfemlfdpbkkaaW.PrintLast Go.Proofs.YtahfemlfdpbkkaaW.PrintMore Go.Proofs.YtahfemlfdpbkkaaV
attribute [local go_sem] max2_int min2_int max_two min_two max_three min_three max_four min_four   -- for this text's walks alone
set_option linter.unusedVariables false
set_option linter.unusedSimpArgs false

attribute [local go_sem high] eqA45 eqA46
/-! ### impl_PutItem: function 27 -/
mutual
def impl_PutItem.j0 : Nat → List Int → Bool → Int → Int → ByteArray → Int → Int → Int → ByteArray → Int → Int → Int → ByteArray → Int → Int → Int → Int → Int → Option (List Int)
 | 0, _, _, _, _, _, _, _, _, _, _, _, _, _, _, _, _, _, _ => none
 | k + 1, x3, x8, x357000, x357001, x357002, x357003, x357004, x357005, x357006, x357007, x357008, x357009, x357010, x357011, x357012, x357013, x357014, x357015 => if x8 = true then ((impl_PutWord.f x3 x357001).bind fun t362 => ((some (([(x357003) % 256] : List Int) : List Int)).bind fun y365 => (if t362.length + y365.length < 140737488355328 then ((impl_PutText.f k (t362 ++ y365) x357002).bind fun t371 => ((impl_PutWord.f t371 x357004).bind fun t374 => ((impl_putSince.f t374 x357005).bind fun t377 => ((impl_PutText.f k t377 x357006).bind fun t380 => ((impl_PutWord.f t380 x357007).bind fun t383 => ((impl_PutWord.f t383 x357008).bind fun t386 => (some t386))))))) else (none)))) else (if x357000 = 2 then ((impl_LineOk.f k x357009 x357010 x357011 x357012 x357013 x357014 x357015).bind fun t389 => (if t389 = true then (if (x357001 == 0 && (x357002.toList == ([] : List UInt8) && (x357003 == 0 && (x357004 == 0 && (x357005 == 0 && (x357006.toList == ([] : List UInt8) && (x357007 == 0 && (x357008 == 0)))))))) = true then ((impl_wordOk.f x357015).bind fun t390 => (impl_PutItem.j1 k x3 t390 x357000 x357001 x357002 x357003 x357004 x357005 x357006 x357007 x357008 x357009 x357010 x357011 x357012 x357013 x357014 x357015)) else (impl_PutItem.j1 k x3 false x357000 x357001 x357002 x357003 x357004 x357005 x357006 x357007 x357008 x357009 x357010 x357011 x357012 x357013 x357014 x357015)) else (impl_PutItem.j1 k x3 false x357000 x357001 x357002 x357003 x357004 x357005 x357006 x357007 x357008 x357009 x357010 x357011 x357012 x357013 x357014 x357015))) else (impl_PutItem.j1 k x3 false x357000 x357001 x357002 x357003 x357004 x357005 x357006 x357007 x357008 x357009 x357010 x357011 x357012 x357013 x357014 x357015))
def impl_PutItem.j1 : Nat → List Int → Bool → Int → Int → ByteArray → Int → Int → Int → ByteArray → Int → Int → Int → ByteArray → Int → Int → Int → Int → Int → Option (List Int)
 | 0, _, _, _, _, _, _, _, _, _, _, _, _, _, _, _, _, _, _ => none
 | k + 1, x3, x66, x357000, x357001, x357002, x357003, x357004, x357005, x357006, x357007, x357008, x357009, x357010, x357011, x357012, x357013, x357014, x357015 => if x66 = true then ((impl_PutWord.f x3 x357009).bind fun t391 => ((some (([(x357012) % 256] : List Int) : List Int)).bind fun y394 => (if t391.length + y394.length < 140737488355328 then ((impl_PutText.f k (t391 ++ y394) x357010).bind fun t400 => ((impl_PutWord.f t400 x357011).bind fun t403 => ((impl_putSince.f t403 x357013).bind fun t406 => ((impl_PutWord.f t406 x357014).bind fun t409 => ((impl_PutWord.f t409 x357015).bind fun t412 => (some t412)))))) else (none)))) else (some (([] : List Int)))
end
def impl_PutItem.f (k : Nat) (a0_0 : Int) (a0_1 : Int) (a0_2 : ByteArray) (a0_3 : Int) (a0_4 : Int) (a0_5 : Int) (a0_6 : ByteArray) (a0_7 : Int) (a0_8 : Int) (a0_9 : Int) (a0_10 : ByteArray) (a0_11 : Int) (a0_12 : Int) (a0_13 : Int) (a0_14 : Int) (a0_15 : Int) : Option (List Int) := (some (([(a0_0) % 256] : List Int) : List Int)).bind fun y357 => (if a0_0 = 1 then ((impl_AskerOk.f k a0_1 a0_2 a0_3 a0_4 a0_5 a0_6 a0_7 a0_8).bind fun t360 => (if t360 = true then (if (a0_9 == 0 && (a0_10.toList == ([] : List UInt8) && (a0_11 == 0 && (a0_12 == 0 && (a0_13 == 0 && (a0_14 == 0 && (a0_15 == 0))))))) = true then ((impl_wordOk.f a0_8).bind fun t361 => (impl_PutItem.j0 k y357 t361 a0_0 a0_1 a0_2 a0_3 a0_4 a0_5 a0_6 a0_7 a0_8 a0_9 a0_10 a0_11 a0_12 a0_13 a0_14 a0_15)) else (impl_PutItem.j0 k y357 false a0_0 a0_1 a0_2 a0_3 a0_4 a0_5 a0_6 a0_7 a0_8 a0_9 a0_10 a0_11 a0_12 a0_13 a0_14 a0_15)) else (impl_PutItem.j0 k y357 false a0_0 a0_1 a0_2 a0_3 a0_4 a0_5 a0_6 a0_7 a0_8 a0_9 a0_10 a0_11 a0_12 a0_13 a0_14 a0_15))) else (impl_PutItem.j0 k y357 false a0_0 a0_1 a0_2 a0_3 a0_4 a0_5 a0_6 a0_7 a0_8 a0_9 a0_10 a0_11 a0_12 a0_13 a0_14 a0_15))
theorem impl_PutItem.mono_l : ∀ k, (∀ y0 y1 y2 y3 y4 y5 y6 y7 y8 y9 y10 y11 y12 y13 y14 y15 y16 y17, LeO (impl_PutItem.j0 k y0 y1 y2 y3 y4 y5 y6 y7 y8 y9 y10 y11 y12 y13 y14 y15 y16 y17) (impl_PutItem.j0 (k + 1) y0 y1 y2 y3 y4 y5 y6 y7 y8 y9 y10 y11 y12 y13 y14 y15 y16 y17)) ∧ (∀ y0 y1 y2 y3 y4 y5 y6 y7 y8 y9 y10 y11 y12 y13 y14 y15 y16 y17, LeO (impl_PutItem.j1 k y0 y1 y2 y3 y4 y5 y6 y7 y8 y9 y10 y11 y12 y13 y14 y15 y16 y17) (impl_PutItem.j1 (k + 1) y0 y1 y2 y3 y4 y5 y6 y7 y8 y9 y10 y11 y12 y13 y14 y15 y16 y17))
 | 0 => ⟨fun _ _ _ _ _ _ _ _ _ _ _ _ _ _ _ _ _ _ r h => by simp [impl_PutItem.j0] at h, fun _ _ _ _ _ _ _ _ _ _ _ _ _ _ _ _ _ _ r h => by simp [impl_PutItem.j1] at h⟩
 | k + 1 => by
  obtain ⟨ih0, ih1⟩ := impl_PutItem.mono_l k
  refine ⟨?_, ?_⟩
  ·
   intro y0 y1 y2 y3 y4 y5 y6 y7 y8 y9 y10 y11 y12 y13 y14 y15 y16 y17
   unfold impl_PutItem.j0
   repeat' first
   | (with_reducible exact ih0 _ _ _ _ _ _ _ _ _ _ _ _ _ _ _ _ _ _)
   | (with_reducible exact ih1 _ _ _ _ _ _ _ _ _ _ _ _ _ _ _ _ _ _)
   | (with_reducible exact impl_AskerOk.mono _ _ _ _ _ _ _ _ _)
   | (with_reducible exact impl_LineOk.mono _ _ _ _ _ _ _ _)
   | (with_reducible exact impl_PutText.mono _ _ _)
   | (with_reducible exact LeO.refl _)
   | (with_reducible exact LeO.none _)
   | (with_reducible refine LeO.ite ?_ ?_)
   | (with_reducible refine LeO.bind ?_ (fun _ => ?_))
   | exact ih0 _ _ _ _ _ _ _ _ _ _ _ _ _ _ _ _ _ _
   | exact ih1 _ _ _ _ _ _ _ _ _ _ _ _ _ _ _ _ _ _
   | exact impl_AskerOk.mono _ _ _ _ _ _ _ _ _
   | exact impl_LineOk.mono _ _ _ _ _ _ _ _
   | exact impl_PutText.mono _ _ _
   | exact LeO.none _
   | refine LeO.ite ?_ ?_
   | refine LeO.bind ?_ (fun _ => ?_)
  ·
   intro y0 y1 y2 y3 y4 y5 y6 y7 y8 y9 y10 y11 y12 y13 y14 y15 y16 y17
   unfold impl_PutItem.j1
   repeat' first
   | (with_reducible exact ih0 _ _ _ _ _ _ _ _ _ _ _ _ _ _ _ _ _ _)
   | (with_reducible exact ih1 _ _ _ _ _ _ _ _ _ _ _ _ _ _ _ _ _ _)
   | (with_reducible exact impl_AskerOk.mono _ _ _ _ _ _ _ _ _)
   | (with_reducible exact impl_LineOk.mono _ _ _ _ _ _ _ _)
   | (with_reducible exact impl_PutText.mono _ _ _)
   | (with_reducible exact LeO.refl _)
   | (with_reducible exact LeO.none _)
   | (with_reducible refine LeO.ite ?_ ?_)
   | (with_reducible refine LeO.bind ?_ (fun _ => ?_))
   | exact ih0 _ _ _ _ _ _ _ _ _ _ _ _ _ _ _ _ _ _
   | exact ih1 _ _ _ _ _ _ _ _ _ _ _ _ _ _ _ _ _ _
   | exact impl_AskerOk.mono _ _ _ _ _ _ _ _ _
   | exact impl_LineOk.mono _ _ _ _ _ _ _ _
   | exact impl_PutText.mono _ _ _
   | exact LeO.none _
   | refine LeO.ite ?_ ?_
   | refine LeO.bind ?_ (fun _ => ?_)
theorem impl_PutItem.mono : ∀ a0 a1 a2 a3 a4 a5 a6 a7 a8 a9 a10 a11 a12 a13 a14 a15 k, LeO (impl_PutItem.f k a0 a1 a2 a3 a4 a5 a6 a7 a8 a9 a10 a11 a12 a13 a14 a15) (impl_PutItem.f (k + 1) a0 a1 a2 a3 a4 a5 a6 a7 a8 a9 a10 a11 a12 a13 a14 a15) := by
 intro a0 a1 a2 a3 a4 a5 a6 a7 a8 a9 a10 a11 a12 a13 a14 a15 k
 obtain ⟨ih0, ih1⟩ := impl_PutItem.mono_l k
 unfold impl_PutItem.f
 repeat' first
   | (with_reducible exact ih0 _ _ _ _ _ _ _ _ _ _ _ _ _ _ _ _ _ _)
   | (with_reducible exact ih1 _ _ _ _ _ _ _ _ _ _ _ _ _ _ _ _ _ _)
   | (with_reducible exact impl_AskerOk.mono _ _ _ _ _ _ _ _ _)
   | (with_reducible exact impl_LineOk.mono _ _ _ _ _ _ _ _)
   | (with_reducible exact impl_PutText.mono _ _ _)
   | (with_reducible exact LeO.refl _)
   | (with_reducible exact LeO.none _)
   | (with_reducible refine LeO.ite ?_ ?_)
   | (with_reducible refine LeO.bind ?_ (fun _ => ?_))
   | exact ih0 _ _ _ _ _ _ _ _ _ _ _ _ _ _ _ _ _ _
   | exact ih1 _ _ _ _ _ _ _ _ _ _ _ _ _ _ _ _ _ _
   | exact impl_AskerOk.mono _ _ _ _ _ _ _ _ _
   | exact impl_LineOk.mono _ _ _ _ _ _ _ _
   | exact impl_PutText.mono _ _ _
   | exact LeO.none _
   | refine LeO.ite ?_ ?_
   | refine LeO.bind ?_ (fun _ => ?_)
def impl_PutItem.T3 : Bool × List (List Nat × List Nat) := (true, [([], []), ([], []), ([1], [1]), ([2], [2]), ([0, 3], [0, 3]), ([], []), ([5], [5]), ([6], [6]), ([7], [7]), ([8], [8]), ([4, 9, 4], [4, 9]), ([], []), ([11], [11]), ([12], [12]), ([10, 13, 10], [10, 13]), ([14, 14, 0, 1, 2, 3, 4, 5, 6, 7, 8, 9, 10, 11, 12, 13, 14], [0, 14])])
def impl_PutItem.B3 : List Nat := [0, 0, 2, 6, 15, 0, 32, 96, 224, 480, 1023, 0, 2048, 6144, 16383, 32767]
theorem impl_PutItem.tab3 : rtab .any (opsOf Try.f27 3) = impl_PutItem.T3 := by kernel_rfl
theorem impl_PutItem.bits3 : waitsOk impl_PutItem.T3.2 impl_PutItem.B3 = true := by kernel_rfl
def impl_PutItem.T4 : Bool × List (List Nat × List Nat) := (true, [([], []), ([], []), ([1], [1]), ([2], [2]), ([0, 3], [0, 3]), ([], []), ([5], [5]), ([6], [6]), ([4, 7, 4], [4, 7]), ([], []), ([9], [9]), ([10], [10]), ([8, 11, 8], [8, 11]), ([12, 12, 0, 1, 2, 3, 4, 5, 6, 7, 8, 9, 10, 11, 12], [0, 12])])
def impl_PutItem.B4 : List Nat := [0, 0, 2, 6, 15, 0, 32, 96, 255, 0, 512, 1536, 4095, 8191]
theorem impl_PutItem.tab4 : rtab .any (opsOf Try.f27 4) = impl_PutItem.T4 := by kernel_rfl
theorem impl_PutItem.bits4 : waitsOk impl_PutItem.T4.2 impl_PutItem.B4 = true := by kernel_rfl
def impl_PutItem.T5 : Bool × List (List Nat × List Nat) := (true, [([], []), ([], []), ([1], [1]), ([2], [2]), ([0, 3], [0, 3]), ([], []), ([5], [5]), ([6], [6]), ([4, 7, 4], [4, 7]), ([8, 8, 0, 1, 2, 3, 4, 5, 6, 7, 8], [8])])
def impl_PutItem.B5 : List Nat := [0, 0, 2, 6, 15, 0, 32, 96, 255, 511]
theorem impl_PutItem.tab5 : rtab .any (opsOf Try.f27 5) = impl_PutItem.T5 := by kernel_rfl
theorem impl_PutItem.bits5 : waitsOk impl_PutItem.T5.2 impl_PutItem.B5 = true := by kernel_rfl
def impl_PutItem.T7 : Bool × List (List Nat × List Nat) := (true, [([], []), ([], []), ([1], [1]), ([2], [2]), ([0, 3], [0, 3]), ([], []), ([5], [5]), ([6], [6]), ([7], [7]), ([8], [8]), ([4, 9, 4], [4, 9]), ([], []), ([11], [11]), ([12], [12]), ([10, 13, 10], [10, 13]), ([14, 14, 0, 1, 2, 3, 4, 5, 6, 7, 8, 9, 10, 11, 12, 13, 14], [0, 14])])
def impl_PutItem.B7 : List Nat := [0, 0, 2, 6, 15, 0, 32, 96, 224, 480, 1023, 0, 2048, 6144, 16383, 32767]
theorem impl_PutItem.tab7 : rtab .any (opsOf Try.f27 7) = impl_PutItem.T7 := by kernel_rfl
theorem impl_PutItem.bits7 : waitsOk impl_PutItem.T7.2 impl_PutItem.B7 = true := by kernel_rfl
def impl_PutItem.T8 : Bool × List (List Nat × List Nat) := (true, [([], []), ([], []), ([1], [1]), ([2], [2]), ([0, 3], [0, 3]), ([], []), ([5], [5]), ([6], [6]), ([4, 7, 4], [4, 7]), ([8, 8, 0, 1, 2, 3, 4, 5, 6, 7, 8], [0, 8])])
def impl_PutItem.B8 : List Nat := [0, 0, 2, 6, 15, 0, 32, 96, 255, 511]
theorem impl_PutItem.tab8 : rtab .any (opsOf Try.f27 8) = impl_PutItem.T8 := by kernel_rfl
theorem impl_PutItem.bits8 : waitsOk impl_PutItem.T8.2 impl_PutItem.B8 = true := by kernel_rfl
def impl_PutItem.T9 : Bool × List (List Nat × List Nat) := (true, [([], []), ([], []), ([1], [1]), ([2], [2]), ([0, 3], [0, 3]), ([], []), ([5], [5]), ([6], [6]), ([4, 7, 4], [4, 7]), ([8, 8, 0, 1, 2, 3, 4, 5, 6, 7, 8], [8])])
def impl_PutItem.B9 : List Nat := [0, 0, 2, 6, 15, 0, 32, 96, 255, 511]
theorem impl_PutItem.tab9 : rtab .any (opsOf Try.f27 9) = impl_PutItem.T9 := by kernel_rfl
theorem impl_PutItem.bits9 : waitsOk impl_PutItem.T9.2 impl_PutItem.B9 = true := by kernel_rfl
set_option maxHeartbeats 8000000 in
set_option maxRecDepth 100000 in
theorem impl_PutItem.calls (k : Nat) (a0_0 : Int) (a0_1 : Int) (a0_2 : ByteArray) (a0_3 : Int) (a0_4 : Int) (a0_5 : Int) (a0_6 : ByteArray) (a0_7 : Int) (a0_8 : Int) (a0_9 : Int) (a0_10 : ByteArray) (a0_11 : Int) (a0_12 : Int) (a0_13 : Int) (a0_14 : Int) (a0_15 : Int) (r : List Int) (w : World) (h : impl_PutItem.f k a0_0 a0_1 a0_2 a0_3 a0_4 a0_5 a0_6 a0_7 a0_8 a0_9 a0_10 a0_11 a0_12 a0_13 a0_14 a0_15 = some r) :
  Calls Try.prog 27 #[.agg #[.int .i64 a0_0, .int .i64 a0_1, .string a0_2, .int .i64 a0_3, .int .i64 a0_4, .int .i64 a0_5, .string a0_6, .int .i64 a0_7, .int .i64 a0_8, .int .i64 a0_9, .string a0_10, .int .i64 a0_11, .int .i64 a0_12, .int .i64 a0_13, .int .i64 a0_14, .int .i64 a0_15]] w fun e w' => ∃ v0_ : Value, e = .returned (v0_) ∧ Kd.R (Kd.int .u8) 5 w' w.heap.size (fun _ => True) v0_ r ∧ Below w.heap.size w w' := by
 have hu48 := Try.underlying48
 have hu45 := Try.underlying45
 have hu46 := Try.underlying46
 have HB := Aside0.mk (Below.refl w.heap.size w)
 have H : ((some (([(a0_0) % 256] : List Int) : List Int)).bind fun y357 => (if a0_0 = 1 then ((impl_AskerOk.f k a0_1 a0_2 a0_3 a0_4 a0_5 a0_6 a0_7 a0_8).bind fun t360 => (if t360 = true then (if (a0_9 == 0 && (a0_10.toList == ([] : List UInt8) && (a0_11 == 0 && (a0_12 == 0 && (a0_13 == 0 && (a0_14 == 0 && (a0_15 == 0))))))) = true then ((impl_wordOk.f a0_8).bind fun t361 => (impl_PutItem.j0 k y357 t361 a0_0 a0_1 a0_2 a0_3 a0_4 a0_5 a0_6 a0_7 a0_8 a0_9 a0_10 a0_11 a0_12 a0_13 a0_14 a0_15)) else (impl_PutItem.j0 k y357 false a0_0 a0_1 a0_2 a0_3 a0_4 a0_5 a0_6 a0_7 a0_8 a0_9 a0_10 a0_11 a0_12 a0_13 a0_14 a0_15)) else (impl_PutItem.j0 k y357 false a0_0 a0_1 a0_2 a0_3 a0_4 a0_5 a0_6 a0_7 a0_8 a0_9 a0_10 a0_11 a0_12 a0_13 a0_14 a0_15))) else (impl_PutItem.j0 k y357 false a0_0 a0_1 a0_2 a0_3 a0_4 a0_5 a0_6 a0_7 a0_8 a0_9 a0_10 a0_11 a0_12 a0_13 a0_14 a0_15))) = some r := h
 clear h
 obtain ⟨y357, hy357⟩ : ∃ y_ : List Int, y_ = (([(a0_0) % 256] : List Int)) := ⟨_, rfl⟩
 replace H := mk_ H hy357
 (try dsimp only at H)
 have Ny357 := Aside0.mk hy357
 clear hy357
 have HC2 := Aside0.mk H
 clear H
 go_enter Try.func27, Try.ntmps27
 go_upto_region 2 with (first | ((with_reducible refine gate_dst (N := 1) rfl ?_); refine box_event ?hg (N := 1) ?hd (cs := #[.int .i64 a0_0, .int .i64 a0_1, .string a0_2, .int .i64 a0_3, .int .i64 a0_4, .int .i64 a0_5, .string a0_6, .int .i64 a0_7, .int .i64 a0_8, .int .i64 a0_9, .string a0_10, .int .i64 a0_11, .int .i64 a0_12, .int .i64 a0_13, .int .i64 a0_14, .int .i64 a0_15]) (t := 48) ?hr ?_; (case hd => rfl); (case hg => rfl); (case hr => first | (go_simp; done) | (go_simp; rfl)); intro gb356 hg w3 hbox hb; have BK356 := am_ (hbox); have GW356 := am_ ((gG_ hg (qB HB))); have IGW356 := gI_ GW356; have GE356 := am_ ((gG_ hg (qB HB))); have IGE356 := gI_ GE356; replace HB := am_ (below_step (qB HB) hb); clear hb hbox hg; obtain ⟨z4_0, z4_1, z4_2, z4_3, z4_4, z4_5, z4_6, z4_7, z4_8, z4_9, z4_10, z4_11, z4_12, z4_13, z4_14, z4_15⟩ := cz16 BK356.out; obtain ⟨f4_0, f4_1, f4_2, f4_3, f4_4, f4_5, f4_6, f4_7, f4_8, f4_9, f4_10, f4_11, f4_12, f4_13, f4_14, f4_15⟩ := fz16 BK356.out) | ((with_reducible refine gate_dst (N := 7) rfl ?_); refine Kd.R_lit (Kd.int .u8) _ 5 ?hg (N := 7) ?hd (xs := ([(a0_0) % 256] : List Int)) (inner := [.int .u8 ((a0_0) % 256)]) (ok := fun _ => True) (okp := fun _ => True) ?hr ?hp (fun _ hk => hk) trivial (Below.refl _ _) (Nat.le_refl _) (by simp) ?_; (case hd => rfl); (case hg => rfl); (case hr => first | (go_simp; done) | (go_simp; rfl)); (case hp => exact (Reps.one (show Kd.M (Kd.int .u8) _ _ _ ((a0_0) % 256) [.int .u8 ((a0_0) % 256)] from rfl) (Reps.none _ _))); intro v358 w5 ho6 hb hg_ hnew_; clear hg_ hnew_; (first | rw [← Ny357.out] at ho6 | (simp only [Int.reduceToNat] at ho6; rw [← Ny357.out] at ho6)); have HO359 := am_ (Kd.R_lower ho6 (below_size (qB HB))); replace BK356 := am_ (blk_below (qK BK356) hb); replace HB := am_ (below_step (qB HB) hb); clear hb ho6))
 (try simp only [Act.put, List.setIfInBounds_toArray, List.set_cons_zero, List.set_cons_succ])
 go_cut [8] (fun v8 wc => ∃ (kq : Nat) (x8_1 : Bool), v8 = .bool x8_1 ∧ Aside0 (impl_PutItem.j0 kq y357 x8_1 a0_0 a0_1 a0_2 a0_3 a0_4 a0_5 a0_6 a0_7 a0_8 a0_9 a0_10 a0_11 a0_12 a0_13 a0_14 a0_15 = some r) ∧ Aside0 (kq ≤ k) ∧ Aside0 (Kd.R (Kd.int .u8) 5 wc w.heap.size (fun _ => True) v358 y357) ∧ Aside0 (wc.heap[gb356]? = some (.cells #[.int .i64 a0_0, .int .i64 a0_1, .string a0_2, .int .i64 a0_3, .int .i64 a0_4, .int .i64 a0_5, .string a0_6, .int .i64 a0_7, .int .i64 a0_8, .int .i64 a0_9, .string a0_10, .int .i64 a0_11, .int .i64 a0_12, .int .i64 a0_13, .int .i64 a0_14, .int .i64 a0_15] 48 (0, 0))) ∧ Aside0 (Below w.heap.size w wc))
 case first =>
  have H := HC2.out
  clear HC2
  by_cases c7 : a0_0 = 1
  ·
   rw [if_pos c7] at H
   have c7b0 : (a0_0 == 1) = true := beq_iff_eq.mpr c7
   have c7b1 : (a0_0 != 1) = false := bne_eq_false_iff_eq.mpr c7
   clear c7
   (first | rw [c7b0] | rw [c7b1] | (simp only [i64_w, i32_w]; rw [c7b0]) | skip)
   obtain ⟨t360, A8, H⟩ := bd_ H
   by_cases c9 : t360 = true
   ·
    subst c9
    rw [if_pos rfl] at H
    by_cases c10 : (a0_9 == 0 && (a0_10.toList == ([] : List UInt8) && (a0_11 == 0 && (a0_12 == 0 && (a0_13 == 0 && (a0_14 == 0 && (a0_15 == 0))))))) = true
    ·
     rw [if_pos c10] at H
     have c10b0 : (a0_9 == 0 && (a0_10.toList == ([] : List UInt8) && (a0_11 == 0 && (a0_12 == 0 && (a0_13 == 0 && (a0_14 == 0 && (a0_15 == 0))))))) = true := c10
     (try (have c10b0e := c10b0; simp only [Go.Proofs.YtahfemlfdpbkkaaV.beq_nil, Go.Proofs.YtahfemlfdpbkkaaV.bne_nil] at c10b0e))
     (try (have c10b1 : decide (a0_9 = 0 && (a0_10.toList == ([] : List UInt8) && (a0_11 == 0 && (a0_12 == 0 && (a0_13 == 0 && (a0_14 == 0 && (a0_15 == 0))))))) = true := by simpa using c10))
     (try (have c10b1e := c10b1; simp only [Go.Proofs.YtahfemlfdpbkkaaV.beq_nil, Go.Proofs.YtahfemlfdpbkkaaV.bne_nil] at c10b1e))
     (try (have c10b2 : (a0_9 == 0 && (a0_10.toList == ([] : List UInt8) && (a0_11 == 0 && (a0_12 == 0 && (a0_13 == 0 && (a0_14 == 0 && (a0_15 == 0))))))) = true := by simpa using c10))
     (try (have c10b2e := c10b2; simp only [Go.Proofs.YtahfemlfdpbkkaaV.beq_nil, Go.Proofs.YtahfemlfdpbkkaaV.bne_nil] at c10b2e))
     clear c10
     obtain ⟨t361, A11, H⟩ := bd_ H
     have H' := Aside0.mk H
     clear H
     obtain ⟨z12_0, z12_1, z12_2, z12_3, z12_4, z12_5, z12_6, z12_7, z12_8, z12_9, z12_10, z12_11, z12_12, z12_13, z12_14, z12_15⟩ := cz16 BK356.out
     obtain ⟨f12_0, f12_1, f12_2, f12_3, f12_4, f12_5, f12_6, f12_7, f12_8, f12_9, f12_10, f12_11, f12_12, f12_13, f12_14, f12_15⟩ := fz16 BK356.out
     go_wp2_with (first | (go_at_call 79; (with_reducible refine (impl_AskerOk.calls k a0_1 a0_2 a0_3 a0_4 a0_5 a0_6 a0_7 a0_8 true _ A8.out).mono ?_); rintro e w13 ⟨rfl, hb⟩; replace HO359 := am_ (Kd.R_below (qR HO359) hb); replace BK356 := am_ (blk_below (qK BK356) hb); replace HB := am_ (below_step (qB HB) hb); (try clear hb); (try clear hb2); (try clear hk); (try clear hi); obtain ⟨z14_0, z14_1, z14_2, z14_3, z14_4, z14_5, z14_6, z14_7, z14_8, z14_9, z14_10, z14_11, z14_12, z14_13, z14_14, z14_15⟩ := cz16 BK356.out; obtain ⟨f14_0, f14_1, f14_2, f14_3, f14_4, f14_5, f14_6, f14_7, f14_8, f14_9, f14_10, f14_11, f14_12, f14_13, f14_14, f14_15⟩ := fz16 BK356.out) | (go_at_call 80; (with_reducible refine (impl_wordOk.calls a0_8 t361 _ A11.out).mono ?_); rintro e w' ⟨rfl, ⟨nd, rfl⟩⟩))
     go_meet
     case rel => exact ⟨_, (t361), eqq_, H', ⟨by first | omega | exact Nat.le_refl _⟩, ⟨qR HO359⟩, ⟨qK BK356⟩, ⟨qB HB⟩⟩
    ·
     rw [if_neg c10] at H
     have c10b0 : (a0_9 == 0 && (a0_10.toList == ([] : List UInt8) && (a0_11 == 0 && (a0_12 == 0 && (a0_13 == 0 && (a0_14 == 0 && (a0_15 == 0))))))) = false := by simpa using c10
     (try (have c10b0e := c10b0; simp only [Go.Proofs.YtahfemlfdpbkkaaV.beq_nil, Go.Proofs.YtahfemlfdpbkkaaV.bne_nil] at c10b0e))
     (try (have c10b1 : decide (a0_9 = 0 && (a0_10.toList == ([] : List UInt8) && (a0_11 == 0 && (a0_12 == 0 && (a0_13 == 0 && (a0_14 == 0 && (a0_15 == 0))))))) = false := by simpa using c10))
     (try (have c10b1e := c10b1; simp only [Go.Proofs.YtahfemlfdpbkkaaV.beq_nil, Go.Proofs.YtahfemlfdpbkkaaV.bne_nil] at c10b1e))
     (try (have c10b2 : (a0_9 == 0 && (a0_10.toList == ([] : List UInt8) && (a0_11 == 0 && (a0_12 == 0 && (a0_13 == 0 && (a0_14 == 0 && (a0_15 == 0))))))) = false := by simpa using c10))
     (try (have c10b2e := c10b2; simp only [Go.Proofs.YtahfemlfdpbkkaaV.beq_nil, Go.Proofs.YtahfemlfdpbkkaaV.bne_nil] at c10b2e))
     (try (have c10b3 : ¬ (a0_9 = 0 && (a0_10.toList == ([] : List UInt8) && (a0_11 == 0 && (a0_12 == 0 && (a0_13 == 0 && (a0_14 == 0 && (a0_15 == 0))))))) := by simpa using c10))
     (try (have c10b3e := c10b3; simp only [Go.Proofs.YtahfemlfdpbkkaaV.beq_nil, Go.Proofs.YtahfemlfdpbkkaaV.bne_nil] at c10b3e))
     clear c10
     have H' := Aside0.mk H
     clear H
     obtain ⟨z15_0, z15_1, z15_2, z15_3, z15_4, z15_5, z15_6, z15_7, z15_8, z15_9, z15_10, z15_11, z15_12, z15_13, z15_14, z15_15⟩ := cz16 BK356.out
     obtain ⟨f15_0, f15_1, f15_2, f15_3, f15_4, f15_5, f15_6, f15_7, f15_8, f15_9, f15_10, f15_11, f15_12, f15_13, f15_14, f15_15⟩ := fz16 BK356.out
     go_wp2_with (first | (go_at_call 79; (with_reducible refine (impl_AskerOk.calls k a0_1 a0_2 a0_3 a0_4 a0_5 a0_6 a0_7 a0_8 true _ A8.out).mono ?_); rintro e w16 ⟨rfl, hb⟩; replace HO359 := am_ (Kd.R_below (qR HO359) hb); replace BK356 := am_ (blk_below (qK BK356) hb); replace HB := am_ (below_step (qB HB) hb); (try clear hb); (try clear hb2); (try clear hk); (try clear hi); obtain ⟨z17_0, z17_1, z17_2, z17_3, z17_4, z17_5, z17_6, z17_7, z17_8, z17_9, z17_10, z17_11, z17_12, z17_13, z17_14, z17_15⟩ := cz16 BK356.out; obtain ⟨f17_0, f17_1, f17_2, f17_3, f17_4, f17_5, f17_6, f17_7, f17_8, f17_9, f17_10, f17_11, f17_12, f17_13, f17_14, f17_15⟩ := fz16 BK356.out))
     go_meet
     case rel => exact ⟨_, (false), eqq_, H', ⟨by first | omega | exact Nat.le_refl _⟩, ⟨qR HO359⟩, ⟨qK BK356⟩, ⟨qB HB⟩⟩
   ·
    replace c9 := Bool.eq_false_iff.mpr c9
    subst c9
    rw [if_neg (show ¬ (false = true) by decide)] at H
    have H' := Aside0.mk H
    clear H
    obtain ⟨z18_0, z18_1, z18_2, z18_3, z18_4, z18_5, z18_6, z18_7, z18_8, z18_9, z18_10, z18_11, z18_12, z18_13, z18_14, z18_15⟩ := cz16 BK356.out
    obtain ⟨f18_0, f18_1, f18_2, f18_3, f18_4, f18_5, f18_6, f18_7, f18_8, f18_9, f18_10, f18_11, f18_12, f18_13, f18_14, f18_15⟩ := fz16 BK356.out
    go_wp2_with (first | (go_at_call 79; (with_reducible refine (impl_AskerOk.calls k a0_1 a0_2 a0_3 a0_4 a0_5 a0_6 a0_7 a0_8 false _ A8.out).mono ?_); rintro e w19 ⟨rfl, hb⟩; replace HO359 := am_ (Kd.R_below (qR HO359) hb); replace BK356 := am_ (blk_below (qK BK356) hb); replace HB := am_ (below_step (qB HB) hb); (try clear hb); (try clear hb2); (try clear hk); (try clear hi)))
    go_meet
    case rel => exact ⟨_, (false), eqq_, H', ⟨by first | omega | exact Nat.le_refl _⟩, ⟨qR HO359⟩, ⟨qK BK356⟩, ⟨qB HB⟩⟩
  ·
   rw [if_neg c7] at H
   have c7b0 : (a0_0 == 1) = false := beq_eq_false_iff_ne.mpr c7
   have c7b1 : (a0_0 != 1) = true := bne_iff_ne.mpr c7
   (first | rw [c7b0] | rw [c7b1] | (simp only [i64_w, i32_w]; rw [c7b0]) | skip)
   have H' := Aside0.mk H
   clear H
   obtain ⟨z20_0, z20_1, z20_2, z20_3, z20_4, z20_5, z20_6, z20_7, z20_8, z20_9, z20_10, z20_11, z20_12, z20_13, z20_14, z20_15⟩ := cz16 BK356.out
   obtain ⟨f20_0, f20_1, f20_2, f20_3, f20_4, f20_5, f20_6, f20_7, f20_8, f20_9, f20_10, f20_11, f20_12, f20_13, f20_14, f20_15⟩ := fz16 BK356.out
   go_wp2
   go_meet
   case rel => exact ⟨_, (false), eqq_, H', ⟨by first | omega | exact Nat.le_refl _⟩, ⟨qR HO359⟩, ⟨qK BK356⟩, ⟨qB HB⟩⟩
 case rest =>
  clear HC2
  try clear c1
  try clear c2
  try clear p2
  try clear c7
  try clear c7b0
  try clear c7b1
  try clear c9
  try clear c10
  try clear c10b0
  try clear c10b1
  try clear c10b2
  (try clear z12_0 z12_1 z12_10 z12_11 z12_12 z12_13 z12_14 z12_15 z12_2 z12_3 z12_4 z12_5 z12_6 z12_7 z12_8 z12_9)
  (try clear z14_0 z14_1 z14_10 z14_11 z14_12 z14_13 z14_14 z14_15 z14_2 z14_3 z14_4 z14_5 z14_6 z14_7 z14_8 z14_9)
  (try clear z15_0 z15_1 z15_10 z15_11 z15_12 z15_13 z15_14 z15_15 z15_2 z15_3 z15_4 z15_5 z15_6 z15_7 z15_8 z15_9)
  (try clear z17_0 z17_1 z17_10 z17_11 z17_12 z17_13 z17_14 z17_15 z17_2 z17_3 z17_4 z17_5 z17_6 z17_7 z17_8 z17_9)
  (try clear z18_0 z18_1 z18_10 z18_11 z18_12 z18_13 z18_14 z18_15 z18_2 z18_3 z18_4 z18_5 z18_6 z18_7 z18_8 z18_9)
  (try clear z20_0 z20_1 z20_10 z20_11 z20_12 z20_13 z20_14 z20_15 z20_2 z20_3 z20_4 z20_5 z20_6 z20_7 z20_8 z20_9)
  (try clear z4_0 z4_1 z4_10 z4_11 z4_12 z4_13 z4_14 z4_15 z4_2 z4_3 z4_4 z4_5 z4_6 z4_7 z4_8 z4_9)
  (try clear f12_0 f12_1 f12_10 f12_11 f12_12 f12_13 f12_14 f12_15 f12_2 f12_3 f12_4 f12_5 f12_6 f12_7 f12_8 f12_9)
  (try clear f14_0 f14_1 f14_10 f14_11 f14_12 f14_13 f14_14 f14_15 f14_2 f14_3 f14_4 f14_5 f14_6 f14_7 f14_8 f14_9)
  (try clear f15_0 f15_1 f15_10 f15_11 f15_12 f15_13 f15_14 f15_15 f15_2 f15_3 f15_4 f15_5 f15_6 f15_7 f15_8 f15_9)
  (try clear f17_0 f17_1 f17_10 f17_11 f17_12 f17_13 f17_14 f17_15 f17_2 f17_3 f17_4 f17_5 f17_6 f17_7 f17_8 f17_9)
  (try clear f18_0 f18_1 f18_10 f18_11 f18_12 f18_13 f18_14 f18_15 f18_2 f18_3 f18_4 f18_5 f18_6 f18_7 f18_8 f18_9)
  (try clear f20_0 f20_1 f20_10 f20_11 f20_12 f20_13 f20_14 f20_15 f20_2 f20_3 f20_4 f20_5 f20_6 f20_7 f20_8 f20_9)
  (try clear f4_0 f4_1 f4_10 f4_11 f4_12 f4_13 f4_14 f4_15 f4_2 f4_3 f4_4 f4_5 f4_6 f4_7 f4_8 f4_9)
  obtain ⟨kq, x8_1, rfl, HA, HJ1, HO_3, BK356, HB⟩ := hcut
  cases kq with
  | zero => exact absurd HA.out (by simp [impl_PutItem.j0])
  | succ kj1 =>
   have H := HA.out
   clear HA
   simp only [impl_PutItem.j0] at H
   by_cases c21 : x8_1 = true
   ·
    subst c21
    rw [if_pos rfl] at H
    obtain ⟨t362, A22, H⟩ := bd_ H
    obtain ⟨y365, hy365⟩ : ∃ y_ : List Int, y_ = (([(a0_3) % 256] : List Int)) := ⟨_, rfl⟩
    replace H := mk_ H hy365
    (try dsimp only at H)
    have Ny365 := Aside0.mk hy365
    clear hy365
    by_cases c23 : t362.length + y365.length < 140737488355328
    ·
     rw [if_pos c23] at H
     have LMc23 := Aside0.mk c23
     clear c23
     obtain ⟨y368, hy368⟩ : ∃ y_ : List Int, y_ = (t362 ++ y365) := ⟨_, rfl⟩
     replace H : ((impl_PutText.f kj1 y368 a0_2).bind fun t371 => ((impl_PutWord.f t371 a0_4).bind fun t374 => ((impl_putSince.f t374 a0_5).bind fun t377 => ((impl_PutText.f kj1 t377 a0_6).bind fun t380 => ((impl_PutWord.f t380 a0_7).bind fun t383 => ((impl_PutWord.f t383 a0_8).bind fun t386 => (some t386))))))) = some r := by first | (rw [hy368]; with_reducible exact H) | (have H2_ := (Option.bind_some _ _).symm.trans H; rw [hy368]; with_reducible exact H2_) | (have H2_ := (Option.bind_some _ _).symm.trans H; with_reducible exact H2_) | with_reducible exact H | (rw [hy368]; exact H) | exact H
     have Ny368 := Aside0.mk hy368
     clear hy368
     obtain ⟨t371, A24, H⟩ := bd_ H
     obtain ⟨t374, A25, H⟩ := bd_ H
     obtain ⟨t377, A26, H⟩ := bd_ H
     obtain ⟨t380, A27, H⟩ := bd_ H
     obtain ⟨t383, A28, H⟩ := bd_ H
     obtain ⟨t386, A29, H⟩ := bd_ H
     obtain rfl := Option.some.inj H
     obtain ⟨Ao30, co30, eo30⟩ := Kd.R_slice HO_3.out
     subst eo30
     try go_wp2
     replace HO_3 := am_ (Kd.R_drew HO_3.out)
     replace BK356 := am_ (blk_drew BK356.out)
     replace HB := am_ (below_drew1 HB.out)
     refine start_ (n := 16) (S := fun w' => w'.cell? ⟨gb356, 0, none⟩ = some (.int .i64 a0_0) ∧ w'.cell? ⟨gb356, 1, none⟩ = some (.int .i64 a0_1) ∧ w'.cell? ⟨gb356, 2, none⟩ = some (.string a0_2) ∧ w'.cell? ⟨gb356, 3, none⟩ = some (.int .i64 a0_3) ∧ w'.cell? ⟨gb356, 4, none⟩ = some (.int .i64 a0_4) ∧ w'.cell? ⟨gb356, 5, none⟩ = some (.int .i64 a0_5) ∧ w'.cell? ⟨gb356, 6, none⟩ = some (.string a0_6) ∧ w'.cell? ⟨gb356, 7, none⟩ = some (.int .i64 a0_7) ∧ w'.cell? ⟨gb356, 8, none⟩ = some (.int .i64 a0_8) ∧ w'.cell? ⟨gb356, 9, none⟩ = some (.int .i64 a0_9) ∧ w'.cell? ⟨gb356, 10, none⟩ = some (.string a0_10) ∧ w'.cell? ⟨gb356, 11, none⟩ = some (.int .i64 a0_11) ∧ w'.cell? ⟨gb356, 12, none⟩ = some (.int .i64 a0_12) ∧ w'.cell? ⟨gb356, 13, none⟩ = some (.int .i64 a0_13) ∧ w'.cell? ⟨gb356, 14, none⟩ = some (.int .i64 a0_14) ∧ w'.cell? ⟨gb356, 15, none⟩ = some (.int .i64 a0_15)) (ds := []) (rl [0,16]) (by kernel_rfl) rfl rfl (cz16 BK356.out) (fun hHeld => ?_); refine with_tabW impl_PutItem.tab3 impl_PutItem.bits3 (fun HT_ HW_ => ?_)
     generalize wc.drew = w31 at HO_3 BK356 HB hHeld ⊢
     refine pz_ (i := 0) (N := some 29) HT_ (rl [1,15]) rfl rfl ?_
     refine pz_ (i := 1) (N := some 30) HT_ (rl [2,14]) rfl rfl ?_
     refine pz_ (i := 2) (N := some 31) HT_ (rl [3,13]) rfl rfl ?_
     refine pz_ (i := 5) (N := some 34) HT_ (rl [3,2,1,10]) rfl rfl ?_
     refine pz_ (i := 6) (N := some 35) HT_ (rl [3,2,2,9]) rfl rfl ?_
     refine pz_ (i := 11) (N := some 40) HT_ (rl [3,2,2,4,1,4]) rfl rfl ?_
     refine pz_ (i := 12) (N := some 41) HT_ (rl [3,2,2,4,2,3]) rfl rfl ?_
     refine take_ (i := 3) (N := some 32) (v := ?_) (a' := ?_) (rl [4,1,2,4,2,3]) rfl rfl (take_ofW HT_.out HW_.out (by kernel_rfl)) (fun _ _ _ h => h) (Or.inl ⟨by rfl, ?_⟩) hHeld ?_ ?_
     rotate_left
     ·
      rintro w' ⟨s0, s1, s2, s3, s4, s5, s6, s7, s8, s9, s10, s11, s12, s13, s14, s15⟩
      go_simp
      with_reducible rfl
     rotate_left
     ·
      exact ap_
     refine take_ (i := 7) (N := some 36) (v := ?_) (a' := ?_) (rl [4,1,3,3,2,3]) rfl rfl (take_ofW HT_.out HW_.out (by kernel_rfl)) (fun _ _ _ h => h) (Or.inl ⟨by rfl, ?_⟩) hHeld ?_ ?_
     rotate_left
     ·
      rintro w' ⟨s0, s1, s2, s3, s4, s5, s6, s7, s8, s9, s10, s11, s12, s13, s14, s15⟩
      go_simp
      with_reducible rfl
     rotate_left
     ·
      exact ap_
     refine pz_ (i := 8) (N := some 37) HT_ (rl [4,1,4,2,2,3]) rfl rfl ?_
     refine take_ (i := 13) (N := some 42) (v := ?_) (a' := ?_) (rl [4,1,4,2,3,2]) rfl rfl (take_ofW HT_.out HW_.out (by kernel_rfl)) (fun _ _ _ h => h) (Or.inl ⟨by rfl, ?_⟩) hHeld ?_ ?_
     rotate_left
     ·
      rintro w' ⟨s0, s1, s2, s3, s4, s5, s6, s7, s8, s9, s10, s11, s12, s13, s14, s15⟩
      go_simp
      with_reducible rfl
     rotate_left
     ·
      exact ap_
     refine join_ (σ := Value × Value) 3 (rl [10,1,3,2]) (fun s_ => [(33, s_.1), (38, s_.2)]) (fun s_ w' => (w'.cell? ⟨gb356, 0, none⟩ = some (.int .i64 a0_0) ∧ w'.cell? ⟨gb356, 1, none⟩ = some (.int .i64 a0_1) ∧ w'.cell? ⟨gb356, 2, none⟩ = some (.string a0_2) ∧ w'.cell? ⟨gb356, 3, none⟩ = some (.int .i64 a0_3) ∧ w'.cell? ⟨gb356, 4, none⟩ = some (.int .i64 a0_4) ∧ w'.cell? ⟨gb356, 5, none⟩ = some (.int .i64 a0_5) ∧ w'.cell? ⟨gb356, 6, none⟩ = some (.string a0_6) ∧ w'.cell? ⟨gb356, 7, none⟩ = some (.int .i64 a0_7) ∧ w'.cell? ⟨gb356, 8, none⟩ = some (.int .i64 a0_8) ∧ w'.cell? ⟨gb356, 9, none⟩ = some (.int .i64 a0_9) ∧ w'.cell? ⟨gb356, 10, none⟩ = some (.string a0_10) ∧ w'.cell? ⟨gb356, 11, none⟩ = some (.int .i64 a0_11) ∧ w'.cell? ⟨gb356, 12, none⟩ = some (.int .i64 a0_12) ∧ w'.cell? ⟨gb356, 13, none⟩ = some (.int .i64 a0_13) ∧ w'.cell? ⟨gb356, 14, none⟩ = some (.int .i64 a0_14) ∧ w'.cell? ⟨gb356, 15, none⟩ = some (.int .i64 a0_15)) ∧ (Kd.R (Kd.int .u8) 5 w' w.heap.size (fun k_ => some k_ ≠ (s_.2 : Value).ownBlock ∧ some k_ ≠ (.slice Ao30 y357.length co30 : Value).ownBlock) s_.1 t362) ∧ (Kd.R (Kd.int .u8) 5 w' w.heap.size (fun k_ => some k_ ≠ (s_.1 : Value).ownBlock ∧ some k_ ≠ (.slice Ao30 y357.length co30 : Value).ownBlock) s_.2 y365) ∧ (Kd.R (Kd.int .u8) 5 w' w.heap.size (fun k_ => some k_ ≠ (s_.1 : Value).ownBlock ∧ some k_ ≠ (s_.2 : Value).ownBlock) (.slice Ao30 y357.length co30) y357) ∧ (w'.heap[gb356]? = some (.cells #[.int .i64 a0_0, .int .i64 a0_1, .string a0_2, .int .i64 a0_3, .int .i64 a0_4, .int .i64 a0_5, .string a0_6, .int .i64 a0_7, .int .i64 a0_8, .int .i64 a0_9, .string a0_10, .int .i64 a0_11, .int .i64 a0_12, .int .i64 a0_13, .int .i64 a0_14, .int .i64 a0_15] 48 (0, 0))) ∧ (Below w.heap.size w w')) ?_ ?_
     rotate_left
     ·
      intro hCont
      refine two_ (i := 4) (j := 9) (Ni := some 33) (Nj := some 38) (rl [9,2,3,2]) (rl [4,1,5,1,3,2]) rfl rfl rfl rfl (two_of HT_.out (by kernel_rfl)) (by decide) (by decide) (fun K hK => ?_) (fun K hK => ?_)
      ·
       skip
       refine goes_ Try.func82 (by kernel_rfl) rfl #[.slice Ao30 y357.length co30, .int .i64 a0_1] (by rfl) rfl rfl la_ ?_
       with_reducible refine (impl_PutWord.calls _ _ y357 a0_1 t362 _ ?side1 ?side2 A22.out).mono ?_
       (case side1 => exact qC ((Kd.R_reads' HO_3.out).2.2))
       (case side2 => exact (Kd.R_reads' HO_3.out).2.1)
       rintro e w32 ⟨v363, rfl, ho0, hb⟩
       refine ⟨_, rfl, ?_⟩
       have HO364 := am_ (Kd.R_lower (Kd.R_new' ho0 (Kd.R_lt (qR HO_3))) (below_size (qB HB)))
       replace HO_3 := am_ (eR HO_3 ho0 hb)
       replace BK356 := am_ (blk_below (qK BK356) hb)
       replace HB := am_ (below_step (qB HB) hb)
       (try clear hb ho0)
       refine hK.out _ _ (cz16 BK356.out) (fun hHeld => ?_)
       clear hK K
       refine norm_ (a' := ?_) ?_ ?_
       rotate_left
       ·
        show Act.put _ (some 33) _ = _
        exact ap_
       refine one_ (i := 9) (N := some 38) (rl [10,1,3,2]) rfl rfl (one_of HT_.out (by kernel_rfl)) (by decide) (fun K hK => ?_)
       refine Kd.R_lit_step (Kd.int .u8) _ 5 ?hg (N := 38) ?hd (xs := ([(a0_3) % 256] : List Int)) (inner := [.int .u8 ((a0_3) % 256)]) (ok := fun _ => True) (okp := fun _ => True) ?hr ?hp (fun _ hk => hk) trivial (Below.refl _ _) (Nat.le_refl _) (by simp) ?_; (case hd => rfl); (case hg => rfl); (case hr => first | (go_simp; done) | (go_simp; rfl)); (case hp => exact (Reps.one (show Kd.M (Kd.int .u8) _ _ _ ((a0_3) % 256) [.int .u8 ((a0_3) % 256)] from rfl) (Reps.none _ _)))
       intro v366 w33 ho34 hb hg_ hnew_
       clear hg_ hnew_
       (first | rw [← Ny365.out] at ho34 | (simp only [Int.reduceToNat] at ho34; rw [← Ny365.out] at ho34))
       have HO367 := am_ (Kd.R_lower (Kd.R_new' (Kd.R_new' ho34 (Kd.R_lt (qR HO_3))) (Kd.R_lt (qR HO364))) (below_size (qB HB)))
       replace HO_3 := am_ (eR HO_3 ho34 hb)
       replace HO364 := am_ (eR HO364 ho34 hb)
       replace BK356 := am_ (blk_below (qK BK356) hb)
       replace HB := am_ (below_step (qB HB) hb)
       clear hb ho34
       refine hK.out _ _ (cz16 BK356.out) (fun hHeld => ?_)
       clear hK K
       refine norm_ (a' := ?_) ?_ ?_
       rotate_left
       ·
        show Act.put _ (some 38) _ = _
        exact ap_
       exact norm_ (by simp only [putAll, Act.put, List.setIfInBounds_toArray, List.set_cons_zero, List.set_cons_succ]) (hCont (v363, v366) _ ⟨hHeld, (tR (Kd.R_mono HO364.out (fun _ hk => ⟨hk.2, hk.1.2⟩))), (tR (Kd.R_mono HO367.out (fun _ hk => ⟨hk.2, hk.1.2⟩))), (tR (Kd.R_mono HO_3.out (fun _ hk => ⟨hk.1.2, hk.2⟩))), (qK BK356), (qB HB)⟩)
      ·
       skip
       refine Kd.R_lit_step (Kd.int .u8) _ 5 ?hg (N := 38) ?hd (xs := ([(a0_3) % 256] : List Int)) (inner := [.int .u8 ((a0_3) % 256)]) (ok := fun _ => True) (okp := fun _ => True) ?hr ?hp (fun _ hk => hk) trivial (Below.refl _ _) (Nat.le_refl _) (by simp) ?_; (case hd => rfl); (case hg => rfl); (case hr => first | (go_simp; done) | (go_simp; rfl)); (case hp => exact (Reps.one (show Kd.M (Kd.int .u8) _ _ _ ((a0_3) % 256) [.int .u8 ((a0_3) % 256)] from rfl) (Reps.none _ _)))
       intro v366 w32 ho33 hb hg_ hnew_
       clear hg_ hnew_
       (first | rw [← Ny365.out] at ho33 | (simp only [Int.reduceToNat] at ho33; rw [← Ny365.out] at ho33))
       have HO367 := am_ (Kd.R_lower (Kd.R_new' ho33 (Kd.R_lt (qR HO_3))) (below_size (qB HB)))
       replace HO_3 := am_ (eR HO_3 ho33 hb)
       replace BK356 := am_ (blk_below (qK BK356) hb)
       replace HB := am_ (below_step (qB HB) hb)
       clear hb ho33
       refine hK.out _ _ (cz16 BK356.out) (fun hHeld => ?_)
       clear hK K
       refine norm_ (a' := ?_) ?_ ?_
       rotate_left
       ·
        show Act.put _ (some 38) _ = _
        exact ap_
       refine one_ (i := 4) (N := some 33) (rl [10,1,3,2]) rfl rfl (one_of HT_.out (by kernel_rfl)) (by decide) (fun K hK => ?_)
       refine goes_ Try.func82 (by kernel_rfl) rfl #[.slice Ao30 y357.length co30, .int .i64 a0_1] (by rfl) rfl rfl la_ ?_
       with_reducible refine (impl_PutWord.calls _ _ y357 a0_1 t362 _ ?side1 ?side2 A22.out).mono ?_
       (case side1 => exact qC ((Kd.R_reads' HO_3.out).2.2))
       (case side2 => exact (Kd.R_reads' HO_3.out).2.1)
       rintro e w34 ⟨v363, rfl, ho0, hb⟩
       refine ⟨_, rfl, ?_⟩
       have HO364 := am_ (Kd.R_lower (Kd.R_new' (Kd.R_new' ho0 (Kd.R_lt (qR HO_3))) (Kd.R_lt (qR HO367))) (below_size (qB HB)))
       replace HO_3 := am_ (eR HO_3 ho0 hb)
       replace HO367 := am_ (eR HO367 ho0 hb)
       replace BK356 := am_ (blk_below (qK BK356) hb)
       replace HB := am_ (below_step (qB HB) hb)
       (try clear hb ho0)
       refine hK.out _ _ (cz16 BK356.out) (fun hHeld => ?_)
       clear hK K
       refine norm_ (a' := ?_) ?_ ?_
       rotate_left
       ·
        show Act.put _ (some 33) _ = _
        exact ap_
       exact norm_ (by simp only [putAll, Act.put, List.setIfInBounds_toArray, List.set_cons_zero, List.set_cons_succ]) (hCont (v363, v366) _ ⟨hHeld, (tR (Kd.R_mono HO364.out (fun _ hk => ⟨hk.2, hk.1.2⟩))), (tR (Kd.R_mono HO367.out (fun _ hk => ⟨hk.2, hk.1.2⟩))), (tR (Kd.R_mono HO_3.out (fun _ hk => ⟨hk.2, hk.1.2⟩))), (qK BK356), (qB HB)⟩)
     rintro ⟨v363, v366⟩ w35 ⟨hS_, h0_, h1_, h2_, h3_, h4_⟩
     have n0_ : Aside0 (Kd.R (Kd.int .u8) 5 w35 w.heap.size (fun k_ => some k_ ≠ (v366 : Value).ownBlock ∧ some k_ ≠ (.slice Ao30 y357.length co30 : Value).ownBlock) v363 t362) := ⟨h0_⟩
     have n1_ : Aside0 (Kd.R (Kd.int .u8) 5 w35 w.heap.size (fun k_ => some k_ ≠ (v363 : Value).ownBlock ∧ some k_ ≠ (.slice Ao30 y357.length co30 : Value).ownBlock) v366 y365) := ⟨h1_⟩
     have n2_ : Aside0 (Kd.R (Kd.int .u8) 5 w35 w.heap.size (fun k_ => some k_ ≠ (v363 : Value).ownBlock ∧ some k_ ≠ (v366 : Value).ownBlock) (.slice Ao30 y357.length co30) y357) := ⟨h2_⟩
     have n3_ : Aside0 (w35.heap[gb356]? = some (.cells #[.int .i64 a0_0, .int .i64 a0_1, .string a0_2, .int .i64 a0_3, .int .i64 a0_4, .int .i64 a0_5, .string a0_6, .int .i64 a0_7, .int .i64 a0_8, .int .i64 a0_9, .string a0_10, .int .i64 a0_11, .int .i64 a0_12, .int .i64 a0_13, .int .i64 a0_14, .int .i64 a0_15] 48 (0, 0))) := ⟨h3_⟩
     have n4_ : Aside0 (Below w.heap.size w w35) := ⟨h4_⟩
     clear HO_3
     clear BK356
     clear HB
     clear h0_ h1_ h2_ h3_ h4_
     have HO364 := n0_
     have HO367 := n1_
     have HO_3 := n2_
     have BK356 := n3_
     have HB := n4_
     clear n0_ n1_ n2_ n3_ n4_
     have hHeld : w35.cell? ⟨gb356, 0, none⟩ = some (.int .i64 a0_0) ∧ w35.cell? ⟨gb356, 1, none⟩ = some (.int .i64 a0_1) ∧ w35.cell? ⟨gb356, 2, none⟩ = some (.string a0_2) ∧ w35.cell? ⟨gb356, 3, none⟩ = some (.int .i64 a0_3) ∧ w35.cell? ⟨gb356, 4, none⟩ = some (.int .i64 a0_4) ∧ w35.cell? ⟨gb356, 5, none⟩ = some (.int .i64 a0_5) ∧ w35.cell? ⟨gb356, 6, none⟩ = some (.string a0_6) ∧ w35.cell? ⟨gb356, 7, none⟩ = some (.int .i64 a0_7) ∧ w35.cell? ⟨gb356, 8, none⟩ = some (.int .i64 a0_8) ∧ w35.cell? ⟨gb356, 9, none⟩ = some (.int .i64 a0_9) ∧ w35.cell? ⟨gb356, 10, none⟩ = some (.string a0_10) ∧ w35.cell? ⟨gb356, 11, none⟩ = some (.int .i64 a0_11) ∧ w35.cell? ⟨gb356, 12, none⟩ = some (.int .i64 a0_12) ∧ w35.cell? ⟨gb356, 13, none⟩ = some (.int .i64 a0_13) ∧ w35.cell? ⟨gb356, 14, none⟩ = some (.int .i64 a0_14) ∧ w35.cell? ⟨gb356, 15, none⟩ = some (.int .i64 a0_15) := hS_
     obtain ⟨Ao37, co37, eo37⟩ := Kd.R_slice HO367.out
     (first | subst eo37 | (injection eo37 with f1_ f2_ f3_; have f4_ := f1_.symm; have f5_ := f3_.symm; clear f1_ f2_ f3_; subst f4_; subst f5_))
     refine norm_ (a' := ?_) ?_ ?_
     rotate_left
     ·
      simp only [putAll, Act.put, List.setIfInBounds_toArray, List.set_cons_zero, List.set_cons_succ]
      rfl
     refine one_ (i := 10) (N := some 39) (rl [14,2]) rfl rfl (one_of HT_.out (by kernel_rfl)) (by decide) (fun K hK => ?_)
     refine Kd.R_append_rows_step (Kd.int .u8) (w0 := w) w.heap.size (by rfl) (.tmp 33) (.tmp 38) 22 5 (.int .u8 0) 1 rfl Try.underlying22 info5 rfl (by decide) (by omega) v363 t362 y365 _ _ _ (fun k_ => some k_ ≠ (.slice Ao30 y357.length co30 : Value).ownBlock ∧ some k_ ≠ (.slice Ao37 y365.length co37 : Value).ownBlock) (fun _ => False) rfl rfl ?aO ?aR (fun _ _ h => h) (fun _ h => h.elim) ?aF ?aB ?aS ?aL ?_
     (case aR => exact qC ((Kd.R_reads' HO367.out).2.2))
     (case aB => exact (qB HB))
     (case aF => exact (fun k_ hk => ⟨Kd.fresh' (Kd.R_lt (qR HO_3)) k_ hk, Kd.fresh' (Kd.R_lt (qR HO367)) k_ hk⟩))
     (case aO => exact (tR (Kd.R_mono HO364.out (fun _ hk => ⟨hk.2, hk.1⟩))))
     (case aS => exact (below_size (qB HB)))
     (case aL => have := LMc23.out; omega)
     intro v369 w36 ho hb hg hat
     rw [← Ny368.out] at ho
     replace HO_3 := am_ (Kd.R_after (ok := (fun k_ => some k_ ≠ (.slice Ao37 y365.length co37 : Value).ownBlock)) (tR (Kd.R_mono HO_3.out (fun _ hk => ⟨hk.2, hk.1⟩))) hg hat)
     replace BK356 := am_ (blk_grown (qK BK356) hg (Kd.R_ne HO364.out BK356.out (by decide)))
     replace HO367 := am_ (Kd.R_after (ok := (fun k_ => some k_ ≠ (.slice Ao30 y357.length co30 : Value).ownBlock)) (tR (Kd.R_mono HO367.out (fun _ hk => ⟨hk.2, hk.1⟩))) hg hat)
     replace HB := am_ (hb)
     have HO370 := am_ (ho)
     clear HO364
     clear ho hb hg hat
     obtain ⟨Ao38, co38, eo38⟩ := Kd.R_slice HO370.out
     (first | subst eo38 | (injection eo38 with f1_ f2_ f3_; have f4_ := f1_.symm; have f5_ := f3_.symm; clear f1_ f2_ f3_; subst f4_; subst f5_))
     refine hK.out _ _ (cz16 BK356.out) (fun hHeld => ?_)
     clear hK K
     refine norm_ (a' := ?_) ?_ ?_
     rotate_left
     ·
      show Act.put _ (some 39) _ = _
      exact ap_
     refine one_ (i := 14) (N := some 43) (rl [15,1]) rfl rfl (one_of HT_.out (by kernel_rfl)) (by decide) (fun K hK => ?_)
     refine goes_ Try.func81 (by kernel_rfl) rfl #[.slice Ao38 y368.length co38, .string a0_2] (by rfl) rfl rfl la_ ?_
     with_reducible refine (impl_PutText.calls kj1 _ _ y368 a0_2 t371 _ ?side1 ?side2 A24.out).mono ?_
     (case side1 => exact qC ((Kd.R_reads' HO370.out).2.2))
     (case side2 => exact (Kd.R_reads' HO370.out).2.1)
     rintro e w39 ⟨v372, rfl, ho0, hb⟩
     refine ⟨_, rfl, ?_⟩
     have HO373 := am_ (Kd.R_lower (Kd.R_new' (Kd.R_new' (Kd.R_new' ho0 (Kd.R_lt (qR HO_3))) (Kd.R_lt (qR HO367))) (Kd.R_lt (qR HO370))) (below_size (qB HB)))
     replace HO_3 := am_ (eR HO_3 ho0 hb)
     replace HO367 := am_ (eR HO367 ho0 hb)
     replace HO370 := am_ (eR HO370 ho0 hb)
     replace BK356 := am_ (blk_below (qK BK356) hb)
     replace HB := am_ (below_step (qB HB) hb)
     (try clear hb ho0)
     refine hK.out _ _ (cz16 BK356.out) (fun hHeld => ?_)
     clear hK K
     refine norm_ (a' := ?_) ?_ ?_
     rotate_left
     ·
      show Act.put _ (some 43) _ = _
      exact ap_
     refine pz_ (i := 15) (N := some 3) HT_ (rl [16]) rfl rfl ?_
     refine done_ (done_of HT_.out (by kernel_rfl)) ?_
     try go_wp2
     replace HO_3 := am_ (Kd.R_drew HO_3.out)
     replace HO367 := am_ (Kd.R_drew HO367.out)
     replace HO370 := am_ (Kd.R_drew HO370.out)
     replace HO373 := am_ (Kd.R_drew HO373.out)
     replace BK356 := am_ (blk_drew BK356.out)
     replace HB := am_ (below_drew1 HB.out)
     obtain ⟨Ao41, co41, eo41⟩ := Kd.R_slice HO373.out
     (first | subst eo41 | (injection eo41 with f1_ f2_ f3_; have f4_ := f1_.symm; have f5_ := f3_.symm; clear f1_ f2_ f3_; subst f4_; subst f5_))
     refine start_ (n := 14) (S := fun w' => w'.cell? ⟨gb356, 0, none⟩ = some (.int .i64 a0_0) ∧ w'.cell? ⟨gb356, 1, none⟩ = some (.int .i64 a0_1) ∧ w'.cell? ⟨gb356, 2, none⟩ = some (.string a0_2) ∧ w'.cell? ⟨gb356, 3, none⟩ = some (.int .i64 a0_3) ∧ w'.cell? ⟨gb356, 4, none⟩ = some (.int .i64 a0_4) ∧ w'.cell? ⟨gb356, 5, none⟩ = some (.int .i64 a0_5) ∧ w'.cell? ⟨gb356, 6, none⟩ = some (.string a0_6) ∧ w'.cell? ⟨gb356, 7, none⟩ = some (.int .i64 a0_7) ∧ w'.cell? ⟨gb356, 8, none⟩ = some (.int .i64 a0_8) ∧ w'.cell? ⟨gb356, 9, none⟩ = some (.int .i64 a0_9) ∧ w'.cell? ⟨gb356, 10, none⟩ = some (.string a0_10) ∧ w'.cell? ⟨gb356, 11, none⟩ = some (.int .i64 a0_11) ∧ w'.cell? ⟨gb356, 12, none⟩ = some (.int .i64 a0_12) ∧ w'.cell? ⟨gb356, 13, none⟩ = some (.int .i64 a0_13) ∧ w'.cell? ⟨gb356, 14, none⟩ = some (.int .i64 a0_14) ∧ w'.cell? ⟨gb356, 15, none⟩ = some (.int .i64 a0_15)) (ds := []) (rl [0,14]) (by kernel_rfl) rfl rfl (cz16 BK356.out) (fun hHeld => ?_); refine with_tabW impl_PutItem.tab4 impl_PutItem.bits4 (fun HT_ HW_ => ?_)
     generalize w39.drew = w40 at HO_3 HO367 HO370 HO373 BK356 HB hHeld ⊢
     refine pz_ (i := 0) (N := some 44) HT_ (rl [1,13]) rfl rfl ?_
     refine pz_ (i := 1) (N := some 45) HT_ (rl [2,12]) rfl rfl ?_
     refine pz_ (i := 2) (N := some 46) HT_ (rl [3,11]) rfl rfl ?_
     refine pz_ (i := 5) (N := some 49) HT_ (rl [3,2,1,8]) rfl rfl ?_
     refine pz_ (i := 6) (N := some 50) HT_ (rl [3,2,2,7]) rfl rfl ?_
     refine pz_ (i := 9) (N := some 53) HT_ (rl [3,2,2,2,1,4]) rfl rfl ?_
     refine pz_ (i := 10) (N := some 54) HT_ (rl [3,2,2,2,2,3]) rfl rfl ?_
     refine take_ (i := 3) (N := some 47) (v := ?_) (a' := ?_) (rl [4,1,2,2,2,3]) rfl rfl (take_ofW HT_.out HW_.out (by kernel_rfl)) (fun _ _ _ h => h) (Or.inl ⟨by rfl, ?_⟩) hHeld ?_ ?_
     rotate_left
     ·
      rintro w' ⟨s0, s1, s2, s3, s4, s5, s6, s7, s8, s9, s10, s11, s12, s13, s14, s15⟩
      go_simp
      with_reducible rfl
     rotate_left
     ·
      exact ap_
     refine take_ (i := 7) (N := some 51) (v := ?_) (a' := ?_) (rl [4,1,3,1,2,3]) rfl rfl (take_ofW HT_.out HW_.out (by kernel_rfl)) (fun _ _ _ h => h) (Or.inl ⟨by rfl, ?_⟩) hHeld ?_ ?_
     rotate_left
     ·
      rintro w' ⟨s0, s1, s2, s3, s4, s5, s6, s7, s8, s9, s10, s11, s12, s13, s14, s15⟩
      go_simp
      with_reducible rfl
     rotate_left
     ·
      exact ap_
     refine take_ (i := 11) (N := some 55) (v := ?_) (a' := ?_) (rl [4,1,3,1,3,2]) rfl rfl (take_ofW HT_.out HW_.out (by kernel_rfl)) (fun _ _ _ h => h) (Or.inl ⟨by rfl, ?_⟩) hHeld ?_ ?_
     rotate_left
     ·
      rintro w' ⟨s0, s1, s2, s3, s4, s5, s6, s7, s8, s9, s10, s11, s12, s13, s14, s15⟩
      go_simp
      with_reducible rfl
     rotate_left
     ·
      exact ap_
     refine one_ (i := 4) (N := some 48) (rl [8,1,3,2]) rfl rfl (one_of HT_.out (by kernel_rfl)) (by decide) (fun K hK => ?_)
     refine goes_ Try.func82 (by kernel_rfl) rfl #[.slice Ao41 t371.length co41, .int .i64 a0_4] (by rfl) rfl rfl la_ ?_
     with_reducible refine (impl_PutWord.calls _ _ t371 a0_4 t374 _ ?side1 ?side2 A25.out).mono ?_
     (case side1 => exact qC ((Kd.R_reads' HO373.out).2.2))
     (case side2 => exact (Kd.R_reads' HO373.out).2.1)
     rintro e w42 ⟨v375, rfl, ho0, hb⟩
     refine ⟨_, rfl, ?_⟩
     have HO376 := am_ (Kd.R_lower (Kd.R_new' (Kd.R_new' (Kd.R_new' (Kd.R_new' ho0 (Kd.R_lt (qR HO_3))) (Kd.R_lt (qR HO367))) (Kd.R_lt (qR HO370))) (Kd.R_lt (qR HO373))) (below_size (qB HB)))
     replace HO_3 := am_ (eR HO_3 ho0 hb)
     replace HO367 := am_ (eR HO367 ho0 hb)
     replace HO370 := am_ (eR HO370 ho0 hb)
     replace HO373 := am_ (eR HO373 ho0 hb)
     replace BK356 := am_ (blk_below (qK BK356) hb)
     replace HB := am_ (below_step (qB HB) hb)
     (try clear hb ho0)
     obtain ⟨Ao43, co43, eo43⟩ := Kd.R_slice HO376.out
     (first | subst eo43 | (injection eo43 with f1_ f2_ f3_; have f4_ := f1_.symm; have f5_ := f3_.symm; clear f1_ f2_ f3_; subst f4_; subst f5_))
     refine hK.out _ _ (cz16 BK356.out) (fun hHeld => ?_)
     clear hK K
     refine norm_ (a' := ?_) ?_ ?_
     rotate_left
     ·
      show Act.put _ (some 48) _ = _
      exact ap_
     refine one_ (i := 8) (N := some 52) (rl [12,2]) rfl rfl (one_of HT_.out (by kernel_rfl)) (by decide) (fun K hK => ?_)
     refine goes_ Try.func83 (by kernel_rfl) rfl #[.slice Ao43 t374.length co43, .int .i64 a0_5] (by rfl) rfl rfl la_ ?_
     with_reducible refine (impl_putSince.calls _ _ t374 a0_5 t377 _ ?side1 ?side2 A26.out).mono ?_
     (case side1 => exact qC ((Kd.R_reads' HO376.out).2.2))
     (case side2 => exact (Kd.R_reads' HO376.out).2.1)
     rintro e w44 ⟨v378, rfl, ho0, hb⟩
     refine ⟨_, rfl, ?_⟩
     have HO379 := am_ (Kd.R_lower (Kd.R_new' (Kd.R_new' (Kd.R_new' (Kd.R_new' (Kd.R_new' ho0 (Kd.R_lt (qR HO_3))) (Kd.R_lt (qR HO367))) (Kd.R_lt (qR HO370))) (Kd.R_lt (qR HO373))) (Kd.R_lt (qR HO376))) (below_size (qB HB)))
     replace HO_3 := am_ (eR HO_3 ho0 hb)
     replace HO367 := am_ (eR HO367 ho0 hb)
     replace HO370 := am_ (eR HO370 ho0 hb)
     replace HO373 := am_ (eR HO373 ho0 hb)
     replace HO376 := am_ (eR HO376 ho0 hb)
     replace BK356 := am_ (blk_below (qK BK356) hb)
     replace HB := am_ (below_step (qB HB) hb)
     (try clear hb ho0)
     obtain ⟨Ao45, co45, eo45⟩ := Kd.R_slice HO379.out
     (first | subst eo45 | (injection eo45 with f1_ f2_ f3_; have f4_ := f1_.symm; have f5_ := f3_.symm; clear f1_ f2_ f3_; subst f4_; subst f5_))
     refine hK.out _ _ (cz16 BK356.out) (fun hHeld => ?_)
     clear hK K
     refine norm_ (a' := ?_) ?_ ?_
     rotate_left
     ·
      show Act.put _ (some 52) _ = _
      exact ap_
     refine one_ (i := 12) (N := some 56) (rl [13,1]) rfl rfl (one_of HT_.out (by kernel_rfl)) (by decide) (fun K hK => ?_)
     refine goes_ Try.func81 (by kernel_rfl) rfl #[.slice Ao45 t377.length co45, .string a0_6] (by rfl) rfl rfl la_ ?_
     with_reducible refine (impl_PutText.calls kj1 _ _ t377 a0_6 t380 _ ?side1 ?side2 A27.out).mono ?_
     (case side1 => exact qC ((Kd.R_reads' HO379.out).2.2))
     (case side2 => exact (Kd.R_reads' HO379.out).2.1)
     rintro e w46 ⟨v381, rfl, ho0, hb⟩
     refine ⟨_, rfl, ?_⟩
     have HO382 := am_ (Kd.R_lower (Kd.R_new' (Kd.R_new' (Kd.R_new' (Kd.R_new' (Kd.R_new' (Kd.R_new' ho0 (Kd.R_lt (qR HO_3))) (Kd.R_lt (qR HO367))) (Kd.R_lt (qR HO370))) (Kd.R_lt (qR HO373))) (Kd.R_lt (qR HO376))) (Kd.R_lt (qR HO379))) (below_size (qB HB)))
     replace HO_3 := am_ (eR HO_3 ho0 hb)
     replace HO367 := am_ (eR HO367 ho0 hb)
     replace HO370 := am_ (eR HO370 ho0 hb)
     replace HO373 := am_ (eR HO373 ho0 hb)
     replace HO376 := am_ (eR HO376 ho0 hb)
     replace HO379 := am_ (eR HO379 ho0 hb)
     replace BK356 := am_ (blk_below (qK BK356) hb)
     replace HB := am_ (below_step (qB HB) hb)
     (try clear hb ho0)
     refine hK.out _ _ (cz16 BK356.out) (fun hHeld => ?_)
     clear hK K
     refine norm_ (a' := ?_) ?_ ?_
     rotate_left
     ·
      show Act.put _ (some 56) _ = _
      exact ap_
     refine pz_ (i := 13) (N := some 3) HT_ (rl [14]) rfl rfl ?_
     refine done_ (done_of HT_.out (by kernel_rfl)) ?_
     try go_wp2
     replace HO_3 := am_ (Kd.R_drew HO_3.out)
     replace HO367 := am_ (Kd.R_drew HO367.out)
     replace HO370 := am_ (Kd.R_drew HO370.out)
     replace HO373 := am_ (Kd.R_drew HO373.out)
     replace HO376 := am_ (Kd.R_drew HO376.out)
     replace HO379 := am_ (Kd.R_drew HO379.out)
     replace HO382 := am_ (Kd.R_drew HO382.out)
     replace BK356 := am_ (blk_drew BK356.out)
     replace HB := am_ (below_drew1 HB.out)
     obtain ⟨Ao48, co48, eo48⟩ := Kd.R_slice HO382.out
     (first | subst eo48 | (injection eo48 with f1_ f2_ f3_; have f4_ := f1_.symm; have f5_ := f3_.symm; clear f1_ f2_ f3_; subst f4_; subst f5_))
     refine start_ (n := 10) (S := fun w' => w'.cell? ⟨gb356, 0, none⟩ = some (.int .i64 a0_0) ∧ w'.cell? ⟨gb356, 1, none⟩ = some (.int .i64 a0_1) ∧ w'.cell? ⟨gb356, 2, none⟩ = some (.string a0_2) ∧ w'.cell? ⟨gb356, 3, none⟩ = some (.int .i64 a0_3) ∧ w'.cell? ⟨gb356, 4, none⟩ = some (.int .i64 a0_4) ∧ w'.cell? ⟨gb356, 5, none⟩ = some (.int .i64 a0_5) ∧ w'.cell? ⟨gb356, 6, none⟩ = some (.string a0_6) ∧ w'.cell? ⟨gb356, 7, none⟩ = some (.int .i64 a0_7) ∧ w'.cell? ⟨gb356, 8, none⟩ = some (.int .i64 a0_8) ∧ w'.cell? ⟨gb356, 9, none⟩ = some (.int .i64 a0_9) ∧ w'.cell? ⟨gb356, 10, none⟩ = some (.string a0_10) ∧ w'.cell? ⟨gb356, 11, none⟩ = some (.int .i64 a0_11) ∧ w'.cell? ⟨gb356, 12, none⟩ = some (.int .i64 a0_12) ∧ w'.cell? ⟨gb356, 13, none⟩ = some (.int .i64 a0_13) ∧ w'.cell? ⟨gb356, 14, none⟩ = some (.int .i64 a0_14) ∧ w'.cell? ⟨gb356, 15, none⟩ = some (.int .i64 a0_15)) (ds := []) #[oo,oo,oo,oo,oo,oo,oo,oo,oo,oo] (by kernel_rfl) rfl rfl (cz16 BK356.out) (fun hHeld => ?_); refine with_tabW impl_PutItem.tab5 impl_PutItem.bits5 (fun HT_ HW_ => ?_)
     generalize w46.drew = w47 at HO_3 HO367 HO370 HO373 HO376 HO379 HO382 BK356 HB hHeld ⊢
     refine pz_ (i := 0) (N := some 57) HT_ #[ii,oo,oo,oo,oo,oo,oo,oo,oo,oo] rfl rfl ?_
     refine pz_ (i := 1) (N := some 58) HT_ #[ii,ii,oo,oo,oo,oo,oo,oo,oo,oo] rfl rfl ?_
     refine pz_ (i := 2) (N := some 59) HT_ #[ii,ii,ii,oo,oo,oo,oo,oo,oo,oo] rfl rfl ?_
     refine pz_ (i := 5) (N := some 62) HT_ #[ii,ii,ii,oo,oo,ii,oo,oo,oo,oo] rfl rfl ?_
     refine pz_ (i := 6) (N := some 63) HT_ #[ii,ii,ii,oo,oo,ii,ii,oo,oo,oo] rfl rfl ?_
     refine take_ (i := 3) (N := some 60) (v := ?_) (a' := ?_) #[ii,ii,ii,ii,oo,ii,ii,oo,oo,oo] rfl rfl (take_ofW HT_.out HW_.out (by kernel_rfl)) (fun _ _ _ h => h) (Or.inl ⟨by rfl, ?_⟩) hHeld ?_ ?_
     rotate_left
     ·
      rintro w' ⟨s0, s1, s2, s3, s4, s5, s6, s7, s8, s9, s10, s11, s12, s13, s14, s15⟩
      go_simp
      with_reducible rfl
     rotate_left
     ·
      exact ap_
     refine take_ (i := 7) (N := some 64) (v := ?_) (a' := ?_) #[ii,ii,ii,ii,oo,ii,ii,ii,oo,oo] rfl rfl (take_ofW HT_.out HW_.out (by kernel_rfl)) (fun _ _ _ h => h) (Or.inl ⟨by rfl, ?_⟩) hHeld ?_ ?_
     rotate_left
     ·
      rintro w' ⟨s0, s1, s2, s3, s4, s5, s6, s7, s8, s9, s10, s11, s12, s13, s14, s15⟩
      go_simp
      with_reducible rfl
     rotate_left
     ·
      exact ap_
     refine one_ (i := 4) (N := some 61) #[ii,ii,ii,ii,ii,ii,ii,ii,oo,oo] rfl rfl (one_of HT_.out (by kernel_rfl)) (by decide) (fun K hK => ?_)
     refine goes_ Try.func82 (by kernel_rfl) rfl #[.slice Ao48 t380.length co48, .int .i64 a0_7] (by rfl) rfl rfl la_ ?_
     with_reducible refine (impl_PutWord.calls _ _ t380 a0_7 t383 _ ?side1 ?side2 A28.out).mono ?_
     (case side1 => exact qC ((Kd.R_reads' HO382.out).2.2))
     (case side2 => exact (Kd.R_reads' HO382.out).2.1)
     rintro e w49 ⟨v384, rfl, ho0, hb⟩
     refine ⟨_, rfl, ?_⟩
     have HO385 := am_ (Kd.R_lower (Kd.R_new' (Kd.R_new' (Kd.R_new' (Kd.R_new' (Kd.R_new' (Kd.R_new' (Kd.R_new' ho0 (Kd.R_lt (qR HO_3))) (Kd.R_lt (qR HO367))) (Kd.R_lt (qR HO370))) (Kd.R_lt (qR HO373))) (Kd.R_lt (qR HO376))) (Kd.R_lt (qR HO379))) (Kd.R_lt (qR HO382))) (below_size (qB HB)))
     replace HO_3 := am_ (eR HO_3 ho0 hb)
     replace HO367 := am_ (eR HO367 ho0 hb)
     replace HO370 := am_ (eR HO370 ho0 hb)
     replace HO373 := am_ (eR HO373 ho0 hb)
     replace HO376 := am_ (eR HO376 ho0 hb)
     replace HO379 := am_ (eR HO379 ho0 hb)
     replace HO382 := am_ (eR HO382 ho0 hb)
     replace BK356 := am_ (blk_below (qK BK356) hb)
     replace HB := am_ (below_step (qB HB) hb)
     (try clear hb ho0)
     obtain ⟨Ao50, co50, eo50⟩ := Kd.R_slice HO385.out
     (first | subst eo50 | (injection eo50 with f1_ f2_ f3_; have f4_ := f1_.symm; have f5_ := f3_.symm; clear f1_ f2_ f3_; subst f4_; subst f5_))
     refine hK.out _ _ (cz16 BK356.out) (fun hHeld => ?_)
     clear hK K
     refine norm_ (a' := ?_) ?_ ?_
     rotate_left
     ·
      show Act.put _ (some 61) _ = _
      exact ap_
     refine one_ (i := 8) (N := some 65) #[ii,ii,ii,ii,ii,ii,ii,ii,ii,oo] rfl rfl (one_of HT_.out (by kernel_rfl)) (by decide) (fun K hK => ?_)
     refine goes_ Try.func82 (by kernel_rfl) rfl #[.slice Ao50 t383.length co50, .int .i64 a0_8] (by rfl) rfl rfl la_ ?_
     with_reducible refine (impl_PutWord.calls _ _ t383 a0_8 t386 _ ?side1 ?side2 A29.out).mono ?_
     (case side1 => exact qC ((Kd.R_reads' HO385.out).2.2))
     (case side2 => exact (Kd.R_reads' HO385.out).2.1)
     rintro e w51 ⟨v387, rfl, ho0, hb⟩
     refine ⟨_, rfl, ?_⟩
     have HO388 := am_ (Kd.R_lower (Kd.R_new' (Kd.R_new' (Kd.R_new' (Kd.R_new' (Kd.R_new' (Kd.R_new' (Kd.R_new' (Kd.R_new' ho0 (Kd.R_lt (qR HO_3))) (Kd.R_lt (qR HO367))) (Kd.R_lt (qR HO370))) (Kd.R_lt (qR HO373))) (Kd.R_lt (qR HO376))) (Kd.R_lt (qR HO379))) (Kd.R_lt (qR HO382))) (Kd.R_lt (qR HO385))) (below_size (qB HB)))
     replace HO_3 := am_ (eR HO_3 ho0 hb)
     replace HO367 := am_ (eR HO367 ho0 hb)
     replace HO370 := am_ (eR HO370 ho0 hb)
     replace HO373 := am_ (eR HO373 ho0 hb)
     replace HO376 := am_ (eR HO376 ho0 hb)
     replace HO379 := am_ (eR HO379 ho0 hb)
     replace HO382 := am_ (eR HO382 ho0 hb)
     replace HO385 := am_ (eR HO385 ho0 hb)
     replace BK356 := am_ (blk_below (qK BK356) hb)
     replace HB := am_ (below_step (qB HB) hb)
     (try clear hb ho0)
     refine hK.out _ _ (cz16 BK356.out) (fun hHeld => ?_)
     clear hK K
     refine norm_ (a' := ?_) ?_ ?_
     rotate_left
     ·
      show Act.put _ (some 65) _ = _
      exact ap_
     refine pz_ (i := 9) (N := some 2) HT_ #[ii,ii,ii,ii,ii,ii,ii,ii,ii,ii] rfl rfl ?_
     refine done_ (done_of HT_.out (by kernel_rfl)) ?_
     try go_wp2
     go_ret
     exact ⟨_, by first | rfl | (simp [errW_none, errW_some] <;> rfl) | (simp [*, errW_none, errW_some] <;> rfl), by (with_reducible repeat (first | apply Kd.R_alloc | apply Kd.R_drewN | apply Kd.R_drew)); exact Kd.R_mono HO388.out (fun _ hk => trivial), qB HB⟩
    ·
     rw [if_neg c23] at H
     exact absurd H (by simp)
   ·
    replace c21 := Bool.eq_false_iff.mpr c21
    subst c21
    rw [if_neg (show ¬ (false = true) by decide)] at H
    have HC52 := Aside0.mk H
    clear H
    go_upto_region 6 with (fail)
    go_cut [66] (fun v66 wc => ∃ (kq : Nat) (x66_51 : Bool), v66 = .bool x66_51 ∧ Aside0 (impl_PutItem.j1 kq y357 x66_51 a0_0 a0_1 a0_2 a0_3 a0_4 a0_5 a0_6 a0_7 a0_8 a0_9 a0_10 a0_11 a0_12 a0_13 a0_14 a0_15 = some r) ∧ Aside0 (kq ≤ kj1) ∧ Aside0 (Kd.R (Kd.int .u8) 5 wc w.heap.size (fun _ => True) v358 y357) ∧ Aside0 (wc.heap[gb356]? = some (.cells #[.int .i64 a0_0, .int .i64 a0_1, .string a0_2, .int .i64 a0_3, .int .i64 a0_4, .int .i64 a0_5, .string a0_6, .int .i64 a0_7, .int .i64 a0_8, .int .i64 a0_9, .string a0_10, .int .i64 a0_11, .int .i64 a0_12, .int .i64 a0_13, .int .i64 a0_14, .int .i64 a0_15] 48 (0, 0))) ∧ Aside0 (Below w.heap.size w wc))
    case first =>
     have H := HC52.out
     clear HC52
     by_cases c53 : a0_0 = 2
     ·
      rw [if_pos c53] at H
      have c53b0 : (a0_0 == 2) = true := beq_iff_eq.mpr c53
      have c53b1 : (a0_0 != 2) = false := bne_eq_false_iff_eq.mpr c53
      clear c53
      (first | rw [c53b0] | rw [c53b1] | (simp only [i64_w, i32_w]; rw [c53b0]) | skip)
      obtain ⟨t389, A54, H⟩ := bd_ H
      by_cases c55 : t389 = true
      ·
       subst c55
       rw [if_pos rfl] at H
       by_cases c56 : (a0_1 == 0 && (a0_2.toList == ([] : List UInt8) && (a0_3 == 0 && (a0_4 == 0 && (a0_5 == 0 && (a0_6.toList == ([] : List UInt8) && (a0_7 == 0 && (a0_8 == 0)))))))) = true
       ·
        rw [if_pos c56] at H
        have c56b0 : (a0_1 == 0 && (a0_2.toList == ([] : List UInt8) && (a0_3 == 0 && (a0_4 == 0 && (a0_5 == 0 && (a0_6.toList == ([] : List UInt8) && (a0_7 == 0 && (a0_8 == 0)))))))) = true := c56
        (try (have c56b0e := c56b0; simp only [Go.Proofs.YtahfemlfdpbkkaaV.beq_nil, Go.Proofs.YtahfemlfdpbkkaaV.bne_nil] at c56b0e))
        (try (have c56b1 : decide (a0_1 = 0 && (a0_2.toList == ([] : List UInt8) && (a0_3 == 0 && (a0_4 == 0 && (a0_5 == 0 && (a0_6.toList == ([] : List UInt8) && (a0_7 == 0 && (a0_8 == 0)))))))) = true := by simpa using c56))
        (try (have c56b1e := c56b1; simp only [Go.Proofs.YtahfemlfdpbkkaaV.beq_nil, Go.Proofs.YtahfemlfdpbkkaaV.bne_nil] at c56b1e))
        (try (have c56b2 : (a0_1 == 0 && (a0_2.toList == ([] : List UInt8) && (a0_3 == 0 && (a0_4 == 0 && (a0_5 == 0 && (a0_6.toList == ([] : List UInt8) && (a0_7 == 0 && (a0_8 == 0)))))))) = true := by simpa using c56))
        (try (have c56b2e := c56b2; simp only [Go.Proofs.YtahfemlfdpbkkaaV.beq_nil, Go.Proofs.YtahfemlfdpbkkaaV.bne_nil] at c56b2e))
        clear c56
        obtain ⟨t390, A57, H⟩ := bd_ H
        have H' := Aside0.mk H
        clear H
        obtain ⟨z58_0, z58_1, z58_2, z58_3, z58_4, z58_5, z58_6, z58_7, z58_8, z58_9, z58_10, z58_11, z58_12, z58_13, z58_14, z58_15⟩ := cz16 BK356.out
        obtain ⟨f58_0, f58_1, f58_2, f58_3, f58_4, f58_5, f58_6, f58_7, f58_8, f58_9, f58_10, f58_11, f58_12, f58_13, f58_14, f58_15⟩ := fz16 BK356.out
        go_wp2_with (first | (go_at_call 84; (with_reducible refine (impl_LineOk.calls kj1 a0_9 a0_10 a0_11 a0_12 a0_13 a0_14 a0_15 true _ A54.out).mono ?_); rintro e w59 ⟨rfl, hb⟩; replace HO_3 := am_ (Kd.R_below (qR HO_3) hb); replace BK356 := am_ (blk_below (qK BK356) hb); replace HB := am_ (below_step (qB HB) hb); (try clear hb); (try clear hb2); (try clear hk); (try clear hi); obtain ⟨z60_0, z60_1, z60_2, z60_3, z60_4, z60_5, z60_6, z60_7, z60_8, z60_9, z60_10, z60_11, z60_12, z60_13, z60_14, z60_15⟩ := cz16 BK356.out; obtain ⟨f60_0, f60_1, f60_2, f60_3, f60_4, f60_5, f60_6, f60_7, f60_8, f60_9, f60_10, f60_11, f60_12, f60_13, f60_14, f60_15⟩ := fz16 BK356.out) | (go_at_call 80; (with_reducible refine (impl_wordOk.calls a0_15 t390 _ A57.out).mono ?_); rintro e w' ⟨rfl, ⟨nd, rfl⟩⟩))
        go_meet
        case rel => exact ⟨_, (t390), eqq_, H', ⟨by have := HJ1.out; first | omega | exact Nat.le_refl _⟩, ⟨qR HO_3⟩, ⟨qK BK356⟩, ⟨qB HB⟩⟩
       ·
        rw [if_neg c56] at H
        have c56b0 : (a0_1 == 0 && (a0_2.toList == ([] : List UInt8) && (a0_3 == 0 && (a0_4 == 0 && (a0_5 == 0 && (a0_6.toList == ([] : List UInt8) && (a0_7 == 0 && (a0_8 == 0)))))))) = false := by simpa using c56
        (try (have c56b0e := c56b0; simp only [Go.Proofs.YtahfemlfdpbkkaaV.beq_nil, Go.Proofs.YtahfemlfdpbkkaaV.bne_nil] at c56b0e))
        (try (have c56b1 : decide (a0_1 = 0 && (a0_2.toList == ([] : List UInt8) && (a0_3 == 0 && (a0_4 == 0 && (a0_5 == 0 && (a0_6.toList == ([] : List UInt8) && (a0_7 == 0 && (a0_8 == 0)))))))) = false := by simpa using c56))
        (try (have c56b1e := c56b1; simp only [Go.Proofs.YtahfemlfdpbkkaaV.beq_nil, Go.Proofs.YtahfemlfdpbkkaaV.bne_nil] at c56b1e))
        (try (have c56b2 : (a0_1 == 0 && (a0_2.toList == ([] : List UInt8) && (a0_3 == 0 && (a0_4 == 0 && (a0_5 == 0 && (a0_6.toList == ([] : List UInt8) && (a0_7 == 0 && (a0_8 == 0)))))))) = false := by simpa using c56))
        (try (have c56b2e := c56b2; simp only [Go.Proofs.YtahfemlfdpbkkaaV.beq_nil, Go.Proofs.YtahfemlfdpbkkaaV.bne_nil] at c56b2e))
        (try (have c56b3 : ¬ (a0_1 = 0 && (a0_2.toList == ([] : List UInt8) && (a0_3 == 0 && (a0_4 == 0 && (a0_5 == 0 && (a0_6.toList == ([] : List UInt8) && (a0_7 == 0 && (a0_8 == 0)))))))) := by simpa using c56))
        (try (have c56b3e := c56b3; simp only [Go.Proofs.YtahfemlfdpbkkaaV.beq_nil, Go.Proofs.YtahfemlfdpbkkaaV.bne_nil] at c56b3e))
        clear c56
        have H' := Aside0.mk H
        clear H
        obtain ⟨z61_0, z61_1, z61_2, z61_3, z61_4, z61_5, z61_6, z61_7, z61_8, z61_9, z61_10, z61_11, z61_12, z61_13, z61_14, z61_15⟩ := cz16 BK356.out
        obtain ⟨f61_0, f61_1, f61_2, f61_3, f61_4, f61_5, f61_6, f61_7, f61_8, f61_9, f61_10, f61_11, f61_12, f61_13, f61_14, f61_15⟩ := fz16 BK356.out
        go_wp2_with (first | (go_at_call 84; (with_reducible refine (impl_LineOk.calls kj1 a0_9 a0_10 a0_11 a0_12 a0_13 a0_14 a0_15 true _ A54.out).mono ?_); rintro e w62 ⟨rfl, hb⟩; replace HO_3 := am_ (Kd.R_below (qR HO_3) hb); replace BK356 := am_ (blk_below (qK BK356) hb); replace HB := am_ (below_step (qB HB) hb); (try clear hb); (try clear hb2); (try clear hk); (try clear hi); obtain ⟨z63_0, z63_1, z63_2, z63_3, z63_4, z63_5, z63_6, z63_7, z63_8, z63_9, z63_10, z63_11, z63_12, z63_13, z63_14, z63_15⟩ := cz16 BK356.out; obtain ⟨f63_0, f63_1, f63_2, f63_3, f63_4, f63_5, f63_6, f63_7, f63_8, f63_9, f63_10, f63_11, f63_12, f63_13, f63_14, f63_15⟩ := fz16 BK356.out))
        go_meet
        case rel => exact ⟨_, (false), eqq_, H', ⟨by have := HJ1.out; first | omega | exact Nat.le_refl _⟩, ⟨qR HO_3⟩, ⟨qK BK356⟩, ⟨qB HB⟩⟩
      ·
       replace c55 := Bool.eq_false_iff.mpr c55
       subst c55
       rw [if_neg (show ¬ (false = true) by decide)] at H
       have H' := Aside0.mk H
       clear H
       obtain ⟨z64_0, z64_1, z64_2, z64_3, z64_4, z64_5, z64_6, z64_7, z64_8, z64_9, z64_10, z64_11, z64_12, z64_13, z64_14, z64_15⟩ := cz16 BK356.out
       obtain ⟨f64_0, f64_1, f64_2, f64_3, f64_4, f64_5, f64_6, f64_7, f64_8, f64_9, f64_10, f64_11, f64_12, f64_13, f64_14, f64_15⟩ := fz16 BK356.out
       go_wp2_with (first | (go_at_call 84; (with_reducible refine (impl_LineOk.calls kj1 a0_9 a0_10 a0_11 a0_12 a0_13 a0_14 a0_15 false _ A54.out).mono ?_); rintro e w65 ⟨rfl, hb⟩; replace HO_3 := am_ (Kd.R_below (qR HO_3) hb); replace BK356 := am_ (blk_below (qK BK356) hb); replace HB := am_ (below_step (qB HB) hb); (try clear hb); (try clear hb2); (try clear hk); (try clear hi)))
       go_meet
       case rel => exact ⟨_, (false), eqq_, H', ⟨by have := HJ1.out; first | omega | exact Nat.le_refl _⟩, ⟨qR HO_3⟩, ⟨qK BK356⟩, ⟨qB HB⟩⟩
     ·
      rw [if_neg c53] at H
      have c53b0 : (a0_0 == 2) = false := beq_eq_false_iff_ne.mpr c53
      have c53b1 : (a0_0 != 2) = true := bne_iff_ne.mpr c53
      (first | rw [c53b0] | rw [c53b1] | (simp only [i64_w, i32_w]; rw [c53b0]) | skip)
      have H' := Aside0.mk H
      clear H
      obtain ⟨z66_0, z66_1, z66_2, z66_3, z66_4, z66_5, z66_6, z66_7, z66_8, z66_9, z66_10, z66_11, z66_12, z66_13, z66_14, z66_15⟩ := cz16 BK356.out
      obtain ⟨f66_0, f66_1, f66_2, f66_3, f66_4, f66_5, f66_6, f66_7, f66_8, f66_9, f66_10, f66_11, f66_12, f66_13, f66_14, f66_15⟩ := fz16 BK356.out
      go_wp2
      go_meet
      case rel => exact ⟨_, (false), eqq_, H', ⟨by have := HJ1.out; first | omega | exact Nat.le_refl _⟩, ⟨qR HO_3⟩, ⟨qK BK356⟩, ⟨qB HB⟩⟩
    case rest =>
     clear HC52
     try clear c2
     try clear p2
     try clear c5
     try clear c8
     try clear c21
     try clear c23
     try clear c53
     try clear c53b0
     try clear c53b1
     try clear c55
     try clear c56
     try clear c56b0
     try clear c56b1
     try clear c56b2
     (try clear z58_0 z58_1 z58_10 z58_11 z58_12 z58_13 z58_14 z58_15 z58_2 z58_3 z58_4 z58_5 z58_6 z58_7 z58_8 z58_9)
     (try clear z60_0 z60_1 z60_10 z60_11 z60_12 z60_13 z60_14 z60_15 z60_2 z60_3 z60_4 z60_5 z60_6 z60_7 z60_8 z60_9)
     (try clear z61_0 z61_1 z61_10 z61_11 z61_12 z61_13 z61_14 z61_15 z61_2 z61_3 z61_4 z61_5 z61_6 z61_7 z61_8 z61_9)
     (try clear z63_0 z63_1 z63_10 z63_11 z63_12 z63_13 z63_14 z63_15 z63_2 z63_3 z63_4 z63_5 z63_6 z63_7 z63_8 z63_9)
     (try clear z64_0 z64_1 z64_10 z64_11 z64_12 z64_13 z64_14 z64_15 z64_2 z64_3 z64_4 z64_5 z64_6 z64_7 z64_8 z64_9)
     (try clear z66_0 z66_1 z66_10 z66_11 z66_12 z66_13 z66_14 z66_15 z66_2 z66_3 z66_4 z66_5 z66_6 z66_7 z66_8 z66_9)
     (try clear f58_0 f58_1 f58_10 f58_11 f58_12 f58_13 f58_14 f58_15 f58_2 f58_3 f58_4 f58_5 f58_6 f58_7 f58_8 f58_9)
     (try clear f60_0 f60_1 f60_10 f60_11 f60_12 f60_13 f60_14 f60_15 f60_2 f60_3 f60_4 f60_5 f60_6 f60_7 f60_8 f60_9)
     (try clear f61_0 f61_1 f61_10 f61_11 f61_12 f61_13 f61_14 f61_15 f61_2 f61_3 f61_4 f61_5 f61_6 f61_7 f61_8 f61_9)
     (try clear f63_0 f63_1 f63_10 f63_11 f63_12 f63_13 f63_14 f63_15 f63_2 f63_3 f63_4 f63_5 f63_6 f63_7 f63_8 f63_9)
     (try clear f64_0 f64_1 f64_10 f64_11 f64_12 f64_13 f64_14 f64_15 f64_2 f64_3 f64_4 f64_5 f64_6 f64_7 f64_8 f64_9)
     (try clear f66_0 f66_1 f66_10 f66_11 f66_12 f66_13 f66_14 f66_15 f66_2 f66_3 f66_4 f66_5 f66_6 f66_7 f66_8 f66_9)
     obtain ⟨kq, x66_51, rfl, HA, HJ51, HO_3, BK356, HB⟩ := hcut
     cases kq with
     | zero => exact absurd HA.out (by simp [impl_PutItem.j1])
     | succ kj51 =>
      have H := HA.out
      clear HA
      simp only [impl_PutItem.j1] at H
      by_cases c67 : x66_51 = true
      ·
       subst c67
       rw [if_pos rfl] at H
       obtain ⟨t391, A68, H⟩ := bd_ H
       obtain ⟨y394, hy394⟩ : ∃ y_ : List Int, y_ = (([(a0_12) % 256] : List Int)) := ⟨_, rfl⟩
       replace H := mk_ H hy394
       (try dsimp only at H)
       have Ny394 := Aside0.mk hy394
       clear hy394
       by_cases c69 : t391.length + y394.length < 140737488355328
       ·
        rw [if_pos c69] at H
        have LMc69 := Aside0.mk c69
        clear c69
        obtain ⟨y397, hy397⟩ : ∃ y_ : List Int, y_ = (t391 ++ y394) := ⟨_, rfl⟩
        replace H : ((impl_PutText.f kj51 y397 a0_10).bind fun t400 => ((impl_PutWord.f t400 a0_11).bind fun t403 => ((impl_putSince.f t403 a0_13).bind fun t406 => ((impl_PutWord.f t406 a0_14).bind fun t409 => ((impl_PutWord.f t409 a0_15).bind fun t412 => (some t412)))))) = some r := by first | (rw [hy397]; with_reducible exact H) | (have H2_ := (Option.bind_some _ _).symm.trans H; rw [hy397]; with_reducible exact H2_) | (have H2_ := (Option.bind_some _ _).symm.trans H; with_reducible exact H2_) | with_reducible exact H | (rw [hy397]; exact H) | exact H
        have Ny397 := Aside0.mk hy397
        clear hy397
        obtain ⟨t400, A70, H⟩ := bd_ H
        obtain ⟨t403, A71, H⟩ := bd_ H
        obtain ⟨t406, A72, H⟩ := bd_ H
        obtain ⟨t409, A73, H⟩ := bd_ H
        obtain ⟨t412, A74, H⟩ := bd_ H
        obtain rfl := Option.some.inj H
        obtain ⟨Ao75, co75, eo75⟩ := Kd.R_slice HO_3.out
        subst eo75
        try go_wp2
        replace HO_3 := am_ (Kd.R_drew HO_3.out)
        replace BK356 := am_ (blk_drew BK356.out)
        replace HB := am_ (below_drew1 HB.out)
        refine start_ (n := 16) (S := fun w' => w'.cell? ⟨gb356, 0, none⟩ = some (.int .i64 a0_0) ∧ w'.cell? ⟨gb356, 1, none⟩ = some (.int .i64 a0_1) ∧ w'.cell? ⟨gb356, 2, none⟩ = some (.string a0_2) ∧ w'.cell? ⟨gb356, 3, none⟩ = some (.int .i64 a0_3) ∧ w'.cell? ⟨gb356, 4, none⟩ = some (.int .i64 a0_4) ∧ w'.cell? ⟨gb356, 5, none⟩ = some (.int .i64 a0_5) ∧ w'.cell? ⟨gb356, 6, none⟩ = some (.string a0_6) ∧ w'.cell? ⟨gb356, 7, none⟩ = some (.int .i64 a0_7) ∧ w'.cell? ⟨gb356, 8, none⟩ = some (.int .i64 a0_8) ∧ w'.cell? ⟨gb356, 9, none⟩ = some (.int .i64 a0_9) ∧ w'.cell? ⟨gb356, 10, none⟩ = some (.string a0_10) ∧ w'.cell? ⟨gb356, 11, none⟩ = some (.int .i64 a0_11) ∧ w'.cell? ⟨gb356, 12, none⟩ = some (.int .i64 a0_12) ∧ w'.cell? ⟨gb356, 13, none⟩ = some (.int .i64 a0_13) ∧ w'.cell? ⟨gb356, 14, none⟩ = some (.int .i64 a0_14) ∧ w'.cell? ⟨gb356, 15, none⟩ = some (.int .i64 a0_15)) (ds := []) (rl [0,16]) (by kernel_rfl) rfl rfl (cz16 BK356.out) (fun hHeld => ?_); refine with_tabW impl_PutItem.tab7 impl_PutItem.bits7 (fun HT_ HW_ => ?_)
        generalize wc.drew = w76 at HO_3 BK356 HB hHeld ⊢
        refine pz_ (i := 0) (N := some 87) HT_ (rl [1,15]) rfl rfl ?_
        refine pz_ (i := 1) (N := some 88) HT_ (rl [2,14]) rfl rfl ?_
        refine pz_ (i := 2) (N := some 89) HT_ (rl [3,13]) rfl rfl ?_
        refine pz_ (i := 5) (N := some 92) HT_ (rl [3,2,1,10]) rfl rfl ?_
        refine pz_ (i := 6) (N := some 93) HT_ (rl [3,2,2,9]) rfl rfl ?_
        refine pz_ (i := 11) (N := some 98) HT_ (rl [3,2,2,4,1,4]) rfl rfl ?_
        refine pz_ (i := 12) (N := some 99) HT_ (rl [3,2,2,4,2,3]) rfl rfl ?_
        refine take_ (i := 3) (N := some 90) (v := ?_) (a' := ?_) (rl [4,1,2,4,2,3]) rfl rfl (take_ofW HT_.out HW_.out (by kernel_rfl)) (fun _ _ _ h => h) (Or.inl ⟨by rfl, ?_⟩) hHeld ?_ ?_
        rotate_left
        ·
         rintro w' ⟨s0, s1, s2, s3, s4, s5, s6, s7, s8, s9, s10, s11, s12, s13, s14, s15⟩
         go_simp
         with_reducible rfl
        rotate_left
        ·
         exact ap_
        refine take_ (i := 7) (N := some 94) (v := ?_) (a' := ?_) (rl [4,1,3,3,2,3]) rfl rfl (take_ofW HT_.out HW_.out (by kernel_rfl)) (fun _ _ _ h => h) (Or.inl ⟨by rfl, ?_⟩) hHeld ?_ ?_
        rotate_left
        ·
         rintro w' ⟨s0, s1, s2, s3, s4, s5, s6, s7, s8, s9, s10, s11, s12, s13, s14, s15⟩
         go_simp
         with_reducible rfl
        rotate_left
        ·
         exact ap_
        refine pz_ (i := 8) (N := some 95) HT_ (rl [4,1,4,2,2,3]) rfl rfl ?_
        refine take_ (i := 13) (N := some 100) (v := ?_) (a' := ?_) (rl [4,1,4,2,3,2]) rfl rfl (take_ofW HT_.out HW_.out (by kernel_rfl)) (fun _ _ _ h => h) (Or.inl ⟨by rfl, ?_⟩) hHeld ?_ ?_
        rotate_left
        ·
         rintro w' ⟨s0, s1, s2, s3, s4, s5, s6, s7, s8, s9, s10, s11, s12, s13, s14, s15⟩
         go_simp
         with_reducible rfl
        rotate_left
        ·
         exact ap_
        refine join_ (σ := Value × Value) 3 (rl [10,1,3,2]) (fun s_ => [(91, s_.1), (96, s_.2)]) (fun s_ w' => (w'.cell? ⟨gb356, 0, none⟩ = some (.int .i64 a0_0) ∧ w'.cell? ⟨gb356, 1, none⟩ = some (.int .i64 a0_1) ∧ w'.cell? ⟨gb356, 2, none⟩ = some (.string a0_2) ∧ w'.cell? ⟨gb356, 3, none⟩ = some (.int .i64 a0_3) ∧ w'.cell? ⟨gb356, 4, none⟩ = some (.int .i64 a0_4) ∧ w'.cell? ⟨gb356, 5, none⟩ = some (.int .i64 a0_5) ∧ w'.cell? ⟨gb356, 6, none⟩ = some (.string a0_6) ∧ w'.cell? ⟨gb356, 7, none⟩ = some (.int .i64 a0_7) ∧ w'.cell? ⟨gb356, 8, none⟩ = some (.int .i64 a0_8) ∧ w'.cell? ⟨gb356, 9, none⟩ = some (.int .i64 a0_9) ∧ w'.cell? ⟨gb356, 10, none⟩ = some (.string a0_10) ∧ w'.cell? ⟨gb356, 11, none⟩ = some (.int .i64 a0_11) ∧ w'.cell? ⟨gb356, 12, none⟩ = some (.int .i64 a0_12) ∧ w'.cell? ⟨gb356, 13, none⟩ = some (.int .i64 a0_13) ∧ w'.cell? ⟨gb356, 14, none⟩ = some (.int .i64 a0_14) ∧ w'.cell? ⟨gb356, 15, none⟩ = some (.int .i64 a0_15)) ∧ (Kd.R (Kd.int .u8) 5 w' w.heap.size (fun k_ => some k_ ≠ (s_.2 : Value).ownBlock ∧ some k_ ≠ (.slice Ao75 y357.length co75 : Value).ownBlock) s_.1 t391) ∧ (Kd.R (Kd.int .u8) 5 w' w.heap.size (fun k_ => some k_ ≠ (s_.1 : Value).ownBlock ∧ some k_ ≠ (.slice Ao75 y357.length co75 : Value).ownBlock) s_.2 y394) ∧ (Kd.R (Kd.int .u8) 5 w' w.heap.size (fun k_ => some k_ ≠ (s_.1 : Value).ownBlock ∧ some k_ ≠ (s_.2 : Value).ownBlock) (.slice Ao75 y357.length co75) y357) ∧ (w'.heap[gb356]? = some (.cells #[.int .i64 a0_0, .int .i64 a0_1, .string a0_2, .int .i64 a0_3, .int .i64 a0_4, .int .i64 a0_5, .string a0_6, .int .i64 a0_7, .int .i64 a0_8, .int .i64 a0_9, .string a0_10, .int .i64 a0_11, .int .i64 a0_12, .int .i64 a0_13, .int .i64 a0_14, .int .i64 a0_15] 48 (0, 0))) ∧ (Below w.heap.size w w')) ?_ ?_
        rotate_left
        ·
         intro hCont
         refine two_ (i := 4) (j := 9) (Ni := some 91) (Nj := some 96) (rl [9,2,3,2]) (rl [4,1,5,1,3,2]) rfl rfl rfl rfl (two_of HT_.out (by kernel_rfl)) (by decide) (by decide) (fun K hK => ?_) (fun K hK => ?_)
         ·
          skip
          refine goes_ Try.func82 (by kernel_rfl) rfl #[.slice Ao75 y357.length co75, .int .i64 a0_9] (by rfl) rfl rfl la_ ?_
          with_reducible refine (impl_PutWord.calls _ _ y357 a0_9 t391 _ ?side1 ?side2 A68.out).mono ?_
          (case side1 => exact qC ((Kd.R_reads' HO_3.out).2.2))
          (case side2 => exact (Kd.R_reads' HO_3.out).2.1)
          rintro e w77 ⟨v392, rfl, ho0, hb⟩
          refine ⟨_, rfl, ?_⟩
          have HO393 := am_ (Kd.R_lower (Kd.R_new' ho0 (Kd.R_lt (qR HO_3))) (below_size (qB HB)))
          replace HO_3 := am_ (eR HO_3 ho0 hb)
          replace BK356 := am_ (blk_below (qK BK356) hb)
          replace HB := am_ (below_step (qB HB) hb)
          (try clear hb ho0)
          refine hK.out _ _ (cz16 BK356.out) (fun hHeld => ?_)
          clear hK K
          refine norm_ (a' := ?_) ?_ ?_
          rotate_left
          ·
           show Act.put _ (some 91) _ = _
           exact ap_
          refine one_ (i := 9) (N := some 96) (rl [10,1,3,2]) rfl rfl (one_of HT_.out (by kernel_rfl)) (by decide) (fun K hK => ?_)
          refine Kd.R_lit_step (Kd.int .u8) _ 5 ?hg (N := 96) ?hd (xs := ([(a0_12) % 256] : List Int)) (inner := [.int .u8 ((a0_12) % 256)]) (ok := fun _ => True) (okp := fun _ => True) ?hr ?hp (fun _ hk => hk) trivial (Below.refl _ _) (Nat.le_refl _) (by simp) ?_; (case hd => rfl); (case hg => rfl); (case hr => first | (go_simp; done) | (go_simp; rfl)); (case hp => exact (Reps.one (show Kd.M (Kd.int .u8) _ _ _ ((a0_12) % 256) [.int .u8 ((a0_12) % 256)] from rfl) (Reps.none _ _)))
          intro v395 w78 ho79 hb hg_ hnew_
          clear hg_ hnew_
          (first | rw [← Ny394.out] at ho79 | (simp only [Int.reduceToNat] at ho79; rw [← Ny394.out] at ho79))
          have HO396 := am_ (Kd.R_lower (Kd.R_new' (Kd.R_new' ho79 (Kd.R_lt (qR HO_3))) (Kd.R_lt (qR HO393))) (below_size (qB HB)))
          replace HO_3 := am_ (eR HO_3 ho79 hb)
          replace HO393 := am_ (eR HO393 ho79 hb)
          replace BK356 := am_ (blk_below (qK BK356) hb)
          replace HB := am_ (below_step (qB HB) hb)
          clear hb ho79
          refine hK.out _ _ (cz16 BK356.out) (fun hHeld => ?_)
          clear hK K
          refine norm_ (a' := ?_) ?_ ?_
          rotate_left
          ·
           show Act.put _ (some 96) _ = _
           exact ap_
          exact norm_ (by simp only [putAll, Act.put, List.setIfInBounds_toArray, List.set_cons_zero, List.set_cons_succ]) (hCont (v392, v395) _ ⟨hHeld, (tR (Kd.R_mono HO393.out (fun _ hk => ⟨hk.2, hk.1.2⟩))), (tR (Kd.R_mono HO396.out (fun _ hk => ⟨hk.2, hk.1.2⟩))), (tR (Kd.R_mono HO_3.out (fun _ hk => ⟨hk.1.2, hk.2⟩))), (qK BK356), (qB HB)⟩)
         ·
          skip
          refine Kd.R_lit_step (Kd.int .u8) _ 5 ?hg (N := 96) ?hd (xs := ([(a0_12) % 256] : List Int)) (inner := [.int .u8 ((a0_12) % 256)]) (ok := fun _ => True) (okp := fun _ => True) ?hr ?hp (fun _ hk => hk) trivial (Below.refl _ _) (Nat.le_refl _) (by simp) ?_; (case hd => rfl); (case hg => rfl); (case hr => first | (go_simp; done) | (go_simp; rfl)); (case hp => exact (Reps.one (show Kd.M (Kd.int .u8) _ _ _ ((a0_12) % 256) [.int .u8 ((a0_12) % 256)] from rfl) (Reps.none _ _)))
          intro v395 w77 ho78 hb hg_ hnew_
          clear hg_ hnew_
          (first | rw [← Ny394.out] at ho78 | (simp only [Int.reduceToNat] at ho78; rw [← Ny394.out] at ho78))
          have HO396 := am_ (Kd.R_lower (Kd.R_new' ho78 (Kd.R_lt (qR HO_3))) (below_size (qB HB)))
          replace HO_3 := am_ (eR HO_3 ho78 hb)
          replace BK356 := am_ (blk_below (qK BK356) hb)
          replace HB := am_ (below_step (qB HB) hb)
          clear hb ho78
          refine hK.out _ _ (cz16 BK356.out) (fun hHeld => ?_)
          clear hK K
          refine norm_ (a' := ?_) ?_ ?_
          rotate_left
          ·
           show Act.put _ (some 96) _ = _
           exact ap_
          refine one_ (i := 4) (N := some 91) (rl [10,1,3,2]) rfl rfl (one_of HT_.out (by kernel_rfl)) (by decide) (fun K hK => ?_)
          refine goes_ Try.func82 (by kernel_rfl) rfl #[.slice Ao75 y357.length co75, .int .i64 a0_9] (by rfl) rfl rfl la_ ?_
          with_reducible refine (impl_PutWord.calls _ _ y357 a0_9 t391 _ ?side1 ?side2 A68.out).mono ?_
          (case side1 => exact qC ((Kd.R_reads' HO_3.out).2.2))
          (case side2 => exact (Kd.R_reads' HO_3.out).2.1)
          rintro e w79 ⟨v392, rfl, ho0, hb⟩
          refine ⟨_, rfl, ?_⟩
          have HO393 := am_ (Kd.R_lower (Kd.R_new' (Kd.R_new' ho0 (Kd.R_lt (qR HO_3))) (Kd.R_lt (qR HO396))) (below_size (qB HB)))
          replace HO_3 := am_ (eR HO_3 ho0 hb)
          replace HO396 := am_ (eR HO396 ho0 hb)
          replace BK356 := am_ (blk_below (qK BK356) hb)
          replace HB := am_ (below_step (qB HB) hb)
          (try clear hb ho0)
          refine hK.out _ _ (cz16 BK356.out) (fun hHeld => ?_)
          clear hK K
          refine norm_ (a' := ?_) ?_ ?_
          rotate_left
          ·
           show Act.put _ (some 91) _ = _
           exact ap_
          exact norm_ (by simp only [putAll, Act.put, List.setIfInBounds_toArray, List.set_cons_zero, List.set_cons_succ]) (hCont (v392, v395) _ ⟨hHeld, (tR (Kd.R_mono HO393.out (fun _ hk => ⟨hk.2, hk.1.2⟩))), (tR (Kd.R_mono HO396.out (fun _ hk => ⟨hk.2, hk.1.2⟩))), (tR (Kd.R_mono HO_3.out (fun _ hk => ⟨hk.2, hk.1.2⟩))), (qK BK356), (qB HB)⟩)
        rintro ⟨v392, v395⟩ w80 ⟨hS_, h0_, h1_, h2_, h3_, h4_⟩
        have n0_ : Aside0 (Kd.R (Kd.int .u8) 5 w80 w.heap.size (fun k_ => some k_ ≠ (v395 : Value).ownBlock ∧ some k_ ≠ (.slice Ao75 y357.length co75 : Value).ownBlock) v392 t391) := ⟨h0_⟩
        have n1_ : Aside0 (Kd.R (Kd.int .u8) 5 w80 w.heap.size (fun k_ => some k_ ≠ (v392 : Value).ownBlock ∧ some k_ ≠ (.slice Ao75 y357.length co75 : Value).ownBlock) v395 y394) := ⟨h1_⟩
        have n2_ : Aside0 (Kd.R (Kd.int .u8) 5 w80 w.heap.size (fun k_ => some k_ ≠ (v392 : Value).ownBlock ∧ some k_ ≠ (v395 : Value).ownBlock) (.slice Ao75 y357.length co75) y357) := ⟨h2_⟩
        have n3_ : Aside0 (w80.heap[gb356]? = some (.cells #[.int .i64 a0_0, .int .i64 a0_1, .string a0_2, .int .i64 a0_3, .int .i64 a0_4, .int .i64 a0_5, .string a0_6, .int .i64 a0_7, .int .i64 a0_8, .int .i64 a0_9, .string a0_10, .int .i64 a0_11, .int .i64 a0_12, .int .i64 a0_13, .int .i64 a0_14, .int .i64 a0_15] 48 (0, 0))) := ⟨h3_⟩
        have n4_ : Aside0 (Below w.heap.size w w80) := ⟨h4_⟩
        clear HO_3
        clear BK356
        clear HB
        clear h0_ h1_ h2_ h3_ h4_
        have HO393 := n0_
        have HO396 := n1_
        have HO_3 := n2_
        have BK356 := n3_
        have HB := n4_
        clear n0_ n1_ n2_ n3_ n4_
        have hHeld : w80.cell? ⟨gb356, 0, none⟩ = some (.int .i64 a0_0) ∧ w80.cell? ⟨gb356, 1, none⟩ = some (.int .i64 a0_1) ∧ w80.cell? ⟨gb356, 2, none⟩ = some (.string a0_2) ∧ w80.cell? ⟨gb356, 3, none⟩ = some (.int .i64 a0_3) ∧ w80.cell? ⟨gb356, 4, none⟩ = some (.int .i64 a0_4) ∧ w80.cell? ⟨gb356, 5, none⟩ = some (.int .i64 a0_5) ∧ w80.cell? ⟨gb356, 6, none⟩ = some (.string a0_6) ∧ w80.cell? ⟨gb356, 7, none⟩ = some (.int .i64 a0_7) ∧ w80.cell? ⟨gb356, 8, none⟩ = some (.int .i64 a0_8) ∧ w80.cell? ⟨gb356, 9, none⟩ = some (.int .i64 a0_9) ∧ w80.cell? ⟨gb356, 10, none⟩ = some (.string a0_10) ∧ w80.cell? ⟨gb356, 11, none⟩ = some (.int .i64 a0_11) ∧ w80.cell? ⟨gb356, 12, none⟩ = some (.int .i64 a0_12) ∧ w80.cell? ⟨gb356, 13, none⟩ = some (.int .i64 a0_13) ∧ w80.cell? ⟨gb356, 14, none⟩ = some (.int .i64 a0_14) ∧ w80.cell? ⟨gb356, 15, none⟩ = some (.int .i64 a0_15) := hS_
        obtain ⟨Ao82, co82, eo82⟩ := Kd.R_slice HO396.out
        (first | subst eo82 | (injection eo82 with f1_ f2_ f3_; have f4_ := f1_.symm; have f5_ := f3_.symm; clear f1_ f2_ f3_; subst f4_; subst f5_))
        refine norm_ (a' := ?_) ?_ ?_
        rotate_left
        ·
         simp only [putAll, Act.put, List.setIfInBounds_toArray, List.set_cons_zero, List.set_cons_succ]
         rfl
        refine one_ (i := 10) (N := some 97) (rl [14,2]) rfl rfl (one_of HT_.out (by kernel_rfl)) (by decide) (fun K hK => ?_)
        refine Kd.R_append_rows_step (Kd.int .u8) (w0 := w) w.heap.size (by rfl) (.tmp 91) (.tmp 96) 22 5 (.int .u8 0) 1 rfl Try.underlying22 info5 rfl (by decide) (by omega) v392 t391 y394 _ _ _ (fun k_ => some k_ ≠ (.slice Ao75 y357.length co75 : Value).ownBlock ∧ some k_ ≠ (.slice Ao82 y394.length co82 : Value).ownBlock) (fun _ => False) rfl rfl ?aO ?aR (fun _ _ h => h) (fun _ h => h.elim) ?aF ?aB ?aS ?aL ?_
        (case aR => exact qC ((Kd.R_reads' HO396.out).2.2))
        (case aB => exact (qB HB))
        (case aF => exact (fun k_ hk => ⟨Kd.fresh' (Kd.R_lt (qR HO_3)) k_ hk, Kd.fresh' (Kd.R_lt (qR HO396)) k_ hk⟩))
        (case aO => exact (tR (Kd.R_mono HO393.out (fun _ hk => ⟨hk.2, hk.1⟩))))
        (case aS => exact (below_size (qB HB)))
        (case aL => have := LMc69.out; omega)
        intro v398 w81 ho hb hg hat
        rw [← Ny397.out] at ho
        replace HO_3 := am_ (Kd.R_after (ok := (fun k_ => some k_ ≠ (.slice Ao82 y394.length co82 : Value).ownBlock)) (tR (Kd.R_mono HO_3.out (fun _ hk => ⟨hk.2, hk.1⟩))) hg hat)
        replace BK356 := am_ (blk_grown (qK BK356) hg (Kd.R_ne HO393.out BK356.out (by decide)))
        replace HO396 := am_ (Kd.R_after (ok := (fun k_ => some k_ ≠ (.slice Ao75 y357.length co75 : Value).ownBlock)) (tR (Kd.R_mono HO396.out (fun _ hk => ⟨hk.2, hk.1⟩))) hg hat)
        replace HB := am_ (hb)
        have HO399 := am_ (ho)
        clear HO393
        clear ho hb hg hat
        obtain ⟨Ao83, co83, eo83⟩ := Kd.R_slice HO399.out
        (first | subst eo83 | (injection eo83 with f1_ f2_ f3_; have f4_ := f1_.symm; have f5_ := f3_.symm; clear f1_ f2_ f3_; subst f4_; subst f5_))
        refine hK.out _ _ (cz16 BK356.out) (fun hHeld => ?_)
        clear hK K
        refine norm_ (a' := ?_) ?_ ?_
        rotate_left
        ·
         show Act.put _ (some 97) _ = _
         exact ap_
        refine one_ (i := 14) (N := some 101) (rl [15,1]) rfl rfl (one_of HT_.out (by kernel_rfl)) (by decide) (fun K hK => ?_)
        refine goes_ Try.func81 (by kernel_rfl) rfl #[.slice Ao83 y397.length co83, .string a0_10] (by rfl) rfl rfl la_ ?_
        with_reducible refine (impl_PutText.calls kj51 _ _ y397 a0_10 t400 _ ?side1 ?side2 A70.out).mono ?_
        (case side1 => exact qC ((Kd.R_reads' HO399.out).2.2))
        (case side2 => exact (Kd.R_reads' HO399.out).2.1)
        rintro e w84 ⟨v401, rfl, ho0, hb⟩
        refine ⟨_, rfl, ?_⟩
        have HO402 := am_ (Kd.R_lower (Kd.R_new' (Kd.R_new' (Kd.R_new' ho0 (Kd.R_lt (qR HO_3))) (Kd.R_lt (qR HO396))) (Kd.R_lt (qR HO399))) (below_size (qB HB)))
        replace HO_3 := am_ (eR HO_3 ho0 hb)
        replace HO396 := am_ (eR HO396 ho0 hb)
        replace HO399 := am_ (eR HO399 ho0 hb)
        replace BK356 := am_ (blk_below (qK BK356) hb)
        replace HB := am_ (below_step (qB HB) hb)
        (try clear hb ho0)
        refine hK.out _ _ (cz16 BK356.out) (fun hHeld => ?_)
        clear hK K
        refine norm_ (a' := ?_) ?_ ?_
        rotate_left
        ·
         show Act.put _ (some 101) _ = _
         exact ap_
        refine pz_ (i := 15) (N := some 3) HT_ (rl [16]) rfl rfl ?_
        refine done_ (done_of HT_.out (by kernel_rfl)) ?_
        try go_wp2
        replace HO_3 := am_ (Kd.R_drew HO_3.out)
        replace HO396 := am_ (Kd.R_drew HO396.out)
        replace HO399 := am_ (Kd.R_drew HO399.out)
        replace HO402 := am_ (Kd.R_drew HO402.out)
        replace BK356 := am_ (blk_drew BK356.out)
        replace HB := am_ (below_drew1 HB.out)
        obtain ⟨Ao86, co86, eo86⟩ := Kd.R_slice HO402.out
        (first | subst eo86 | (injection eo86 with f1_ f2_ f3_; have f4_ := f1_.symm; have f5_ := f3_.symm; clear f1_ f2_ f3_; subst f4_; subst f5_))
        refine start_ (n := 10) (S := fun w' => w'.cell? ⟨gb356, 0, none⟩ = some (.int .i64 a0_0) ∧ w'.cell? ⟨gb356, 1, none⟩ = some (.int .i64 a0_1) ∧ w'.cell? ⟨gb356, 2, none⟩ = some (.string a0_2) ∧ w'.cell? ⟨gb356, 3, none⟩ = some (.int .i64 a0_3) ∧ w'.cell? ⟨gb356, 4, none⟩ = some (.int .i64 a0_4) ∧ w'.cell? ⟨gb356, 5, none⟩ = some (.int .i64 a0_5) ∧ w'.cell? ⟨gb356, 6, none⟩ = some (.string a0_6) ∧ w'.cell? ⟨gb356, 7, none⟩ = some (.int .i64 a0_7) ∧ w'.cell? ⟨gb356, 8, none⟩ = some (.int .i64 a0_8) ∧ w'.cell? ⟨gb356, 9, none⟩ = some (.int .i64 a0_9) ∧ w'.cell? ⟨gb356, 10, none⟩ = some (.string a0_10) ∧ w'.cell? ⟨gb356, 11, none⟩ = some (.int .i64 a0_11) ∧ w'.cell? ⟨gb356, 12, none⟩ = some (.int .i64 a0_12) ∧ w'.cell? ⟨gb356, 13, none⟩ = some (.int .i64 a0_13) ∧ w'.cell? ⟨gb356, 14, none⟩ = some (.int .i64 a0_14) ∧ w'.cell? ⟨gb356, 15, none⟩ = some (.int .i64 a0_15)) (ds := []) #[oo,oo,oo,oo,oo,oo,oo,oo,oo,oo] (by kernel_rfl) rfl rfl (cz16 BK356.out) (fun hHeld => ?_); refine with_tabW impl_PutItem.tab8 impl_PutItem.bits8 (fun HT_ HW_ => ?_)
        generalize w84.drew = w85 at HO_3 HO396 HO399 HO402 BK356 HB hHeld ⊢
        refine pz_ (i := 0) (N := some 102) HT_ #[ii,oo,oo,oo,oo,oo,oo,oo,oo,oo] rfl rfl ?_
        refine pz_ (i := 1) (N := some 103) HT_ #[ii,ii,oo,oo,oo,oo,oo,oo,oo,oo] rfl rfl ?_
        refine pz_ (i := 2) (N := some 104) HT_ #[ii,ii,ii,oo,oo,oo,oo,oo,oo,oo] rfl rfl ?_
        refine pz_ (i := 5) (N := some 107) HT_ #[ii,ii,ii,oo,oo,ii,oo,oo,oo,oo] rfl rfl ?_
        refine pz_ (i := 6) (N := some 108) HT_ #[ii,ii,ii,oo,oo,ii,ii,oo,oo,oo] rfl rfl ?_
        refine take_ (i := 3) (N := some 105) (v := ?_) (a' := ?_) #[ii,ii,ii,ii,oo,ii,ii,oo,oo,oo] rfl rfl (take_ofW HT_.out HW_.out (by kernel_rfl)) (fun _ _ _ h => h) (Or.inl ⟨by rfl, ?_⟩) hHeld ?_ ?_
        rotate_left
        ·
         rintro w' ⟨s0, s1, s2, s3, s4, s5, s6, s7, s8, s9, s10, s11, s12, s13, s14, s15⟩
         go_simp
         with_reducible rfl
        rotate_left
        ·
         exact ap_
        refine take_ (i := 7) (N := some 109) (v := ?_) (a' := ?_) #[ii,ii,ii,ii,oo,ii,ii,ii,oo,oo] rfl rfl (take_ofW HT_.out HW_.out (by kernel_rfl)) (fun _ _ _ h => h) (Or.inl ⟨by rfl, ?_⟩) hHeld ?_ ?_
        rotate_left
        ·
         rintro w' ⟨s0, s1, s2, s3, s4, s5, s6, s7, s8, s9, s10, s11, s12, s13, s14, s15⟩
         go_simp
         with_reducible rfl
        rotate_left
        ·
         exact ap_
        refine one_ (i := 4) (N := some 106) #[ii,ii,ii,ii,ii,ii,ii,ii,oo,oo] rfl rfl (one_of HT_.out (by kernel_rfl)) (by decide) (fun K hK => ?_)
        refine goes_ Try.func82 (by kernel_rfl) rfl #[.slice Ao86 t400.length co86, .int .i64 a0_11] (by rfl) rfl rfl la_ ?_
        with_reducible refine (impl_PutWord.calls _ _ t400 a0_11 t403 _ ?side1 ?side2 A71.out).mono ?_
        (case side1 => exact qC ((Kd.R_reads' HO402.out).2.2))
        (case side2 => exact (Kd.R_reads' HO402.out).2.1)
        rintro e w87 ⟨v404, rfl, ho0, hb⟩
        refine ⟨_, rfl, ?_⟩
        have HO405 := am_ (Kd.R_lower (Kd.R_new' (Kd.R_new' (Kd.R_new' (Kd.R_new' ho0 (Kd.R_lt (qR HO_3))) (Kd.R_lt (qR HO396))) (Kd.R_lt (qR HO399))) (Kd.R_lt (qR HO402))) (below_size (qB HB)))
        replace HO_3 := am_ (eR HO_3 ho0 hb)
        replace HO396 := am_ (eR HO396 ho0 hb)
        replace HO399 := am_ (eR HO399 ho0 hb)
        replace HO402 := am_ (eR HO402 ho0 hb)
        replace BK356 := am_ (blk_below (qK BK356) hb)
        replace HB := am_ (below_step (qB HB) hb)
        (try clear hb ho0)
        obtain ⟨Ao88, co88, eo88⟩ := Kd.R_slice HO405.out
        (first | subst eo88 | (injection eo88 with f1_ f2_ f3_; have f4_ := f1_.symm; have f5_ := f3_.symm; clear f1_ f2_ f3_; subst f4_; subst f5_))
        refine hK.out _ _ (cz16 BK356.out) (fun hHeld => ?_)
        clear hK K
        refine norm_ (a' := ?_) ?_ ?_
        rotate_left
        ·
         show Act.put _ (some 106) _ = _
         exact ap_
        refine one_ (i := 8) (N := some 110) #[ii,ii,ii,ii,ii,ii,ii,ii,ii,oo] rfl rfl (one_of HT_.out (by kernel_rfl)) (by decide) (fun K hK => ?_)
        refine goes_ Try.func83 (by kernel_rfl) rfl #[.slice Ao88 t403.length co88, .int .i64 a0_13] (by rfl) rfl rfl la_ ?_
        with_reducible refine (impl_putSince.calls _ _ t403 a0_13 t406 _ ?side1 ?side2 A72.out).mono ?_
        (case side1 => exact qC ((Kd.R_reads' HO405.out).2.2))
        (case side2 => exact (Kd.R_reads' HO405.out).2.1)
        rintro e w89 ⟨v407, rfl, ho0, hb⟩
        refine ⟨_, rfl, ?_⟩
        have HO408 := am_ (Kd.R_lower (Kd.R_new' (Kd.R_new' (Kd.R_new' (Kd.R_new' (Kd.R_new' ho0 (Kd.R_lt (qR HO_3))) (Kd.R_lt (qR HO396))) (Kd.R_lt (qR HO399))) (Kd.R_lt (qR HO402))) (Kd.R_lt (qR HO405))) (below_size (qB HB)))
        replace HO_3 := am_ (eR HO_3 ho0 hb)
        replace HO396 := am_ (eR HO396 ho0 hb)
        replace HO399 := am_ (eR HO399 ho0 hb)
        replace HO402 := am_ (eR HO402 ho0 hb)
        replace HO405 := am_ (eR HO405 ho0 hb)
        replace BK356 := am_ (blk_below (qK BK356) hb)
        replace HB := am_ (below_step (qB HB) hb)
        (try clear hb ho0)
        refine hK.out _ _ (cz16 BK356.out) (fun hHeld => ?_)
        clear hK K
        refine norm_ (a' := ?_) ?_ ?_
        rotate_left
        ·
         show Act.put _ (some 110) _ = _
         exact ap_
        refine pz_ (i := 9) (N := some 3) HT_ #[ii,ii,ii,ii,ii,ii,ii,ii,ii,ii] rfl rfl ?_
        refine done_ (done_of HT_.out (by kernel_rfl)) ?_
        try go_wp2
        replace HO_3 := am_ (Kd.R_drew HO_3.out)
        replace HO396 := am_ (Kd.R_drew HO396.out)
        replace HO399 := am_ (Kd.R_drew HO399.out)
        replace HO402 := am_ (Kd.R_drew HO402.out)
        replace HO405 := am_ (Kd.R_drew HO405.out)
        replace HO408 := am_ (Kd.R_drew HO408.out)
        replace BK356 := am_ (blk_drew BK356.out)
        replace HB := am_ (below_drew1 HB.out)
        obtain ⟨Ao91, co91, eo91⟩ := Kd.R_slice HO408.out
        (first | subst eo91 | (injection eo91 with f1_ f2_ f3_; have f4_ := f1_.symm; have f5_ := f3_.symm; clear f1_ f2_ f3_; subst f4_; subst f5_))
        refine start_ (n := 10) (S := fun w' => w'.cell? ⟨gb356, 0, none⟩ = some (.int .i64 a0_0) ∧ w'.cell? ⟨gb356, 1, none⟩ = some (.int .i64 a0_1) ∧ w'.cell? ⟨gb356, 2, none⟩ = some (.string a0_2) ∧ w'.cell? ⟨gb356, 3, none⟩ = some (.int .i64 a0_3) ∧ w'.cell? ⟨gb356, 4, none⟩ = some (.int .i64 a0_4) ∧ w'.cell? ⟨gb356, 5, none⟩ = some (.int .i64 a0_5) ∧ w'.cell? ⟨gb356, 6, none⟩ = some (.string a0_6) ∧ w'.cell? ⟨gb356, 7, none⟩ = some (.int .i64 a0_7) ∧ w'.cell? ⟨gb356, 8, none⟩ = some (.int .i64 a0_8) ∧ w'.cell? ⟨gb356, 9, none⟩ = some (.int .i64 a0_9) ∧ w'.cell? ⟨gb356, 10, none⟩ = some (.string a0_10) ∧ w'.cell? ⟨gb356, 11, none⟩ = some (.int .i64 a0_11) ∧ w'.cell? ⟨gb356, 12, none⟩ = some (.int .i64 a0_12) ∧ w'.cell? ⟨gb356, 13, none⟩ = some (.int .i64 a0_13) ∧ w'.cell? ⟨gb356, 14, none⟩ = some (.int .i64 a0_14) ∧ w'.cell? ⟨gb356, 15, none⟩ = some (.int .i64 a0_15)) (ds := []) #[oo,oo,oo,oo,oo,oo,oo,oo,oo,oo] (by kernel_rfl) rfl rfl (cz16 BK356.out) (fun hHeld => ?_); refine with_tabW impl_PutItem.tab9 impl_PutItem.bits9 (fun HT_ HW_ => ?_)
        generalize w89.drew = w90 at HO_3 HO396 HO399 HO402 HO405 HO408 BK356 HB hHeld ⊢
        refine pz_ (i := 0) (N := some 111) HT_ #[ii,oo,oo,oo,oo,oo,oo,oo,oo,oo] rfl rfl ?_
        refine pz_ (i := 1) (N := some 112) HT_ #[ii,ii,oo,oo,oo,oo,oo,oo,oo,oo] rfl rfl ?_
        refine pz_ (i := 2) (N := some 113) HT_ #[ii,ii,ii,oo,oo,oo,oo,oo,oo,oo] rfl rfl ?_
        refine pz_ (i := 5) (N := some 116) HT_ #[ii,ii,ii,oo,oo,ii,oo,oo,oo,oo] rfl rfl ?_
        refine pz_ (i := 6) (N := some 117) HT_ #[ii,ii,ii,oo,oo,ii,ii,oo,oo,oo] rfl rfl ?_
        refine take_ (i := 3) (N := some 114) (v := ?_) (a' := ?_) #[ii,ii,ii,ii,oo,ii,ii,oo,oo,oo] rfl rfl (take_ofW HT_.out HW_.out (by kernel_rfl)) (fun _ _ _ h => h) (Or.inl ⟨by rfl, ?_⟩) hHeld ?_ ?_
        rotate_left
        ·
         rintro w' ⟨s0, s1, s2, s3, s4, s5, s6, s7, s8, s9, s10, s11, s12, s13, s14, s15⟩
         go_simp
         with_reducible rfl
        rotate_left
        ·
         exact ap_
        refine take_ (i := 7) (N := some 118) (v := ?_) (a' := ?_) #[ii,ii,ii,ii,oo,ii,ii,ii,oo,oo] rfl rfl (take_ofW HT_.out HW_.out (by kernel_rfl)) (fun _ _ _ h => h) (Or.inl ⟨by rfl, ?_⟩) hHeld ?_ ?_
        rotate_left
        ·
         rintro w' ⟨s0, s1, s2, s3, s4, s5, s6, s7, s8, s9, s10, s11, s12, s13, s14, s15⟩
         go_simp
         with_reducible rfl
        rotate_left
        ·
         exact ap_
        refine one_ (i := 4) (N := some 115) #[ii,ii,ii,ii,ii,ii,ii,ii,oo,oo] rfl rfl (one_of HT_.out (by kernel_rfl)) (by decide) (fun K hK => ?_)
        refine goes_ Try.func82 (by kernel_rfl) rfl #[.slice Ao91 t406.length co91, .int .i64 a0_14] (by rfl) rfl rfl la_ ?_
        with_reducible refine (impl_PutWord.calls _ _ t406 a0_14 t409 _ ?side1 ?side2 A73.out).mono ?_
        (case side1 => exact qC ((Kd.R_reads' HO408.out).2.2))
        (case side2 => exact (Kd.R_reads' HO408.out).2.1)
        rintro e w92 ⟨v410, rfl, ho0, hb⟩
        refine ⟨_, rfl, ?_⟩
        have HO411 := am_ (Kd.R_lower (Kd.R_new' (Kd.R_new' (Kd.R_new' (Kd.R_new' (Kd.R_new' (Kd.R_new' ho0 (Kd.R_lt (qR HO_3))) (Kd.R_lt (qR HO396))) (Kd.R_lt (qR HO399))) (Kd.R_lt (qR HO402))) (Kd.R_lt (qR HO405))) (Kd.R_lt (qR HO408))) (below_size (qB HB)))
        replace HO_3 := am_ (eR HO_3 ho0 hb)
        replace HO396 := am_ (eR HO396 ho0 hb)
        replace HO399 := am_ (eR HO399 ho0 hb)
        replace HO402 := am_ (eR HO402 ho0 hb)
        replace HO405 := am_ (eR HO405 ho0 hb)
        replace HO408 := am_ (eR HO408 ho0 hb)
        replace BK356 := am_ (blk_below (qK BK356) hb)
        replace HB := am_ (below_step (qB HB) hb)
        (try clear hb ho0)
        obtain ⟨Ao93, co93, eo93⟩ := Kd.R_slice HO411.out
        (first | subst eo93 | (injection eo93 with f1_ f2_ f3_; have f4_ := f1_.symm; have f5_ := f3_.symm; clear f1_ f2_ f3_; subst f4_; subst f5_))
        refine hK.out _ _ (cz16 BK356.out) (fun hHeld => ?_)
        clear hK K
        refine norm_ (a' := ?_) ?_ ?_
        rotate_left
        ·
         show Act.put _ (some 115) _ = _
         exact ap_
        refine one_ (i := 8) (N := some 119) #[ii,ii,ii,ii,ii,ii,ii,ii,ii,oo] rfl rfl (one_of HT_.out (by kernel_rfl)) (by decide) (fun K hK => ?_)
        refine goes_ Try.func82 (by kernel_rfl) rfl #[.slice Ao93 t409.length co93, .int .i64 a0_15] (by rfl) rfl rfl la_ ?_
        with_reducible refine (impl_PutWord.calls _ _ t409 a0_15 t412 _ ?side1 ?side2 A74.out).mono ?_
        (case side1 => exact qC ((Kd.R_reads' HO411.out).2.2))
        (case side2 => exact (Kd.R_reads' HO411.out).2.1)
        rintro e w94 ⟨v413, rfl, ho0, hb⟩
        refine ⟨_, rfl, ?_⟩
        have HO414 := am_ (Kd.R_lower (Kd.R_new' (Kd.R_new' (Kd.R_new' (Kd.R_new' (Kd.R_new' (Kd.R_new' (Kd.R_new' ho0 (Kd.R_lt (qR HO_3))) (Kd.R_lt (qR HO396))) (Kd.R_lt (qR HO399))) (Kd.R_lt (qR HO402))) (Kd.R_lt (qR HO405))) (Kd.R_lt (qR HO408))) (Kd.R_lt (qR HO411))) (below_size (qB HB)))
        replace HO_3 := am_ (eR HO_3 ho0 hb)
        replace HO396 := am_ (eR HO396 ho0 hb)
        replace HO399 := am_ (eR HO399 ho0 hb)
        replace HO402 := am_ (eR HO402 ho0 hb)
        replace HO405 := am_ (eR HO405 ho0 hb)
        replace HO408 := am_ (eR HO408 ho0 hb)
        replace HO411 := am_ (eR HO411 ho0 hb)
        replace BK356 := am_ (blk_below (qK BK356) hb)
        replace HB := am_ (below_step (qB HB) hb)
        (try clear hb ho0)
        refine hK.out _ _ (cz16 BK356.out) (fun hHeld => ?_)
        clear hK K
        refine norm_ (a' := ?_) ?_ ?_
        rotate_left
        ·
         show Act.put _ (some 119) _ = _
         exact ap_
        refine pz_ (i := 9) (N := some 2) HT_ #[ii,ii,ii,ii,ii,ii,ii,ii,ii,ii] rfl rfl ?_
        refine done_ (done_of HT_.out (by kernel_rfl)) ?_
        try go_wp2
        go_ret
        exact ⟨_, by first | rfl | (simp [errW_none, errW_some] <;> rfl) | (simp [*, errW_none, errW_some] <;> rfl), by (with_reducible repeat (first | apply Kd.R_alloc | apply Kd.R_drewN | apply Kd.R_drew)); exact Kd.R_mono HO414.out (fun _ hk => trivial), qB HB⟩
       ·
        rw [if_neg c69] at H
        exact absurd H (by simp)
      ·
       replace c67 := Bool.eq_false_iff.mpr c67
       subst c67
       rw [if_neg (show ¬ (false = true) by decide)] at H
       obtain ⟨y415, hy415⟩ : ∃ y_ : List Int, y_ = (([] : List Int)) := ⟨_, rfl⟩
       rw [← hy415] at H
       have Ny415 := Aside0.mk hy415
       clear hy415
       obtain rfl := Option.some.inj H
       go_wp2_with (first | ((with_reducible refine gate_dst (N := 120) rfl ?_); refine Kd.R_lit (Kd.int .u8) _ 5 ?hg (N := 120) ?hd (xs := ([] : List Int)) (inner := []) (ok := fun _ => True) (okp := fun _ => True) ?hr ?hp (fun _ hk => hk) trivial (Below.refl _ _) (Nat.le_refl _) (by simp) ?_; (case hd => rfl); (case hg => rfl); (case hr => first | (go_simp; done) | (go_simp; rfl)); (case hp => exact (Reps.none _ _)); intro v416 w95 ho96 hb hg_ hnew_; clear hg_ hnew_; (first | rw [← Ny415.out] at ho96 | (simp only [Int.reduceToNat] at ho96; rw [← Ny415.out] at ho96)); have HO417 := am_ (Kd.R_lower (Kd.R_new' ho96 (Kd.R_lt (qR HO_3))) (below_size (qB HB))); replace HO_3 := am_ (eR HO_3 ho96 hb); replace BK356 := am_ (blk_below (qK BK356) hb); replace HB := am_ (below_step (qB HB) hb); clear hb ho96))
       go_ret
       exact ⟨_, by first | rfl | (simp [errW_none, errW_some] <;> rfl) | (simp [*, errW_none, errW_some] <;> rfl), by (with_reducible repeat (first | apply Kd.R_alloc | apply Kd.R_drewN | apply Kd.R_drew)); exact Kd.R_mono HO417.out (fun _ hk => trivial), qB HB⟩

end Go.Proofs.Ytahfemlfdpbkkaa.PFnExactGetItem
