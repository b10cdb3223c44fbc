-- Written by a program of this session (myprint.py, over the kit's print): contracts of FnExactPutCtl
import Derived.Test.YtahfemlfdpbkkaaPFnExactPutCtlx0
import Derived.Test.YtahfemlfdpbkkaaPFnExactPutCtlx1
import Derived.Test.YtahfemlfdpbkkaaPFnExactPutCtlx2
import Derived.Test.YtahfemlfdpbkkaaPFnExactPutCtlx6
import Derived.Test.YtahfemlfdpbkkaaPFnExactPutCtlx7
namespace Go.Proofs.Ytahfemlfdpbkkaa.PFnExactPutCtl
open Go.RowKit Go.Proofs.YtahfemlfdpbkkaaW.PrintWords Go.Proofs.YtahfemlfdpbkkaaW.PrintLast Go.Proofs.YtahfemlfdpbkkaaW.PrintMore Go.Proofs.YtahfemlfdpbkkaaV
attribute [local go_sem] max2_int min2_int max_two min_two max_three min_three max_four min_four   -- for this text's walks alone
set_option linter.unusedVariables false
set_option linter.unusedSimpArgs false

attribute [local go_sem high] eqA45 eqA46
/-! ### spec_PutItem: function 25 -/
mutual
def spec_PutItem.j0 : Nat → Bool → Int → ByteArray → Int → Int → Int → ByteArray → Int → Int → Option (List Int)
 | 0, _, _, _, _, _, _, _, _, _ => none
 | k + 1, x25, x224000, x224001, x224002, x224003, x224004, x224005, x224006, x224007 => if x25 = true then (some (([] : List Int))) else ((spec_PutWord.f (([1] : List Int)) x224000).bind fun t231 => ((some (([(x224002) % 256] : List Int) : List Int)).bind fun y234 => (if t231.length + y234.length < 140737488355328 then ((spec_PutText.f k (t231 ++ y234) x224001).bind fun t240 => ((spec_PutWord.f t240 x224003).bind fun t243 => ((spec_PutWord.f t243 (wrap64 (Int.tdiv x224004 256))).bind fun t246 => ((some (([(Int.tmod x224004 256) % 256] : List Int) : List Int)).bind fun y249 => (if t246.length + y249.length < 140737488355328 then ((spec_PutText.f k (t246 ++ y249) x224005).bind fun t255 => ((spec_PutWord.f t255 x224006).bind fun t258 => ((spec_PutWord.f t258 x224007).bind fun t261 => (some t261)))) else (none)))))) else (none))))
def spec_PutItem.j1 : Nat → Bool → Int → ByteArray → Int → Int → Int → Int → Int → Option (List Int)
 | 0, _, _, _, _, _, _, _, _ => none
 | k + 1, x83, x265000, x265001, x265002, x265003, x265004, x265005, x265006 => if x83 = true then (some (([] : List Int))) else ((spec_PutWord.f (([2] : List Int)) x265000).bind fun t272 => ((some (([(x265003) % 256] : List Int) : List Int)).bind fun y275 => (if t272.length + y275.length < 140737488355328 then ((spec_PutText.f k (t272 ++ y275) x265001).bind fun t281 => ((spec_PutWord.f t281 x265002).bind fun t284 => ((spec_PutWord.f t284 (wrap64 (Int.tdiv x265004 256))).bind fun t287 => ((some (([(Int.tmod x265004 256) % 256] : List Int) : List Int)).bind fun y290 => (if t287.length + y290.length < 140737488355328 then ((spec_PutWord.f (t287 ++ y290) x265005).bind fun t296 => ((spec_PutWord.f t296 x265006).bind fun t299 => (some t299))) else (none)))))) else (none))))
end
def spec_PutItem.f (k : Nat) (a0_0 : Int) (a0_1 : Int) (a0_2 : ByteArray) (a0_3 : Int) (a0_4 : Int) (a0_5 : Int) (a0_6 : ByteArray) (a0_7 : Int) (a0_8 : Int) (a0_9 : Int) (a0_10 : ByteArray) (a0_11 : Int) (a0_12 : Int) (a0_13 : Int) (a0_14 : Int) (a0_15 : Int) : Option (List Int) := if a0_0 = 1 then ((spec_AskerOk.f k a0_1 a0_2 a0_3 a0_4 a0_5 a0_6 a0_7 a0_8).bind fun t224 => (if t224 = true then (if (!(a0_9 == 0) || (!(a0_10.toList == ([] : List UInt8)) || (!(a0_11 == 0) || (!(a0_12 == 0) || (!(a0_13 == 0) || (!(a0_14 == 0) || (!(a0_15 == 0)))))))) = true then (spec_PutItem.j0 k true a0_1 a0_2 a0_3 a0_4 a0_5 a0_6 a0_7 a0_8) else (spec_PutItem.j0 k (decide (a0_8 > 65535)) a0_1 a0_2 a0_3 a0_4 a0_5 a0_6 a0_7 a0_8)) else (spec_PutItem.j0 k true a0_1 a0_2 a0_3 a0_4 a0_5 a0_6 a0_7 a0_8))) else (if a0_0 = 2 then ((spec_LineOk.f k a0_9 a0_10 a0_11 a0_12 a0_13 a0_14 a0_15).bind fun t265 => (if t265 = true then (if (!(a0_1 == 0) || (!(a0_2.toList == ([] : List UInt8)) || (!(a0_3 == 0) || (!(a0_4 == 0) || (!(a0_5 == 0) || (!(a0_6.toList == ([] : List UInt8)) || (!(a0_7 == 0) || (!(a0_8 == 0))))))))) = true then (spec_PutItem.j1 k true a0_9 a0_10 a0_11 a0_12 a0_13 a0_14 a0_15) else (spec_PutItem.j1 k (decide (a0_15 > 65535)) a0_9 a0_10 a0_11 a0_12 a0_13 a0_14 a0_15)) else (spec_PutItem.j1 k true a0_9 a0_10 a0_11 a0_12 a0_13 a0_14 a0_15))) else (spec_PutItem.j1 k true a0_9 a0_10 a0_11 a0_12 a0_13 a0_14 a0_15))
theorem spec_PutItem.mono_l : ∀ k, (∀ y0 y1 y2 y3 y4 y5 y6 y7 y8, LeO (spec_PutItem.j0 k y0 y1 y2 y3 y4 y5 y6 y7 y8) (spec_PutItem.j0 (k + 1) y0 y1 y2 y3 y4 y5 y6 y7 y8)) ∧ (∀ y0 y1 y2 y3 y4 y5 y6 y7, LeO (spec_PutItem.j1 k y0 y1 y2 y3 y4 y5 y6 y7) (spec_PutItem.j1 (k + 1) y0 y1 y2 y3 y4 y5 y6 y7))
 | 0 => ⟨fun _ _ _ _ _ _ _ _ _ r h => by simp [spec_PutItem.j0] at h, fun _ _ _ _ _ _ _ _ r h => by simp [spec_PutItem.j1] at h⟩
 | k + 1 => by
  obtain ⟨ih0, ih1⟩ := spec_PutItem.mono_l k
  refine ⟨?_, ?_⟩
  ·
   intro y0 y1 y2 y3 y4 y5 y6 y7 y8
   unfold spec_PutItem.j0
   repeat' first
   | (with_reducible exact ih0 _ _ _ _ _ _ _ _ _)
   | (with_reducible exact ih1 _ _ _ _ _ _ _ _)
   | (with_reducible exact spec_AskerOk.mono _ _ _ _ _ _ _ _ _)
   | (with_reducible exact spec_LineOk.mono _ _ _ _ _ _ _ _)
   | (with_reducible exact spec_PutText.mono _ _ _)
   | (with_reducible exact LeO.refl _)
   | (with_reducible exact LeO.none _)
   | (with_reducible refine LeO.ite ?_ ?_)
   | (with_reducible refine LeO.bind ?_ (fun _ => ?_))
   | exact ih0 _ _ _ _ _ _ _ _ _
   | exact ih1 _ _ _ _ _ _ _ _
   | exact spec_AskerOk.mono _ _ _ _ _ _ _ _ _
   | exact spec_LineOk.mono _ _ _ _ _ _ _ _
   | exact spec_PutText.mono _ _ _
   | exact LeO.none _
   | refine LeO.ite ?_ ?_
   | refine LeO.bind ?_ (fun _ => ?_)
  ·
   intro y0 y1 y2 y3 y4 y5 y6 y7
   unfold spec_PutItem.j1
   repeat' first
   | (with_reducible exact ih0 _ _ _ _ _ _ _ _ _)
   | (with_reducible exact ih1 _ _ _ _ _ _ _ _)
   | (with_reducible exact spec_AskerOk.mono _ _ _ _ _ _ _ _ _)
   | (with_reducible exact spec_LineOk.mono _ _ _ _ _ _ _ _)
   | (with_reducible exact spec_PutText.mono _ _ _)
   | (with_reducible exact LeO.refl _)
   | (with_reducible exact LeO.none _)
   | (with_reducible refine LeO.ite ?_ ?_)
   | (with_reducible refine LeO.bind ?_ (fun _ => ?_))
   | exact ih0 _ _ _ _ _ _ _ _ _
   | exact ih1 _ _ _ _ _ _ _ _
   | exact spec_AskerOk.mono _ _ _ _ _ _ _ _ _
   | exact spec_LineOk.mono _ _ _ _ _ _ _ _
   | exact spec_PutText.mono _ _ _
   | exact LeO.none _
   | refine LeO.ite ?_ ?_
   | refine LeO.bind ?_ (fun _ => ?_)
theorem spec_PutItem.mono : ∀ a0 a1 a2 a3 a4 a5 a6 a7 a8 a9 a10 a11 a12 a13 a14 a15 k, LeO (spec_PutItem.f k a0 a1 a2 a3 a4 a5 a6 a7 a8 a9 a10 a11 a12 a13 a14 a15) (spec_PutItem.f (k + 1) a0 a1 a2 a3 a4 a5 a6 a7 a8 a9 a10 a11 a12 a13 a14 a15) := by
 intro a0 a1 a2 a3 a4 a5 a6 a7 a8 a9 a10 a11 a12 a13 a14 a15 k
 obtain ⟨ih0, ih1⟩ := spec_PutItem.mono_l k
 unfold spec_PutItem.f
 repeat' first
   | (with_reducible exact ih0 _ _ _ _ _ _ _ _ _)
   | (with_reducible exact ih1 _ _ _ _ _ _ _ _)
   | (with_reducible exact spec_AskerOk.mono _ _ _ _ _ _ _ _ _)
   | (with_reducible exact spec_LineOk.mono _ _ _ _ _ _ _ _)
   | (with_reducible exact spec_PutText.mono _ _ _)
   | (with_reducible exact LeO.refl _)
   | (with_reducible exact LeO.none _)
   | (with_reducible refine LeO.ite ?_ ?_)
   | (with_reducible refine LeO.bind ?_ (fun _ => ?_))
   | exact ih0 _ _ _ _ _ _ _ _ _
   | exact ih1 _ _ _ _ _ _ _ _
   | exact spec_AskerOk.mono _ _ _ _ _ _ _ _ _
   | exact spec_LineOk.mono _ _ _ _ _ _ _ _
   | exact spec_PutText.mono _ _ _
   | exact LeO.none _
   | refine LeO.ite ?_ ?_
   | refine LeO.bind ?_ (fun _ => ?_)
def spec_PutItem.T5 : Bool × List (List Nat × List Nat) := (true, [([], []), ([], []), ([1], [1]), ([0, 2], [0, 2]), ([], []), ([4], [4]), ([5], [5]), ([6], [6]), ([3, 7, 3], [3, 7]), ([], []), ([9], [9]), ([8, 10, 8], [8, 10]), ([11, 11, 0, 1, 2, 3, 4, 5, 6, 7, 8, 9, 10, 11], [11])])
def spec_PutItem.B5 : List Nat := [0, 0, 2, 7, 0, 16, 48, 112, 255, 0, 512, 2047, 4095]
theorem spec_PutItem.tab5 : rtab .any (opsOf Try.f25 5) = spec_PutItem.T5 := by kernel_rfl
theorem spec_PutItem.bits5 : waitsOk spec_PutItem.T5.2 spec_PutItem.B5 = true := by kernel_rfl
def spec_PutItem.T6 : Bool × List (List Nat × List Nat) := (true, [([], []), ([], []), ([1], [1]), ([0, 2], [0, 2]), ([], []), ([4], [4]), ([5], [5]), ([3, 6, 3], [3, 6]), ([], []), ([8], [8]), ([9], [9]), ([10], [10]), ([11], [11]), ([7, 12, 7], [7, 12]), ([13, 13, 0, 1, 2, 3, 4, 5, 6, 7, 8, 9, 10, 11, 12, 13], [0, 13])])
def spec_PutItem.B6 : List Nat := [0, 0, 2, 7, 0, 16, 48, 127, 0, 256, 768, 1792, 3840, 8191, 16383]
theorem spec_PutItem.tab6 : rtab .any (opsOf Try.f25 6) = spec_PutItem.T6 := by kernel_rfl
theorem spec_PutItem.bits6 : waitsOk spec_PutItem.T6.2 spec_PutItem.B6 = true := by kernel_rfl
def spec_PutItem.T7 : Bool × List (List Nat × List Nat) := (true, [([], []), ([], []), ([1], [1]), ([0, 2], [0, 2]), ([], []), ([4], [4]), ([3, 5, 3], [3, 5]), ([], []), ([7], [7]), ([6, 8, 6], [6, 8]), ([9, 9, 0, 1, 2, 3, 4, 5, 6, 7, 8, 9], [9])])
def spec_PutItem.B7 : List Nat := [0, 0, 2, 7, 0, 16, 63, 0, 128, 511, 1023]
theorem spec_PutItem.tab7 : rtab .any (opsOf Try.f25 7) = spec_PutItem.T7 := by kernel_rfl
theorem spec_PutItem.bits7 : waitsOk spec_PutItem.T7.2 spec_PutItem.B7 = true := by kernel_rfl
def spec_PutItem.T11 : Bool × List (List Nat × List Nat) := (true, [([], []), ([], []), ([1], [1]), ([0, 2], [0, 2]), ([], []), ([4], [4]), ([5], [5]), ([6], [6]), ([3, 7, 3], [3, 7]), ([], []), ([9], [9]), ([8, 10, 8], [8, 10]), ([], []), ([12], [12]), ([11, 13, 11], [11, 13]), ([14, 14, 0, 1, 2, 3, 4, 5, 6, 7, 8, 9, 10, 11, 12, 13, 14], [14])])
def spec_PutItem.B11 : List Nat := [0, 0, 2, 7, 0, 16, 48, 112, 255, 0, 512, 2047, 0, 4096, 16383, 32767]
theorem spec_PutItem.tab11 : rtab .any (opsOf Try.f25 11) = spec_PutItem.T11 := by kernel_rfl
theorem spec_PutItem.bits11 : waitsOk spec_PutItem.T11.2 spec_PutItem.B11 = true := by kernel_rfl
def spec_PutItem.T12 : Bool × List (List Nat × List Nat) := (true, [([], []), ([], []), ([1], [1]), ([2], [2]), ([0, 3], [0, 3]), ([], []), ([5], [5]), ([6], [6]), ([7], [7]), ([8], [8]), ([4, 9, 4], [4, 9]), ([], []), ([11], [11]), ([10, 12, 10], [10, 12]), ([], []), ([14], [14]), ([13, 15, 13], [13, 15]), ([16, 16, 0, 1, 2, 3, 4, 5, 6, 7, 8, 9, 10, 11, 12, 13, 14, 15, 16], [16])])
def spec_PutItem.B12 : List Nat := [0, 0, 2, 6, 15, 0, 32, 96, 224, 480, 1023, 0, 2048, 8191, 0, 16384, 65535, 131071]
theorem spec_PutItem.tab12 : rtab .any (opsOf Try.f25 12) = spec_PutItem.T12 := by kernel_rfl
theorem spec_PutItem.bits12 : waitsOk spec_PutItem.T12.2 spec_PutItem.B12 = true := by kernel_rfl
set_option maxHeartbeats 8000000 in
set_option maxRecDepth 100000 in
theorem spec_PutItem.calls (k : Nat) (a0_0 : Int) (a0_1 : Int) (a0_2 : ByteArray) (a0_3 : Int) (a0_4 : Int) (a0_5 : Int) (a0_6 : ByteArray) (a0_7 : Int) (a0_8 : Int) (a0_9 : Int) (a0_10 : ByteArray) (a0_11 : Int) (a0_12 : Int) (a0_13 : Int) (a0_14 : Int) (a0_15 : Int) (r : List Int) (w : World) (h : spec_PutItem.f k a0_0 a0_1 a0_2 a0_3 a0_4 a0_5 a0_6 a0_7 a0_8 a0_9 a0_10 a0_11 a0_12 a0_13 a0_14 a0_15 = some r) :
  Calls Try.prog 25 #[.agg #[.int .i64 a0_0, .int .i64 a0_1, .string a0_2, .int .i64 a0_3, .int .i64 a0_4, .int .i64 a0_5, .string a0_6, .int .i64 a0_7, .int .i64 a0_8, .int .i64 a0_9, .string a0_10, .int .i64 a0_11, .int .i64 a0_12, .int .i64 a0_13, .int .i64 a0_14, .int .i64 a0_15]] w fun e w' => ∃ v0_ : Value, e = .returned (v0_) ∧ Kd.R (Kd.int .u8) 5 w' w.heap.size (fun _ => True) v0_ r ∧ Below w.heap.size w w' := by
 have hu48 := Try.underlying48
 have hu45 := Try.underlying45
 have hu46 := Try.underlying46
 have HB := Aside0.mk (Below.refl w.heap.size w)
 have H : (if a0_0 = 1 then ((spec_AskerOk.f k a0_1 a0_2 a0_3 a0_4 a0_5 a0_6 a0_7 a0_8).bind fun t224 => (if t224 = true then (if (!(a0_9 == 0) || (!(a0_10.toList == ([] : List UInt8)) || (!(a0_11 == 0) || (!(a0_12 == 0) || (!(a0_13 == 0) || (!(a0_14 == 0) || (!(a0_15 == 0)))))))) = true then (spec_PutItem.j0 k true a0_1 a0_2 a0_3 a0_4 a0_5 a0_6 a0_7 a0_8) else (spec_PutItem.j0 k (decide (a0_8 > 65535)) a0_1 a0_2 a0_3 a0_4 a0_5 a0_6 a0_7 a0_8)) else (spec_PutItem.j0 k true a0_1 a0_2 a0_3 a0_4 a0_5 a0_6 a0_7 a0_8))) else (if a0_0 = 2 then ((spec_LineOk.f k a0_9 a0_10 a0_11 a0_12 a0_13 a0_14 a0_15).bind fun t265 => (if t265 = true then (if (!(a0_1 == 0) || (!(a0_2.toList == ([] : List UInt8)) || (!(a0_3 == 0) || (!(a0_4 == 0) || (!(a0_5 == 0) || (!(a0_6.toList == ([] : List UInt8)) || (!(a0_7 == 0) || (!(a0_8 == 0))))))))) = true then (spec_PutItem.j1 k true a0_9 a0_10 a0_11 a0_12 a0_13 a0_14 a0_15) else (spec_PutItem.j1 k (decide (a0_15 > 65535)) a0_9 a0_10 a0_11 a0_12 a0_13 a0_14 a0_15)) else (spec_PutItem.j1 k true a0_9 a0_10 a0_11 a0_12 a0_13 a0_14 a0_15))) else (spec_PutItem.j1 k true a0_9 a0_10 a0_11 a0_12 a0_13 a0_14 a0_15))) = some r := h
 clear h
 have HC2 := Aside0.mk H
 clear H
 go_enter Try.func25, Try.ntmps25
 go_upto_if 9 with (first | ((with_reducible refine gate_dst (N := 1) rfl ?_); refine box_event ?hg (N := 1) ?hd (cs := #[.int .i64 a0_0, .int .i64 a0_1, .string a0_2, .int .i64 a0_3, .int .i64 a0_4, .int .i64 a0_5, .string a0_6, .int .i64 a0_7, .int .i64 a0_8, .int .i64 a0_9, .string a0_10, .int .i64 a0_11, .int .i64 a0_12, .int .i64 a0_13, .int .i64 a0_14, .int .i64 a0_15]) (t := 48) ?hr ?_; (case hd => rfl); (case hg => rfl); (case hr => first | (go_simp; done) | (go_simp; rfl)); intro gb222 hg w3 hbox hb; have BK222 := am_ (hbox); have GW222 := am_ ((gG_ hg (qB HB))); have IGW222 := gI_ GW222; have GE222 := am_ ((gG_ hg (qB HB))); have IGE222 := gI_ GE222; replace HB := am_ (below_step (qB HB) hb); clear hb hbox hg; obtain ⟨z4_0, z4_1, z4_2, z4_3, z4_4, z4_5, z4_6, z4_7, z4_8, z4_9, z4_10, z4_11, z4_12, z4_13, z4_14, z4_15⟩ := cz16 BK222.out; obtain ⟨f4_0, f4_1, f4_2, f4_3, f4_4, f4_5, f4_6, f4_7, f4_8, f4_9, f4_10, f4_11, f4_12, f4_13, f4_14, f4_15⟩ := fz16 BK222.out))
 (try simp only [Act.put, List.setIfInBounds_toArray, List.set_cons_zero, List.set_cons_succ])
 have H := HC2.out
 clear HC2
 by_cases c5 : a0_0 = 1
 ·
  rw [if_pos c5] at H
  have c5b0 : (a0_0 == 1) = true := beq_iff_eq.mpr c5
  have c5b1 : (a0_0 != 1) = false := bne_eq_false_iff_eq.mpr c5
  clear c5
  (first | rw [c5b0] | rw [c5b1] | (simp only [i64_w, i32_w]; rw [c5b0]) | skip)
  have HC6 := Aside0.mk H
  clear H
  obtain ⟨z7_0, z7_1, z7_2, z7_3, z7_4, z7_5, z7_6, z7_7, z7_8, z7_9, z7_10, z7_11, z7_12, z7_13, z7_14, z7_15⟩ := cz16 BK222.out
  obtain ⟨f7_0, f7_1, f7_2, f7_3, f7_4, f7_5, f7_6, f7_7, f7_8, f7_9, f7_10, f7_11, f7_12, f7_13, f7_14, f7_15⟩ := fz16 BK222.out
  go_upto_region 3 with (first | ((with_reducible refine gate_dst (N := 3) rfl ?_); refine box_event ?hg (N := 3) ?hd (cs := #[.int .i64 0, .string (⟨#[]⟩ : ByteArray), .int .i64 0, .int .i64 0, .int .i64 0, .string (⟨#[]⟩ : ByteArray), .int .i64 0, .int .i64 0]) (t := 45) ?hr ?_; (case hd => rfl); (case hg => rfl); (case hr => first | (go_simp; done) | (go_simp; rfl)); intro gb223 hg w8 hbox hb; have BK223 := am_ (hbox); have GW223 := am_ ((gG_ hg (qB HB))); have IGW223 := gI_ GW223; have GE223 := am_ ((gG_ hg (qB HB))); have IGE223 := gI_ GE223; replace HB := am_ (below_step (qB HB) hb); have NB222_223 := am_ ((gN_ hg (qK BK222))); have NB223_222 := am_ ((gM_ hg (qK BK222))); replace BK222 := am_ (blk_below (qK BK222) hb); clear hb hbox hg; have hnb9 := NB223_222.out; have hnc9 := NB222_223.out; obtain ⟨z10_0, z10_1, z10_2, z10_3, z10_4, z10_5, z10_6, z10_7⟩ := cz8 BK223.out; obtain ⟨f10_0, f10_1, f10_2, f10_3, f10_4, f10_5, f10_6, f10_7⟩ := fz8 BK223.out))
  (try simp only [Act.put, List.setIfInBounds_toArray, List.set_cons_zero, List.set_cons_succ])
  go_cut [25] (fun v25 wc => ∃ (kq : Nat) (x25_5 : Bool), v25 = .bool x25_5 ∧ Aside0 (spec_PutItem.j0 kq x25_5 a0_1 a0_2 a0_3 a0_4 a0_5 a0_6 a0_7 a0_8 = some r) ∧ Aside0 (kq ≤ k) ∧ Aside0 (wc.heap[gb222]? = some (.cells #[.int .i64 a0_0, .int .i64 a0_1, .string a0_2, .int .i64 a0_3, .int .i64 a0_4, .int .i64 a0_5, .string a0_6, .int .i64 a0_7, .int .i64 a0_8, .int .i64 a0_9, .string a0_10, .int .i64 a0_11, .int .i64 a0_12, .int .i64 a0_13, .int .i64 a0_14, .int .i64 a0_15] 48 (0, 0))) ∧ Aside0 (wc.heap[gb223]? = some (.cells #[.int .i64 a0_1, .string a0_2, .int .i64 a0_3, .int .i64 a0_4, .int .i64 a0_5, .string a0_6, .int .i64 a0_7, .int .i64 a0_8] 45 (0, 0))) ∧ Aside0 (Below w.heap.size w wc))
  case first =>
   have H := HC6.out
   clear HC6
   obtain ⟨t224, A11, H⟩ := bd_ H
   by_cases c12 : t224 = true
   ·
    subst c12
    rw [if_pos rfl] at H
    by_cases c13 : (!(a0_9 == 0) || (!(a0_10.toList == ([] : List UInt8)) || (!(a0_11 == 0) || (!(a0_12 == 0) || (!(a0_13 == 0) || (!(a0_14 == 0) || (!(a0_15 == 0)))))))) = true
    ·
     rw [if_pos c13] at H
     have c13b0 : (!(a0_9 == 0) || (!(a0_10.toList == ([] : List UInt8)) || (!(a0_11 == 0) || (!(a0_12 == 0) || (!(a0_13 == 0) || (!(a0_14 == 0) || (!(a0_15 == 0)))))))) = true := c13
     (try (have c13b0e := c13b0; simp only [Go.Proofs.YtahfemlfdpbkkaaV.beq_nil, Go.Proofs.YtahfemlfdpbkkaaV.bne_nil] at c13b0e))
     clear c13
     (first | rw [c13b0] | (simp only [i64_w, i32_w]; rw [c13b0]) | skip)
     have H' := Aside0.mk H
     clear H
     have hnb14 := NB223_222.out
     have hnc14 := NB222_223.out
     obtain ⟨z15_0, z15_1, z15_2, z15_3, z15_4, z15_5, z15_6, z15_7⟩ := cz8 BK223.out
     obtain ⟨f15_0, f15_1, f15_2, f15_3, f15_4, f15_5, f15_6, f15_7⟩ := fz8 BK223.out
     go_wp2_with (first | ((with_reducible refine gate_callee (f := 73) rfl ?_); refine goesL_ (some 13) rfl rfl Try.func73 (by kernel_rfl) rfl #[.agg #[.int .i64 a0_1, .string a0_2, .int .i64 a0_3, .int .i64 a0_4, .int .i64 a0_5, .string a0_6, .int .i64 a0_7, .int .i64 a0_8]] rfl la_ ?_; (with_reducible refine (spec_AskerOk.calls k a0_1 a0_2 a0_3 a0_4 a0_5 a0_6 a0_7 a0_8 true _ A11.out).mono ?_); rintro e w16 ⟨rfl, hb⟩; refine ⟨_, rfl, ?_⟩; replace BK222 := am_ (blk_below (g := gb222) (o := .cells #[.int .i64 a0_0, .int .i64 a0_1, .string a0_2, .int .i64 a0_3, .int .i64 a0_4, .int .i64 a0_5, .string a0_6, .int .i64 a0_7, .int .i64 a0_8, .int .i64 a0_9, .string a0_10, .int .i64 a0_11, .int .i64 a0_12, .int .i64 a0_13, .int .i64 a0_14, .int .i64 a0_15] 48 (0, 0)) (by (with_reducible repeat (first | refine blk_drewN ?_ _ | refine blk_drew ?_ | refine blk_alloc ?_ _)); refine Go.Proofs.YtahfemlfdpbkkaaV.blk_far8 ?_ NB222_223.out; (with_reducible repeat (first | refine blk_drewN ?_ _ | refine blk_drew ?_ | refine blk_alloc ?_ _)); exact BK222.out) hb); replace BK223 := am_ (blk_below (g := gb223) (o := .cells #[.int .i64 a0_1, .string a0_2, .int .i64 a0_3, .int .i64 a0_4, .int .i64 a0_5, .string a0_6, .int .i64 a0_7, .int .i64 a0_8] 45 (0, 0)) (by (with_reducible repeat (first | refine blk_drewN ?_ _ | refine blk_drew ?_ | refine blk_alloc ?_ _)); refine Go.Proofs.YtahfemlfdpbkkaaV.blk_all8 (show _ = some (Go.Obj.cells #[.int .i64 0, .string (⟨#[]⟩ : ByteArray), .int .i64 0, .int .i64 0, .int .i64 0, .string (⟨#[]⟩ : ByteArray), .int .i64 0, .int .i64 0] _ (0, 0)) from ?_); (with_reducible repeat (first | refine blk_drewN ?_ _ | refine blk_drew ?_ | refine blk_alloc ?_ _)); exact BK223.out) hb); replace HB := am_ (below_step (qB HB) hb); (try clear hb); (try clear hb2); (try clear hk); (try clear hi); obtain ⟨z17_0, z17_1, z17_2, z17_3, z17_4, z17_5, z17_6, z17_7, z17_8, z17_9, z17_10, z17_11, z17_12, z17_13, z17_14, z17_15⟩ := cz16 BK222.out; obtain ⟨f17_0, f17_1, f17_2, f17_3, f17_4, f17_5, f17_6, f17_7, f17_8, f17_9, f17_10, f17_11, f17_12, f17_13, f17_14, f17_15⟩ := fz16 BK222.out))
     go_meet
     case rel => exact ⟨_, (true), eqq_, H', ⟨by first | omega | exact Nat.le_refl _⟩, ⟨qK BK222⟩, ⟨qK BK223⟩, ⟨qB HB⟩⟩
    ·
     rw [if_neg c13] at H
     have c13b0 : (!(a0_9 == 0) || (!(a0_10.toList == ([] : List UInt8)) || (!(a0_11 == 0) || (!(a0_12 == 0) || (!(a0_13 == 0) || (!(a0_14 == 0) || (!(a0_15 == 0)))))))) = false := by simpa using c13
     (try (have c13b0e := c13b0; simp only [Go.Proofs.YtahfemlfdpbkkaaV.beq_nil, Go.Proofs.YtahfemlfdpbkkaaV.bne_nil] at c13b0e))
     clear c13
     (first | rw [c13b0] | (simp only [i64_w, i32_w]; rw [c13b0]) | skip)
     have H' := Aside0.mk H
     clear H
     have hnb18 := NB223_222.out
     have hnc18 := NB222_223.out
     obtain ⟨z19_0, z19_1, z19_2, z19_3, z19_4, z19_5, z19_6, z19_7⟩ := cz8 BK223.out
     obtain ⟨f19_0, f19_1, f19_2, f19_3, f19_4, f19_5, f19_6, f19_7⟩ := fz8 BK223.out
     go_wp2_with (first | ((with_reducible refine gate_callee (f := 73) rfl ?_); refine goesL_ (some 13) rfl rfl Try.func73 (by kernel_rfl) rfl #[.agg #[.int .i64 a0_1, .string a0_2, .int .i64 a0_3, .int .i64 a0_4, .int .i64 a0_5, .string a0_6, .int .i64 a0_7, .int .i64 a0_8]] rfl la_ ?_; (with_reducible refine (spec_AskerOk.calls k a0_1 a0_2 a0_3 a0_4 a0_5 a0_6 a0_7 a0_8 true _ A11.out).mono ?_); rintro e w20 ⟨rfl, hb⟩; refine ⟨_, rfl, ?_⟩; replace BK222 := am_ (blk_below (g := gb222) (o := .cells #[.int .i64 a0_0, .int .i64 a0_1, .string a0_2, .int .i64 a0_3, .int .i64 a0_4, .int .i64 a0_5, .string a0_6, .int .i64 a0_7, .int .i64 a0_8, .int .i64 a0_9, .string a0_10, .int .i64 a0_11, .int .i64 a0_12, .int .i64 a0_13, .int .i64 a0_14, .int .i64 a0_15] 48 (0, 0)) (by (with_reducible repeat (first | refine blk_drewN ?_ _ | refine blk_drew ?_ | refine blk_alloc ?_ _)); refine Go.Proofs.YtahfemlfdpbkkaaV.blk_far8 ?_ NB222_223.out; (with_reducible repeat (first | refine blk_drewN ?_ _ | refine blk_drew ?_ | refine blk_alloc ?_ _)); exact BK222.out) hb); replace BK223 := am_ (blk_below (g := gb223) (o := .cells #[.int .i64 a0_1, .string a0_2, .int .i64 a0_3, .int .i64 a0_4, .int .i64 a0_5, .string a0_6, .int .i64 a0_7, .int .i64 a0_8] 45 (0, 0)) (by (with_reducible repeat (first | refine blk_drewN ?_ _ | refine blk_drew ?_ | refine blk_alloc ?_ _)); refine Go.Proofs.YtahfemlfdpbkkaaV.blk_all8 (show _ = some (Go.Obj.cells #[.int .i64 0, .string (⟨#[]⟩ : ByteArray), .int .i64 0, .int .i64 0, .int .i64 0, .string (⟨#[]⟩ : ByteArray), .int .i64 0, .int .i64 0] _ (0, 0)) from ?_); (with_reducible repeat (first | refine blk_drewN ?_ _ | refine blk_drew ?_ | refine blk_alloc ?_ _)); exact BK223.out) hb); replace HB := am_ (below_step (qB HB) hb); (try clear hb); (try clear hb2); (try clear hk); (try clear hi); obtain ⟨z21_0, z21_1, z21_2, z21_3, z21_4, z21_5, z21_6, z21_7, z21_8, z21_9, z21_10, z21_11, z21_12, z21_13, z21_14, z21_15⟩ := cz16 BK222.out; obtain ⟨f21_0, f21_1, f21_2, f21_3, f21_4, f21_5, f21_6, f21_7, f21_8, f21_9, f21_10, f21_11, f21_12, f21_13, f21_14, f21_15⟩ := fz16 BK222.out; obtain ⟨z22_0, z22_1, z22_2, z22_3, z22_4, z22_5, z22_6, z22_7⟩ := cz8 BK223.out; obtain ⟨f22_0, f22_1, f22_2, f22_3, f22_4, f22_5, f22_6, f22_7⟩ := fz8 BK223.out))
     go_meet
     case rel => exact ⟨_, (decide (a0_8 > 65535)), eqq_, H', ⟨by first | omega | exact Nat.le_refl _⟩, ⟨qK BK222⟩, ⟨qK BK223⟩, ⟨qB HB⟩⟩
   ·
    replace c12 := Bool.eq_false_iff.mpr c12
    subst c12
    rw [if_neg (show ¬ (false = true) by decide)] at H
    have H' := Aside0.mk H
    clear H
    have hnb23 := NB223_222.out
    have hnc23 := NB222_223.out
    obtain ⟨z24_0, z24_1, z24_2, z24_3, z24_4, z24_5, z24_6, z24_7⟩ := cz8 BK223.out
    obtain ⟨f24_0, f24_1, f24_2, f24_3, f24_4, f24_5, f24_6, f24_7⟩ := fz8 BK223.out
    go_wp2_with (first | ((with_reducible refine gate_callee (f := 73) rfl ?_); refine goesL_ (some 13) rfl rfl Try.func73 (by kernel_rfl) rfl #[.agg #[.int .i64 a0_1, .string a0_2, .int .i64 a0_3, .int .i64 a0_4, .int .i64 a0_5, .string a0_6, .int .i64 a0_7, .int .i64 a0_8]] rfl la_ ?_; (with_reducible refine (spec_AskerOk.calls k a0_1 a0_2 a0_3 a0_4 a0_5 a0_6 a0_7 a0_8 false _ A11.out).mono ?_); rintro e w25 ⟨rfl, hb⟩; refine ⟨_, rfl, ?_⟩; replace BK222 := am_ (blk_below (g := gb222) (o := .cells #[.int .i64 a0_0, .int .i64 a0_1, .string a0_2, .int .i64 a0_3, .int .i64 a0_4, .int .i64 a0_5, .string a0_6, .int .i64 a0_7, .int .i64 a0_8, .int .i64 a0_9, .string a0_10, .int .i64 a0_11, .int .i64 a0_12, .int .i64 a0_13, .int .i64 a0_14, .int .i64 a0_15] 48 (0, 0)) (by (with_reducible repeat (first | refine blk_drewN ?_ _ | refine blk_drew ?_ | refine blk_alloc ?_ _)); refine Go.Proofs.YtahfemlfdpbkkaaV.blk_far8 ?_ NB222_223.out; (with_reducible repeat (first | refine blk_drewN ?_ _ | refine blk_drew ?_ | refine blk_alloc ?_ _)); exact BK222.out) hb); replace BK223 := am_ (blk_below (g := gb223) (o := .cells #[.int .i64 a0_1, .string a0_2, .int .i64 a0_3, .int .i64 a0_4, .int .i64 a0_5, .string a0_6, .int .i64 a0_7, .int .i64 a0_8] 45 (0, 0)) (by (with_reducible repeat (first | refine blk_drewN ?_ _ | refine blk_drew ?_ | refine blk_alloc ?_ _)); refine Go.Proofs.YtahfemlfdpbkkaaV.blk_all8 (show _ = some (Go.Obj.cells #[.int .i64 0, .string (⟨#[]⟩ : ByteArray), .int .i64 0, .int .i64 0, .int .i64 0, .string (⟨#[]⟩ : ByteArray), .int .i64 0, .int .i64 0] _ (0, 0)) from ?_); (with_reducible repeat (first | refine blk_drewN ?_ _ | refine blk_drew ?_ | refine blk_alloc ?_ _)); exact BK223.out) hb); replace HB := am_ (below_step (qB HB) hb); (try clear hb); (try clear hb2); (try clear hk); (try clear hi)))
    go_meet
    case rel => exact ⟨_, (true), eqq_, H', ⟨by first | omega | exact Nat.le_refl _⟩, ⟨qK BK222⟩, ⟨qK BK223⟩, ⟨qB HB⟩⟩
  case rest =>
   clear HC6
   try clear c1
   try clear c2
   try clear p2
   try clear c5
   try clear c5b0
   try clear c5b1
   try clear c7
   try clear c9
   try clear c12
   try clear c13
   try clear c13b0
   try clear c14
   try clear c18
   try clear c23
   try clear c25
   (try clear z10_0 z10_1 z10_2 z10_3 z10_4 z10_5 z10_6 z10_7)
   (try clear z15_0 z15_1 z15_2 z15_3 z15_4 z15_5 z15_6 z15_7)
   (try clear z17_0 z17_1 z17_10 z17_11 z17_12 z17_13 z17_14 z17_15 z17_2 z17_3 z17_4 z17_5 z17_6 z17_7 z17_8 z17_9)
   (try clear z19_0 z19_1 z19_2 z19_3 z19_4 z19_5 z19_6 z19_7)
   (try clear z21_0 z21_1 z21_10 z21_11 z21_12 z21_13 z21_14 z21_15 z21_2 z21_3 z21_4 z21_5 z21_6 z21_7 z21_8 z21_9)
   (try clear z22_0 z22_1 z22_2 z22_3 z22_4 z22_5 z22_6 z22_7)
   (try clear z24_0 z24_1 z24_2 z24_3 z24_4 z24_5 z24_6 z24_7)
   (try clear z4_0 z4_1 z4_10 z4_11 z4_12 z4_13 z4_14 z4_15 z4_2 z4_3 z4_4 z4_5 z4_6 z4_7 z4_8 z4_9)
   (try clear z7_0 z7_1 z7_10 z7_11 z7_12 z7_13 z7_14 z7_15 z7_2 z7_3 z7_4 z7_5 z7_6 z7_7 z7_8 z7_9)
   (try clear f10_0 f10_1 f10_2 f10_3 f10_4 f10_5 f10_6 f10_7)
   (try clear f15_0 f15_1 f15_2 f15_3 f15_4 f15_5 f15_6 f15_7)
   (try clear f17_0 f17_1 f17_10 f17_11 f17_12 f17_13 f17_14 f17_15 f17_2 f17_3 f17_4 f17_5 f17_6 f17_7 f17_8 f17_9)
   (try clear f19_0 f19_1 f19_2 f19_3 f19_4 f19_5 f19_6 f19_7)
   (try clear f21_0 f21_1 f21_10 f21_11 f21_12 f21_13 f21_14 f21_15 f21_2 f21_3 f21_4 f21_5 f21_6 f21_7 f21_8 f21_9)
   (try clear f22_0 f22_1 f22_2 f22_3 f22_4 f22_5 f22_6 f22_7)
   (try clear f24_0 f24_1 f24_2 f24_3 f24_4 f24_5 f24_6 f24_7)
   (try clear f4_0 f4_1 f4_10 f4_11 f4_12 f4_13 f4_14 f4_15 f4_2 f4_3 f4_4 f4_5 f4_6 f4_7 f4_8 f4_9)
   (try clear f7_0 f7_1 f7_10 f7_11 f7_12 f7_13 f7_14 f7_15 f7_2 f7_3 f7_4 f7_5 f7_6 f7_7 f7_8 f7_9)
   obtain ⟨kq, x25_5, rfl, HA, HJ5, BK222, BK223, HB⟩ := hcut
   cases kq with
   | zero => exact absurd HA.out (by simp [spec_PutItem.j0])
   | succ kj5 =>
    have H := HA.out
    clear HA
    simp only [spec_PutItem.j0] at H
    by_cases c26 : x25_5 = true
    ·
     subst c26
     rw [if_pos rfl] at H
     obtain ⟨y225, hy225⟩ : ∃ y_ : List Int, y_ = (([] : List Int)) := ⟨_, rfl⟩
     rw [← hy225] at H
     have Ny225 := Aside0.mk hy225
     clear hy225
     obtain rfl := Option.some.inj H
     go_wp2_with (first | ((with_reducible refine gate_dst (N := 26) rfl ?_); refine Kd.R_lit (Kd.int .u8) _ 5 ?hg (N := 26) ?hd (xs := ([] : List Int)) (inner := []) (ok := fun _ => True) (okp := fun _ => True) ?hr ?hp (fun _ hk => hk) trivial (Below.refl _ _) (Nat.le_refl _) (by simp) ?_; (case hd => rfl); (case hg => rfl); (case hr => first | (go_simp; done) | (go_simp; rfl)); (case hp => exact (Reps.none _ _)); intro v226 w27 ho28 hb hg_ hnew_; clear hg_ hnew_; (first | rw [← Ny225.out] at ho28 | (simp only [Int.reduceToNat] at ho28; rw [← Ny225.out] at ho28)); have HO227 := am_ (Kd.R_lower ho28 (below_size (qB HB))); replace BK222 := am_ (blk_below (qK BK222) hb); replace BK223 := am_ (blk_below (qK BK223) hb); replace HB := am_ (below_step (qB HB) hb); clear hb ho28))
     go_ret
     exact ⟨_, by first | rfl | (simp [errW_none, errW_some] <;> rfl) | (simp [*, errW_none, errW_some] <;> rfl), qR HO227, qB HB⟩
    ·
     replace c26 := Bool.eq_false_iff.mpr c26
     subst c26
     rw [if_neg (show ¬ (false = true) by decide)] at H
     obtain ⟨y228, hy228⟩ : ∃ y_ : List Int, y_ = (([1] : List Int)) := ⟨_, rfl⟩
     rw [← hy228] at H
     have Ny228 := Aside0.mk hy228
     clear hy228
     obtain ⟨t231, A29, H⟩ := bd_ H
     obtain ⟨y234, hy234⟩ : ∃ y_ : List Int, y_ = (([(a0_3) % 256] : List Int)) := ⟨_, rfl⟩
     replace H := mk_ H hy234
     (try dsimp only at H)
     have Ny234 := Aside0.mk hy234
     clear hy234
     by_cases c30 : t231.length + y234.length < 140737488355328
     ·
      rw [if_pos c30] at H
      have LMc30 := Aside0.mk c30
      clear c30
      obtain ⟨y237, hy237⟩ : ∃ y_ : List Int, y_ = (t231 ++ y234) := ⟨_, rfl⟩
      replace H : ((spec_PutText.f kj5 y237 a0_2).bind fun t240 => ((spec_PutWord.f t240 a0_4).bind fun t243 => ((spec_PutWord.f t243 (wrap64 (Int.tdiv a0_5 256))).bind fun t246 => ((some (([(Int.tmod a0_5 256) % 256] : List Int) : List Int)).bind fun y249 => (if t246.length + y249.length < 140737488355328 then ((spec_PutText.f kj5 (t246 ++ y249) a0_6).bind fun t255 => ((spec_PutWord.f t255 a0_7).bind fun t258 => ((spec_PutWord.f t258 a0_8).bind fun t261 => (some t261)))) else (none)))))) = some r := by first | (rw [hy237]; with_reducible exact H) | (have H2_ := (Option.bind_some _ _).symm.trans H; rw [hy237]; with_reducible exact H2_) | (have H2_ := (Option.bind_some _ _).symm.trans H; with_reducible exact H2_) | with_reducible exact H | (rw [hy237]; exact H) | exact H
      have Ny237 := Aside0.mk hy237
      clear hy237
      obtain ⟨t240, A31, H⟩ := bd_ H
      obtain ⟨t243, A32, H⟩ := bd_ H
      obtain ⟨t246, A33, H⟩ := bd_ H
      obtain ⟨y249, hy249⟩ : ∃ y_ : List Int, y_ = (([(Int.tmod a0_5 256) % 256] : List Int)) := ⟨_, rfl⟩
      replace H := mk_ H hy249
      (try dsimp only at H)
      have Ny249 := Aside0.mk hy249
      clear hy249
      by_cases c34 : t246.length + y249.length < 140737488355328
      ·
       rw [if_pos c34] at H
       have LMc34 := Aside0.mk c34
       clear c34
       obtain ⟨y252, hy252⟩ : ∃ y_ : List Int, y_ = (t246 ++ y249) := ⟨_, rfl⟩
       replace H : ((spec_PutText.f kj5 y252 a0_6).bind fun t255 => ((spec_PutWord.f t255 a0_7).bind fun t258 => ((spec_PutWord.f t258 a0_8).bind fun t261 => (some t261)))) = some r := by first | (rw [hy252]; with_reducible exact H) | (have H2_ := (Option.bind_some _ _).symm.trans H; rw [hy252]; with_reducible exact H2_) | (have H2_ := (Option.bind_some _ _).symm.trans H; with_reducible exact H2_) | with_reducible exact H | (rw [hy252]; exact H) | exact H
       have Ny252 := Aside0.mk hy252
       clear hy252
       obtain ⟨t255, A35, H⟩ := bd_ H
       obtain ⟨t258, A36, H⟩ := bd_ H
       obtain ⟨t261, A37, H⟩ := bd_ H
       obtain rfl := Option.some.inj H
       try go_wp2
       replace BK222 := am_ (blk_drew BK222.out)
       replace BK223 := am_ (blk_drew BK223.out)
       replace HB := am_ (below_drew1 HB.out)
       refine start_ (n := 13) (S := fun w' => w'.cell? ⟨gb223, 0, none⟩ = some (.int .i64 a0_1) ∧ w'.cell? ⟨gb223, 1, none⟩ = some (.string a0_2) ∧ w'.cell? ⟨gb223, 2, none⟩ = some (.int .i64 a0_3) ∧ w'.cell? ⟨gb223, 3, none⟩ = some (.int .i64 a0_4) ∧ w'.cell? ⟨gb223, 4, none⟩ = some (.int .i64 a0_5) ∧ w'.cell? ⟨gb223, 5, none⟩ = some (.string a0_6) ∧ w'.cell? ⟨gb223, 6, none⟩ = some (.int .i64 a0_7) ∧ w'.cell? ⟨gb223, 7, none⟩ = some (.int .i64 a0_8)) (ds := []) #[oo,oo,oo,oo,oo,oo,oo,oo,oo,oo,oo,oo,oo] (by kernel_rfl) rfl rfl (cz8 BK223.out) (fun hHeld => ?_); refine with_tabW spec_PutItem.tab5 spec_PutItem.bits5 (fun HT_ HW_ => ?_)
       generalize wc.drew = w38 at BK222 BK223 HB hHeld ⊢
       refine pure_ (i := 1) (N := some 28) (v := ?_) (a' := ?_) #[oo,ii,oo,oo,oo,oo,oo,oo,oo,oo,oo,oo,oo] rfl rfl (any_of HT_.out (by kernel_rfl)) (fun _ _ _ h => h) (Or.inl ⟨by rfl, ?_⟩) ?_ ?_
       rotate_left
       ·
        intro w'
        go_simp
        with_reducible rfl
       rotate_left
       ·
        exact ap_
       refine pure_ (i := 4) (N := some 31) (v := ?_) (a' := ?_) #[oo,ii,oo,oo,ii,oo,oo,oo,oo,oo,oo,oo,oo] rfl rfl (any_of HT_.out (by kernel_rfl)) (fun _ _ _ h => h) (Or.inl ⟨by rfl, ?_⟩) ?_ ?_
       rotate_left
       ·
        intro w'
        go_simp
        with_reducible rfl
       rotate_left
       ·
        exact ap_
       refine pure_ (i := 9) (N := some 36) (v := ?_) (a' := ?_) #[oo,ii,oo,oo,ii,oo,oo,oo,oo,ii,oo,oo,oo] rfl rfl (any_of HT_.out (by kernel_rfl)) (fun _ _ _ h => h) (Or.inl ⟨by rfl, ?_⟩) ?_ ?_
       rotate_left
       ·
        intro w'
        go_simp
        with_reducible rfl
       rotate_left
       ·
        exact ap_
       refine take_ (i := 2) (N := some 29) (v := ?_) (a' := ?_) #[oo,ii,ii,oo,ii,oo,oo,oo,oo,ii,oo,oo,oo] rfl rfl (take_ofW HT_.out HW_.out (by kernel_rfl)) (fun _ _ _ h => h) (Or.inl ⟨by rfl, ?_⟩) hHeld ?_ ?_
       rotate_left
       ·
        rintro w' ⟨s0, s1, s2, s3, s4, s5, s6, s7⟩
        go_simp
        with_reducible rfl
       rotate_left
       ·
        exact ap_
       refine take_ (i := 5) (N := some 32) (v := ?_) (a' := ?_) #[oo,ii,ii,oo,ii,ii,oo,oo,oo,ii,oo,oo,oo] rfl rfl (take_ofW HT_.out HW_.out (by kernel_rfl)) (fun _ _ _ h => h) (Or.inl ⟨by rfl, ?_⟩) hHeld ?_ ?_
       rotate_left
       ·
        rintro w' ⟨s0, s1, s2, s3, s4, s5, s6, s7⟩
        go_simp
        with_reducible rfl
       rotate_left
       ·
        exact ap_
       refine pure_ (i := 6) (N := some 33) (v := ?_) (a' := ?_) #[oo,ii,ii,oo,ii,ii,ii,oo,oo,ii,oo,oo,oo] rfl rfl (any_of HT_.out (by kernel_rfl)) (fun _ _ _ h => h) (Or.inl ⟨by rfl, ?_⟩) ?_ ?_
       rotate_left
       ·
        intro w'
        go_simp
        with_reducible rfl
       rotate_left
       ·
        exact ap_
       refine take_ (i := 10) (N := some 37) (v := ?_) (a' := ?_) #[oo,ii,ii,oo,ii,ii,ii,oo,oo,ii,ii,oo,oo] rfl rfl (take_ofW HT_.out HW_.out (by kernel_rfl)) (fun _ _ _ h => h) (Or.inl ⟨by rfl, ?_⟩) hHeld ?_ ?_
       rotate_left
       ·
        rintro w' ⟨s0, s1, s2, s3, s4, s5, s6, s7⟩
        go_simp
        with_reducible rfl
       rotate_left
       ·
        exact ap_
       refine join_ (σ := Value × Value × Value) 3 #[ii,ii,ii,ii,ii,ii,ii,ii,oo,ii,ii,oo,oo] (fun s_ => [(27, s_.1), (30, s_.2.1), (34, s_.2.2)]) (fun s_ w' => (w'.cell? ⟨gb223, 0, none⟩ = some (.int .i64 a0_1) ∧ w'.cell? ⟨gb223, 1, none⟩ = some (.string a0_2) ∧ w'.cell? ⟨gb223, 2, none⟩ = some (.int .i64 a0_3) ∧ w'.cell? ⟨gb223, 3, none⟩ = some (.int .i64 a0_4) ∧ w'.cell? ⟨gb223, 4, none⟩ = some (.int .i64 a0_5) ∧ w'.cell? ⟨gb223, 5, none⟩ = some (.string a0_6) ∧ w'.cell? ⟨gb223, 6, none⟩ = some (.int .i64 a0_7) ∧ w'.cell? ⟨gb223, 7, none⟩ = some (.int .i64 a0_8)) ∧ (Kd.R (Kd.int .u8) 5 w' w.heap.size (fun k_ => some k_ ≠ (s_.2.1 : Value).ownBlock ∧ some k_ ≠ (s_.2.2 : Value).ownBlock) s_.1 y228) ∧ (Kd.R (Kd.int .u8) 5 w' w.heap.size (fun k_ => some k_ ≠ (s_.1 : Value).ownBlock ∧ some k_ ≠ (s_.2.2 : Value).ownBlock) s_.2.1 t231) ∧ (Kd.R (Kd.int .u8) 5 w' w.heap.size (fun k_ => some k_ ≠ (s_.1 : Value).ownBlock ∧ some k_ ≠ (s_.2.1 : Value).ownBlock) s_.2.2 y234) ∧ (w'.heap[gb222]? = some (.cells #[.int .i64 a0_0, .int .i64 a0_1, .string a0_2, .int .i64 a0_3, .int .i64 a0_4, .int .i64 a0_5, .string a0_6, .int .i64 a0_7, .int .i64 a0_8, .int .i64 a0_9, .string a0_10, .int .i64 a0_11, .int .i64 a0_12, .int .i64 a0_13, .int .i64 a0_14, .int .i64 a0_15] 48 (0, 0))) ∧ (w'.heap[gb223]? = some (.cells #[.int .i64 a0_1, .string a0_2, .int .i64 a0_3, .int .i64 a0_4, .int .i64 a0_5, .string a0_6, .int .i64 a0_7, .int .i64 a0_8] 45 (0, 0))) ∧ (Below w.heap.size w w')) ?_ ?_
       rotate_left
       ·
        intro hCont
        refine two_ (i := 0) (j := 7) (Ni := some 27) (Nj := some 34) #[ii,ii,ii,oo,ii,ii,ii,oo,oo,ii,ii,oo,oo] #[oo,ii,ii,oo,ii,ii,ii,ii,oo,ii,ii,oo,oo] rfl rfl rfl rfl (two_of HT_.out (by kernel_rfl)) (by decide) (by decide) (fun K hK => ?_) (fun K hK => ?_)
        ·
         skip
         refine Kd.R_lit_step (Kd.int .u8) _ 5 ?hg (N := 27) ?hd (xs := ([1] : List Int)) (inner := [.int .u8 1]) (ok := fun _ => True) (okp := fun _ => True) ?hr ?hp (fun _ hk => hk) trivial (Below.refl _ _) (Nat.le_refl _) (by simp) ?_; (case hd => rfl); (case hg => rfl); (case hr => first | (go_simp; done) | (go_simp; rfl)); (case hp => exact (Reps.one (show Kd.M (Kd.int .u8) _ _ _ 1 [.int .u8 1] from rfl) (Reps.none _ _)))
         intro v229 w39 ho40 hb hg_ hnew_
         clear hg_ hnew_
         (first | rw [← Ny228.out] at ho40 | (simp only [Int.reduceToNat] at ho40; rw [← Ny228.out] at ho40))
         have HO230 := am_ (Kd.R_lower ho40 (below_size (qB HB)))
         replace BK222 := am_ (blk_below (qK BK222) hb)
         replace BK223 := am_ (blk_below (qK BK223) hb)
         replace HB := am_ (below_step (qB HB) hb)
         clear hb ho40
         obtain ⟨Ao41, co41, eo41⟩ := Kd.R_slice HO230.out
         (first | subst eo41 | (injection eo41 with f1_ f2_ f3_; have f4_ := f1_.symm; have f5_ := f3_.symm; clear f1_ f2_ f3_; subst f4_; subst f5_))
         refine hK.out _ _ (cz8 BK223.out) (fun hHeld => ?_)
         clear hK K
         refine norm_ (a' := ?_) ?_ ?_
         rotate_left
         ·
          show Act.put _ (some 27) _ = _
          exact ap_
         refine two_ (i := 3) (j := 7) (Ni := some 30) (Nj := some 34) #[ii,ii,ii,ii,ii,ii,ii,oo,oo,ii,ii,oo,oo] #[ii,ii,ii,oo,ii,ii,ii,ii,oo,ii,ii,oo,oo] rfl rfl rfl rfl (two_of HT_.out (by kernel_rfl)) (by decide) (by decide) (fun K hK => ?_) (fun K hK => ?_)
         ·
          skip
          refine goes_ Try.func75 (by kernel_rfl) rfl #[.slice Ao41 y228.length co41, .int .i64 a0_1] (by rfl) rfl rfl la_ ?_
          with_reducible refine (spec_PutWord.calls _ _ y228 a0_1 t231 _ ?side1 ?side2 A29.out).mono ?_
          (case side1 => exact qC ((Kd.R_reads' HO230.out).2.2))
          (case side2 => exact (Kd.R_reads' HO230.out).2.1)
          rintro e w42 ⟨v232, rfl, ho0, hb⟩
          refine ⟨_, rfl, ?_⟩
          have HO233 := am_ (Kd.R_lower (Kd.R_new' ho0 (Kd.R_lt (qR HO230))) (below_size (qB HB)))
          replace HO230 := am_ (eR HO230 ho0 hb)
          replace BK222 := am_ (blk_below (qK BK222) hb)
          replace BK223 := am_ (blk_below (qK BK223) hb)
          replace HB := am_ (below_step (qB HB) hb)
          (try clear hb ho0)
          refine hK.out _ _ (cz8 BK223.out) (fun hHeld => ?_)
          clear hK K
          refine norm_ (a' := ?_) ?_ ?_
          rotate_left
          ·
           show Act.put _ (some 30) _ = _
           exact ap_
          refine one_ (i := 7) (N := some 34) #[ii,ii,ii,ii,ii,ii,ii,ii,oo,ii,ii,oo,oo] rfl rfl (one_of HT_.out (by kernel_rfl)) (by decide) (fun K hK => ?_)
          refine Kd.R_lit_step (Kd.int .u8) _ 5 ?hg (N := 34) ?hd (xs := ([(a0_3) % 256] : List Int)) (inner := [.int .u8 ((a0_3) % 256)]) (ok := fun _ => True) (okp := fun _ => True) ?hr ?hp (fun _ hk => hk) trivial (Below.refl _ _) (Nat.le_refl _) (by simp) ?_; (case hd => rfl); (case hg => rfl); (case hr => first | (go_simp; done) | (go_simp; rfl)); (case hp => exact (Reps.one (show Kd.M (Kd.int .u8) _ _ _ ((a0_3) % 256) [.int .u8 ((a0_3) % 256)] from rfl) (Reps.none _ _)))
          intro v235 w43 ho44 hb hg_ hnew_
          clear hg_ hnew_
          (first | rw [← Ny234.out] at ho44 | (simp only [Int.reduceToNat] at ho44; rw [← Ny234.out] at ho44))
          have HO236 := am_ (Kd.R_lower (Kd.R_new' (Kd.R_new' ho44 (Kd.R_lt (qR HO230))) (Kd.R_lt (qR HO233))) (below_size (qB HB)))
          replace HO230 := am_ (eR HO230 ho44 hb)
          replace HO233 := am_ (eR HO233 ho44 hb)
          replace BK222 := am_ (blk_below (qK BK222) hb)
          replace BK223 := am_ (blk_below (qK BK223) hb)
          replace HB := am_ (below_step (qB HB) hb)
          clear hb ho44
          refine hK.out _ _ (cz8 BK223.out) (fun hHeld => ?_)
          clear hK K
          refine norm_ (a' := ?_) ?_ ?_
          rotate_left
          ·
           show Act.put _ (some 34) _ = _
           exact ap_
          exact norm_ (by simp only [putAll, Act.put, List.setIfInBounds_toArray, List.set_cons_zero, List.set_cons_succ]) (hCont (.slice Ao41 y228.length co41, v232, v235) _ ⟨hHeld, (tR (Kd.R_mono HO230.out (fun _ hk => ⟨hk.1.2, hk.2⟩))), (tR (Kd.R_mono HO233.out (fun _ hk => ⟨hk.1.2, hk.2⟩))), (tR (Kd.R_mono HO236.out (fun _ hk => ⟨hk.1.2, hk.2⟩))), (qK BK222), (qK BK223), (qB HB)⟩)
         ·
          skip
          refine Kd.R_lit_step (Kd.int .u8) _ 5 ?hg (N := 34) ?hd (xs := ([(a0_3) % 256] : List Int)) (inner := [.int .u8 ((a0_3) % 256)]) (ok := fun _ => True) (okp := fun _ => True) ?hr ?hp (fun _ hk => hk) trivial (Below.refl _ _) (Nat.le_refl _) (by simp) ?_; (case hd => rfl); (case hg => rfl); (case hr => first | (go_simp; done) | (go_simp; rfl)); (case hp => exact (Reps.one (show Kd.M (Kd.int .u8) _ _ _ ((a0_3) % 256) [.int .u8 ((a0_3) % 256)] from rfl) (Reps.none _ _)))
          intro v235 w41 ho42 hb hg_ hnew_
          clear hg_ hnew_
          (first | rw [← Ny234.out] at ho42 | (simp only [Int.reduceToNat] at ho42; rw [← Ny234.out] at ho42))
          have HO236 := am_ (Kd.R_lower (Kd.R_new' ho42 (Kd.R_lt (qR HO230))) (below_size (qB HB)))
          replace HO230 := am_ (eR HO230 ho42 hb)
          replace BK222 := am_ (blk_below (qK BK222) hb)
          replace BK223 := am_ (blk_below (qK BK223) hb)
          replace HB := am_ (below_step (qB HB) hb)
          clear hb ho42
          obtain ⟨Ao43, co43, eo43⟩ := Kd.R_slice HO230.out
          (first | subst eo43 | (injection eo43 with f1_ f2_ f3_; have f4_ := f1_.symm; have f5_ := f3_.symm; clear f1_ f2_ f3_; subst f4_; subst f5_))
          refine hK.out _ _ (cz8 BK223.out) (fun hHeld => ?_)
          clear hK K
          refine norm_ (a' := ?_) ?_ ?_
          rotate_left
          ·
           show Act.put _ (some 34) _ = _
           exact ap_
          refine one_ (i := 3) (N := some 30) #[ii,ii,ii,ii,ii,ii,ii,ii,oo,ii,ii,oo,oo] rfl rfl (one_of HT_.out (by kernel_rfl)) (by decide) (fun K hK => ?_)
          refine goes_ Try.func75 (by kernel_rfl) rfl #[.slice Ao43 y228.length co43, .int .i64 a0_1] (by rfl) rfl rfl la_ ?_
          with_reducible refine (spec_PutWord.calls _ _ y228 a0_1 t231 _ ?side1 ?side2 A29.out).mono ?_
          (case side1 => exact qC ((Kd.R_reads' HO230.out).2.2))
          (case side2 => exact (Kd.R_reads' HO230.out).2.1)
          rintro e w44 ⟨v232, rfl, ho0, hb⟩
          refine ⟨_, rfl, ?_⟩
          have HO233 := am_ (Kd.R_lower (Kd.R_new' (Kd.R_new' ho0 (Kd.R_lt (qR HO230))) (Kd.R_lt (qR HO236))) (below_size (qB HB)))
          replace HO230 := am_ (eR HO230 ho0 hb)
          replace HO236 := am_ (eR HO236 ho0 hb)
          replace BK222 := am_ (blk_below (qK BK222) hb)
          replace BK223 := am_ (blk_below (qK BK223) hb)
          replace HB := am_ (below_step (qB HB) hb)
          (try clear hb ho0)
          refine hK.out _ _ (cz8 BK223.out) (fun hHeld => ?_)
          clear hK K
          refine norm_ (a' := ?_) ?_ ?_
          rotate_left
          ·
           show Act.put _ (some 30) _ = _
           exact ap_
          exact norm_ (by simp only [putAll, Act.put, List.setIfInBounds_toArray, List.set_cons_zero, List.set_cons_succ]) (hCont (.slice Ao43 y228.length co43, v232, v235) _ ⟨hHeld, (tR (Kd.R_mono HO230.out (fun _ hk => ⟨hk.2, hk.1.2⟩))), (tR (Kd.R_mono HO233.out (fun _ hk => ⟨hk.1.2, hk.2⟩))), (tR (Kd.R_mono HO236.out (fun _ hk => ⟨hk.1.2, hk.2⟩))), (qK BK222), (qK BK223), (qB HB)⟩)
        ·
         skip
         refine Kd.R_lit_step (Kd.int .u8) _ 5 ?hg (N := 34) ?hd (xs := ([(a0_3) % 256] : List Int)) (inner := [.int .u8 ((a0_3) % 256)]) (ok := fun _ => True) (okp := fun _ => True) ?hr ?hp (fun _ hk => hk) trivial (Below.refl _ _) (Nat.le_refl _) (by simp) ?_; (case hd => rfl); (case hg => rfl); (case hr => first | (go_simp; done) | (go_simp; rfl)); (case hp => exact (Reps.one (show Kd.M (Kd.int .u8) _ _ _ ((a0_3) % 256) [.int .u8 ((a0_3) % 256)] from rfl) (Reps.none _ _)))
         intro v235 w39 ho40 hb hg_ hnew_
         clear hg_ hnew_
         (first | rw [← Ny234.out] at ho40 | (simp only [Int.reduceToNat] at ho40; rw [← Ny234.out] at ho40))
         have HO236 := am_ (Kd.R_lower ho40 (below_size (qB HB)))
         replace BK222 := am_ (blk_below (qK BK222) hb)
         replace BK223 := am_ (blk_below (qK BK223) hb)
         replace HB := am_ (below_step (qB HB) hb)
         clear hb ho40
         refine hK.out _ _ (cz8 BK223.out) (fun hHeld => ?_)
         clear hK K
         refine norm_ (a' := ?_) ?_ ?_
         rotate_left
         ·
          show Act.put _ (some 34) _ = _
          exact ap_
         refine one_ (i := 0) (N := some 27) #[ii,ii,ii,oo,ii,ii,ii,ii,oo,ii,ii,oo,oo] rfl rfl (one_of HT_.out (by kernel_rfl)) (by decide) (fun K hK => ?_)
         refine Kd.R_lit_step (Kd.int .u8) _ 5 ?hg (N := 27) ?hd (xs := ([1] : List Int)) (inner := [.int .u8 1]) (ok := fun _ => True) (okp := fun _ => True) ?hr ?hp (fun _ hk => hk) trivial (Below.refl _ _) (Nat.le_refl _) (by simp) ?_; (case hd => rfl); (case hg => rfl); (case hr => first | (go_simp; done) | (go_simp; rfl)); (case hp => exact (Reps.one (show Kd.M (Kd.int .u8) _ _ _ 1 [.int .u8 1] from rfl) (Reps.none _ _)))
         intro v229 w41 ho42 hb hg_ hnew_
         clear hg_ hnew_
         (first | rw [← Ny228.out] at ho42 | (simp only [Int.reduceToNat] at ho42; rw [← Ny228.out] at ho42))
         have HO230 := am_ (Kd.R_lower (Kd.R_new' ho42 (Kd.R_lt (qR HO236))) (below_size (qB HB)))
         replace HO236 := am_ (eR HO236 ho42 hb)
         replace BK222 := am_ (blk_below (qK BK222) hb)
         replace BK223 := am_ (blk_below (qK BK223) hb)
         replace HB := am_ (below_step (qB HB) hb)
         clear hb ho42
         obtain ⟨Ao43, co43, eo43⟩ := Kd.R_slice HO230.out
         (first | subst eo43 | (injection eo43 with f1_ f2_ f3_; have f4_ := f1_.symm; have f5_ := f3_.symm; clear f1_ f2_ f3_; subst f4_; subst f5_))
         refine hK.out _ _ (cz8 BK223.out) (fun hHeld => ?_)
         clear hK K
         refine norm_ (a' := ?_) ?_ ?_
         rotate_left
         ·
          show Act.put _ (some 27) _ = _
          exact ap_
         refine one_ (i := 3) (N := some 30) #[ii,ii,ii,ii,ii,ii,ii,ii,oo,ii,ii,oo,oo] rfl rfl (one_of HT_.out (by kernel_rfl)) (by decide) (fun K hK => ?_)
         refine goes_ Try.func75 (by kernel_rfl) rfl #[.slice Ao43 y228.length co43, .int .i64 a0_1] (by rfl) rfl rfl la_ ?_
         with_reducible refine (spec_PutWord.calls _ _ y228 a0_1 t231 _ ?side1 ?side2 A29.out).mono ?_
         (case side1 => exact qC ((Kd.R_reads' HO230.out).2.2))
         (case side2 => exact (Kd.R_reads' HO230.out).2.1)
         rintro e w44 ⟨v232, rfl, ho0, hb⟩
         refine ⟨_, rfl, ?_⟩
         have HO233 := am_ (Kd.R_lower (Kd.R_new' (Kd.R_new' ho0 (Kd.R_lt (qR HO236))) (Kd.R_lt (qR HO230))) (below_size (qB HB)))
         replace HO236 := am_ (eR HO236 ho0 hb)
         replace HO230 := am_ (eR HO230 ho0 hb)
         replace BK222 := am_ (blk_below (qK BK222) hb)
         replace BK223 := am_ (blk_below (qK BK223) hb)
         replace HB := am_ (below_step (qB HB) hb)
         (try clear hb ho0)
         refine hK.out _ _ (cz8 BK223.out) (fun hHeld => ?_)
         clear hK K
         refine norm_ (a' := ?_) ?_ ?_
         rotate_left
         ·
          show Act.put _ (some 30) _ = _
          exact ap_
         exact norm_ (by simp only [putAll, Act.put, List.setIfInBounds_toArray, List.set_cons_zero, List.set_cons_succ]) (hCont (.slice Ao43 y228.length co43, v232, v235) _ ⟨hHeld, (tR (Kd.R_mono HO230.out (fun _ hk => ⟨hk.2, hk.1.2⟩))), (tR (Kd.R_mono HO233.out (fun _ hk => ⟨hk.2, hk.1.2⟩))), (tR (Kd.R_mono HO236.out (fun _ hk => ⟨hk.1.2, hk.2⟩))), (qK BK222), (qK BK223), (qB HB)⟩)
       rintro ⟨v229, v232, v235⟩ w45 ⟨hS_, h0_, h1_, h2_, h3_, h4_, h5_⟩
       have n0_ : Aside0 (Kd.R (Kd.int .u8) 5 w45 w.heap.size (fun k_ => some k_ ≠ (v232 : Value).ownBlock ∧ some k_ ≠ (v235 : Value).ownBlock) v229 y228) := ⟨h0_⟩
       have n1_ : Aside0 (Kd.R (Kd.int .u8) 5 w45 w.heap.size (fun k_ => some k_ ≠ (v229 : Value).ownBlock ∧ some k_ ≠ (v235 : Value).ownBlock) v232 t231) := ⟨h1_⟩
       have n2_ : Aside0 (Kd.R (Kd.int .u8) 5 w45 w.heap.size (fun k_ => some k_ ≠ (v229 : Value).ownBlock ∧ some k_ ≠ (v232 : Value).ownBlock) v235 y234) := ⟨h2_⟩
       have n3_ : Aside0 (w45.heap[gb222]? = some (.cells #[.int .i64 a0_0, .int .i64 a0_1, .string a0_2, .int .i64 a0_3, .int .i64 a0_4, .int .i64 a0_5, .string a0_6, .int .i64 a0_7, .int .i64 a0_8, .int .i64 a0_9, .string a0_10, .int .i64 a0_11, .int .i64 a0_12, .int .i64 a0_13, .int .i64 a0_14, .int .i64 a0_15] 48 (0, 0))) := ⟨h3_⟩
       have n4_ : Aside0 (w45.heap[gb223]? = some (.cells #[.int .i64 a0_1, .string a0_2, .int .i64 a0_3, .int .i64 a0_4, .int .i64 a0_5, .string a0_6, .int .i64 a0_7, .int .i64 a0_8] 45 (0, 0))) := ⟨h4_⟩
       have n5_ : Aside0 (Below w.heap.size w w45) := ⟨h5_⟩
       clear BK222
       clear BK223
       clear HB
       clear h0_ h1_ h2_ h3_ h4_ h5_
       have HO230 := n0_
       have HO233 := n1_
       have HO236 := n2_
       have BK222 := n3_
       have BK223 := n4_
       have HB := n5_
       clear n0_ n1_ n2_ n3_ n4_ n5_
       have hHeld : w45.cell? ⟨gb223, 0, none⟩ = some (.int .i64 a0_1) ∧ w45.cell? ⟨gb223, 1, none⟩ = some (.string a0_2) ∧ w45.cell? ⟨gb223, 2, none⟩ = some (.int .i64 a0_3) ∧ w45.cell? ⟨gb223, 3, none⟩ = some (.int .i64 a0_4) ∧ w45.cell? ⟨gb223, 4, none⟩ = some (.int .i64 a0_5) ∧ w45.cell? ⟨gb223, 5, none⟩ = some (.string a0_6) ∧ w45.cell? ⟨gb223, 6, none⟩ = some (.int .i64 a0_7) ∧ w45.cell? ⟨gb223, 7, none⟩ = some (.int .i64 a0_8) := hS_
       obtain ⟨Ao47, co47, eo47⟩ := Kd.R_slice HO236.out
       (first | subst eo47 | (injection eo47 with f1_ f2_ f3_; have f4_ := f1_.symm; have f5_ := f3_.symm; clear f1_ f2_ f3_; subst f4_; subst f5_))
       refine norm_ (a' := ?_) ?_ ?_
       rotate_left
       ·
        simp only [putAll, Act.put, List.setIfInBounds_toArray, List.set_cons_zero, List.set_cons_succ]
        rfl
       refine one_ (i := 8) (N := some 35) #[ii,ii,ii,ii,ii,ii,ii,ii,ii,ii,ii,oo,oo] rfl rfl (one_of HT_.out (by kernel_rfl)) (by decide) (fun K hK => ?_)
       refine Kd.R_append_rows_step (Kd.int .u8) (w0 := w) w.heap.size (by rfl) (.tmp 30) (.tmp 34) 22 5 (.int .u8 0) 1 rfl Try.underlying22 info5 rfl (by decide) (by omega) v232 t231 y234 _ _ _ (fun k_ => some k_ ≠ (v229 : Value).ownBlock ∧ some k_ ≠ (.slice Ao47 y234.length co47 : Value).ownBlock) (fun _ => False) rfl rfl ?aO ?aR (fun _ _ h => h) (fun _ h => h.elim) ?aF ?aB ?aS ?aL ?_
       (case aR => exact qC ((Kd.R_reads' HO236.out).2.2))
       (case aB => exact (qB HB))
       (case aF => exact (fun k_ hk => ⟨Kd.fresh' (Kd.R_lt (qR HO230)) k_ hk, Kd.fresh' (Kd.R_lt (qR HO236)) k_ hk⟩))
       (case aO => exact (qR HO233))
       (case aS => exact (below_size (qB HB)))
       (case aL => have := LMc30.out; omega)
       intro v238 w46 ho hb hg hat
       rw [← Ny237.out] at ho
       replace BK222 := am_ (blk_grown (qK BK222) hg (Kd.R_ne HO233.out BK222.out (by decide)))
       replace BK223 := am_ (blk_grown (qK BK223) hg (Kd.R_ne HO233.out BK223.out (by decide)))
       replace HO230 := am_ (Kd.R_after (ok := (fun k_ => some k_ ≠ (.slice Ao47 y234.length co47 : Value).ownBlock)) (tR (Kd.R_mono HO230.out (fun _ hk => ⟨hk.2, hk.1⟩))) hg hat)
       replace HO236 := am_ (Kd.R_after (ok := (fun k_ => some k_ ≠ (v229 : Value).ownBlock)) (qR HO236) hg hat)
       replace HB := am_ (hb)
       have HO239 := am_ (ho)
       clear HO233
       clear ho hb hg hat
       obtain ⟨Ao48, co48, eo48⟩ := Kd.R_slice HO239.out
       (first | subst eo48 | (injection eo48 with f1_ f2_ f3_; have f4_ := f1_.symm; have f5_ := f3_.symm; clear f1_ f2_ f3_; subst f4_; subst f5_))
       refine hK.out _ _ (cz8 BK223.out) (fun hHeld => ?_)
       clear hK K
       refine norm_ (a' := ?_) ?_ ?_
       rotate_left
       ·
        show Act.put _ (some 35) _ = _
        exact ap_
       refine one_ (i := 11) (N := some 38) #[ii,ii,ii,ii,ii,ii,ii,ii,ii,ii,ii,ii,oo] rfl rfl (one_of HT_.out (by kernel_rfl)) (by decide) (fun K hK => ?_)
       refine goes_ Try.func74 (by kernel_rfl) rfl #[.slice Ao48 y237.length co48, .string a0_2] (by rfl) rfl rfl la_ ?_
       with_reducible refine (spec_PutText.calls kj5 _ _ y237 a0_2 t240 _ ?side1 ?side2 A31.out).mono ?_
       (case side1 => exact qC ((Kd.R_reads' HO239.out).2.2))
       (case side2 => exact (Kd.R_reads' HO239.out).2.1)
       rintro e w49 ⟨v241, rfl, ho0, hb⟩
       refine ⟨_, rfl, ?_⟩
       have HO242 := am_ (Kd.R_lower (Kd.R_new' (Kd.R_new' (Kd.R_new' ho0 (Kd.R_lt (qR HO230))) (Kd.R_lt (qR HO236))) (Kd.R_lt (qR HO239))) (below_size (qB HB)))
       replace HO230 := am_ (eR HO230 ho0 hb)
       replace HO236 := am_ (eR HO236 ho0 hb)
       replace HO239 := am_ (eR HO239 ho0 hb)
       replace BK222 := am_ (blk_below (qK BK222) hb)
       replace BK223 := am_ (blk_below (qK BK223) hb)
       replace HB := am_ (below_step (qB HB) hb)
       (try clear hb ho0)
       refine hK.out _ _ (cz8 BK223.out) (fun hHeld => ?_)
       clear hK K
       refine norm_ (a' := ?_) ?_ ?_
       rotate_left
       ·
        show Act.put _ (some 38) _ = _
        exact ap_
       refine pure_ (i := 12) (N := some 4) (v := ?_) (a' := ?_) #[ii,ii,ii,ii,ii,ii,ii,ii,ii,ii,ii,ii,ii] rfl rfl (any_of HT_.out (by kernel_rfl)) (fun _ _ _ h => h) (Or.inl ⟨by rfl, ?_⟩) ?_ ?_
       rotate_left
       ·
        intro w'
        go_simp
        with_reducible rfl
       rotate_left
       ·
        exact ap_
       refine done_ (done_of HT_.out (by kernel_rfl)) ?_
       obtain ⟨Ao50, co50, eo50⟩ := Kd.R_slice HO242.out
       subst eo50
       try go_wp2
       replace HO230 := am_ (Kd.R_drew HO230.out)
       replace HO236 := am_ (Kd.R_drew HO236.out)
       replace HO239 := am_ (Kd.R_drew HO239.out)
       replace HO242 := am_ (Kd.R_drew HO242.out)
       replace BK222 := am_ (blk_drew BK222.out)
       replace BK223 := am_ (blk_drew BK223.out)
       replace HB := am_ (below_drew1 HB.out)
       refine start_ (n := 15) (S := fun w' => w'.cell? ⟨gb223, 0, none⟩ = some (.int .i64 a0_1) ∧ w'.cell? ⟨gb223, 1, none⟩ = some (.string a0_2) ∧ w'.cell? ⟨gb223, 2, none⟩ = some (.int .i64 a0_3) ∧ w'.cell? ⟨gb223, 3, none⟩ = some (.int .i64 a0_4) ∧ w'.cell? ⟨gb223, 4, none⟩ = some (.int .i64 a0_5) ∧ w'.cell? ⟨gb223, 5, none⟩ = some (.string a0_6) ∧ w'.cell? ⟨gb223, 6, none⟩ = some (.int .i64 a0_7) ∧ w'.cell? ⟨gb223, 7, none⟩ = some (.int .i64 a0_8)) (ds := []) #[oo,oo,oo,oo,oo,oo,oo,oo,oo,oo,oo,oo,oo,oo,oo] (by kernel_rfl) rfl rfl (cz8 BK223.out) (fun hHeld => ?_); refine with_tabW spec_PutItem.tab6 spec_PutItem.bits6 (fun HT_ HW_ => ?_)
       generalize w49.drew = w51 at HO230 HO236 HO239 HO242 BK222 BK223 HB hHeld ⊢
       refine pure_ (i := 0) (N := some 39) (v := ?_) (a' := ?_) #[ii,oo,oo,oo,oo,oo,oo,oo,oo,oo,oo,oo,oo,oo,oo] rfl rfl (any_of HT_.out (by kernel_rfl)) (fun _ _ _ h => h) (Or.inl ⟨by rfl, ?_⟩) ?_ ?_
       rotate_left
       ·
        intro w'
        go_simp
        with_reducible rfl
       rotate_left
       ·
        exact ap_
       refine pure_ (i := 1) (N := some 40) (v := ?_) (a' := ?_) #[ii,ii,oo,oo,oo,oo,oo,oo,oo,oo,oo,oo,oo,oo,oo] rfl rfl (any_of HT_.out (by kernel_rfl)) (fun _ _ _ h => h) (Or.inl ⟨by rfl, ?_⟩) ?_ ?_
       rotate_left
       ·
        intro w'
        go_simp
        with_reducible rfl
       rotate_left
       ·
        exact ap_
       refine pure_ (i := 4) (N := some 43) (v := ?_) (a' := ?_) #[ii,ii,oo,oo,ii,oo,oo,oo,oo,oo,oo,oo,oo,oo,oo] rfl rfl (any_of HT_.out (by kernel_rfl)) (fun _ _ _ h => h) (Or.inl ⟨by rfl, ?_⟩) ?_ ?_
       rotate_left
       ·
        intro w'
        go_simp
        with_reducible rfl
       rotate_left
       ·
        exact ap_
       refine pure_ (i := 8) (N := some 47) (v := ?_) (a' := ?_) #[ii,ii,oo,oo,ii,oo,oo,oo,ii,oo,oo,oo,oo,oo,oo] rfl rfl (any_of HT_.out (by kernel_rfl)) (fun _ _ _ h => h) (Or.inl ⟨by rfl, ?_⟩) ?_ ?_
       rotate_left
       ·
        intro w'
        go_simp
        with_reducible rfl
       rotate_left
       ·
        exact ap_
       refine take_ (i := 2) (N := some 41) (v := ?_) (a' := ?_) #[ii,ii,ii,oo,ii,oo,oo,oo,ii,oo,oo,oo,oo,oo,oo] rfl rfl (take_ofW HT_.out HW_.out (by kernel_rfl)) (fun _ _ _ h => h) (Or.inl ⟨by rfl, ?_⟩) hHeld ?_ ?_
       rotate_left
       ·
        rintro w' ⟨s0, s1, s2, s3, s4, s5, s6, s7⟩
        go_simp
        with_reducible rfl
       rotate_left
       ·
        exact ap_
       refine take_ (i := 5) (N := some 44) (v := ?_) (a' := ?_) #[ii,ii,ii,oo,ii,ii,oo,oo,ii,oo,oo,oo,oo,oo,oo] rfl rfl (take_ofW HT_.out HW_.out (by kernel_rfl)) (fun _ _ _ h => h) (Or.inl ⟨by rfl, ?_⟩) hHeld ?_ ?_
       rotate_left
       ·
        rintro w' ⟨s0, s1, s2, s3, s4, s5, s6, s7⟩
        go_simp
        with_reducible rfl
       rotate_left
       ·
        exact ap_
       refine pure_ (i := 6) (N := some 45) (v := ?_) (a' := ?_) #[ii,ii,ii,oo,ii,ii,ii,oo,ii,oo,oo,oo,oo,oo,oo] rfl rfl (any_of HT_.out (by kernel_rfl)) (fun _ _ _ h => h) (Or.inl ⟨by rfl, ?_⟩) ?_ ?_
       rotate_left
       ·
        intro w'
        go_simp
        with_reducible rfl
       rotate_left
       ·
        exact ap_
       refine take_ (i := 9) (N := some 48) (v := ?_) (a' := ?_) #[ii,ii,ii,oo,ii,ii,ii,oo,ii,ii,oo,oo,oo,oo,oo] rfl rfl (take_ofW HT_.out HW_.out (by kernel_rfl)) (fun _ _ _ h => h) (Or.inl ⟨by rfl, ?_⟩) hHeld ?_ ?_
       rotate_left
       ·
        rintro w' ⟨s0, s1, s2, s3, s4, s5, s6, s7⟩
        go_simp
        with_reducible rfl
       rotate_left
       ·
        exact ap_
       refine pure_ (i := 10) (N := some 49) (v := ?_) (a' := ?_) #[ii,ii,ii,oo,ii,ii,ii,oo,ii,ii,ii,oo,oo,oo,oo] rfl rfl (any_of HT_.out (by kernel_rfl)) (fun _ _ _ h => h) (Or.inl ⟨by rfl, ?_⟩) ?_ ?_
       rotate_left
       ·
        intro w'
        go_simp
        with_reducible rfl
       rotate_left
       ·
        exact ap_
       refine pure_ (i := 11) (N := some 50) (v := ?_) (a' := ?_) #[ii,ii,ii,oo,ii,ii,ii,oo,ii,ii,ii,ii,oo,oo,oo] rfl rfl (any_of HT_.out (by kernel_rfl)) (fun _ _ _ h => h) (Or.inl ⟨by rfl, ?_⟩) ?_ ?_
       rotate_left
       ·
        intro w'
        go_simp
        with_reducible rfl
       rotate_left
       ·
        exact ap_
       refine join_ (σ := Value × Value × Value) 2 #[ii,ii,ii,ii,ii,ii,ii,ii,ii,ii,ii,ii,ii,oo,oo] (fun s_ => [(42, s_.1), (46, s_.2.1), (51, s_.2.2)]) (fun s_ w' => (w'.cell? ⟨gb223, 0, none⟩ = some (.int .i64 a0_1) ∧ w'.cell? ⟨gb223, 1, none⟩ = some (.string a0_2) ∧ w'.cell? ⟨gb223, 2, none⟩ = some (.int .i64 a0_3) ∧ w'.cell? ⟨gb223, 3, none⟩ = some (.int .i64 a0_4) ∧ w'.cell? ⟨gb223, 4, none⟩ = some (.int .i64 a0_5) ∧ w'.cell? ⟨gb223, 5, none⟩ = some (.string a0_6) ∧ w'.cell? ⟨gb223, 6, none⟩ = some (.int .i64 a0_7) ∧ w'.cell? ⟨gb223, 7, none⟩ = some (.int .i64 a0_8)) ∧ (Kd.R (Kd.int .u8) 5 w' w.heap.size (fun k_ => some k_ ≠ (.slice Ao47 y234.length co47 : Value).ownBlock ∧ some k_ ≠ (.slice Ao48 y237.length co48 : Value).ownBlock ∧ some k_ ≠ (.slice Ao50 t240.length co50 : Value).ownBlock ∧ some k_ ≠ (s_.1 : Value).ownBlock ∧ some k_ ≠ (s_.2.1 : Value).ownBlock ∧ some k_ ≠ (s_.2.2 : Value).ownBlock) v229 y228) ∧ (Kd.R (Kd.int .u8) 5 w' w.heap.size (fun k_ => some k_ ≠ (v229 : Value).ownBlock ∧ some k_ ≠ (.slice Ao48 y237.length co48 : Value).ownBlock ∧ some k_ ≠ (.slice Ao50 t240.length co50 : Value).ownBlock ∧ some k_ ≠ (s_.1 : Value).ownBlock ∧ some k_ ≠ (s_.2.1 : Value).ownBlock ∧ some k_ ≠ (s_.2.2 : Value).ownBlock) (.slice Ao47 y234.length co47) y234) ∧ (Kd.R (Kd.int .u8) 5 w' w.heap.size (fun k_ => some k_ ≠ (v229 : Value).ownBlock ∧ some k_ ≠ (.slice Ao47 y234.length co47 : Value).ownBlock ∧ some k_ ≠ (.slice Ao50 t240.length co50 : Value).ownBlock ∧ some k_ ≠ (s_.1 : Value).ownBlock ∧ some k_ ≠ (s_.2.1 : Value).ownBlock ∧ some k_ ≠ (s_.2.2 : Value).ownBlock) (.slice Ao48 y237.length co48) y237) ∧ (Kd.R (Kd.int .u8) 5 w' w.heap.size (fun k_ => some k_ ≠ (v229 : Value).ownBlock ∧ some k_ ≠ (.slice Ao47 y234.length co47 : Value).ownBlock ∧ some k_ ≠ (.slice Ao48 y237.length co48 : Value).ownBlock ∧ some k_ ≠ (s_.1 : Value).ownBlock ∧ some k_ ≠ (s_.2.1 : Value).ownBlock ∧ some k_ ≠ (s_.2.2 : Value).ownBlock) (.slice Ao50 t240.length co50) t240) ∧ (Kd.R (Kd.int .u8) 5 w' w.heap.size (fun k_ => some k_ ≠ (v229 : Value).ownBlock ∧ some k_ ≠ (.slice Ao47 y234.length co47 : Value).ownBlock ∧ some k_ ≠ (.slice Ao48 y237.length co48 : Value).ownBlock ∧ some k_ ≠ (.slice Ao50 t240.length co50 : Value).ownBlock ∧ some k_ ≠ (s_.2.1 : Value).ownBlock ∧ some k_ ≠ (s_.2.2 : Value).ownBlock) s_.1 t243) ∧ (Kd.R (Kd.int .u8) 5 w' w.heap.size (fun k_ => some k_ ≠ (v229 : Value).ownBlock ∧ some k_ ≠ (.slice Ao47 y234.length co47 : Value).ownBlock ∧ some k_ ≠ (.slice Ao48 y237.length co48 : Value).ownBlock ∧ some k_ ≠ (.slice Ao50 t240.length co50 : Value).ownBlock ∧ some k_ ≠ (s_.1 : Value).ownBlock ∧ some k_ ≠ (s_.2.2 : Value).ownBlock) s_.2.1 t246) ∧ (Kd.R (Kd.int .u8) 5 w' w.heap.size (fun k_ => some k_ ≠ (v229 : Value).ownBlock ∧ some k_ ≠ (.slice Ao47 y234.length co47 : Value).ownBlock ∧ some k_ ≠ (.slice Ao48 y237.length co48 : Value).ownBlock ∧ some k_ ≠ (.slice Ao50 t240.length co50 : Value).ownBlock ∧ some k_ ≠ (s_.1 : Value).ownBlock ∧ some k_ ≠ (s_.2.1 : Value).ownBlock) s_.2.2 y249) ∧ (w'.heap[gb222]? = some (.cells #[.int .i64 a0_0, .int .i64 a0_1, .string a0_2, .int .i64 a0_3, .int .i64 a0_4, .int .i64 a0_5, .string a0_6, .int .i64 a0_7, .int .i64 a0_8, .int .i64 a0_9, .string a0_10, .int .i64 a0_11, .int .i64 a0_12, .int .i64 a0_13, .int .i64 a0_14, .int .i64 a0_15] 48 (0, 0))) ∧ (w'.heap[gb223]? = some (.cells #[.int .i64 a0_1, .string a0_2, .int .i64 a0_3, .int .i64 a0_4, .int .i64 a0_5, .string a0_6, .int .i64 a0_7, .int .i64 a0_8] 45 (0, 0))) ∧ (Below w.heap.size w w')) ?_ ?_
       rotate_left
       ·
        intro hCont
        refine two_ (i := 3) (j := 12) (Ni := some 42) (Nj := some 51) #[ii,ii,ii,ii,ii,ii,ii,oo,ii,ii,ii,ii,oo,oo,oo] #[ii,ii,ii,oo,ii,ii,ii,oo,ii,ii,ii,ii,ii,oo,oo] rfl rfl rfl rfl (two_of HT_.out (by kernel_rfl)) (by decide) (by decide) (fun K hK => ?_) (fun K hK => ?_)
        ·
         skip
         refine goes_ Try.func75 (by kernel_rfl) rfl #[.slice Ao50 t240.length co50, .int .i64 a0_4] (by rfl) rfl rfl la_ ?_
         with_reducible refine (spec_PutWord.calls _ _ t240 a0_4 t243 _ ?side1 ?side2 A32.out).mono ?_
         (case side1 => exact qC ((Kd.R_reads' HO242.out).2.2))
         (case side2 => exact (Kd.R_reads' HO242.out).2.1)
         rintro e w52 ⟨v244, rfl, ho0, hb⟩
         refine ⟨_, rfl, ?_⟩
         have HO245 := am_ (Kd.R_lower (Kd.R_new' (Kd.R_new' (Kd.R_new' (Kd.R_new' ho0 (Kd.R_lt (qR HO230))) (Kd.R_lt (qR HO236))) (Kd.R_lt (qR HO239))) (Kd.R_lt (qR HO242))) (below_size (qB HB)))
         replace HO230 := am_ (eR HO230 ho0 hb)
         replace HO236 := am_ (eR HO236 ho0 hb)
         replace HO239 := am_ (eR HO239 ho0 hb)
         replace HO242 := am_ (eR HO242 ho0 hb)
         replace BK222 := am_ (blk_below (qK BK222) hb)
         replace BK223 := am_ (blk_below (qK BK223) hb)
         replace HB := am_ (below_step (qB HB) hb)
         (try clear hb ho0)
         obtain ⟨Ao53, co53, eo53⟩ := Kd.R_slice HO245.out
         (first | subst eo53 | (injection eo53 with f1_ f2_ f3_; have f4_ := f1_.symm; have f5_ := f3_.symm; clear f1_ f2_ f3_; subst f4_; subst f5_))
         refine hK.out _ _ (cz8 BK223.out) (fun hHeld => ?_)
         clear hK K
         refine norm_ (a' := ?_) ?_ ?_
         rotate_left
         ·
          show Act.put _ (some 42) _ = _
          exact ap_
         refine two_ (i := 7) (j := 12) (Ni := some 46) (Nj := some 51) #[ii,ii,ii,ii,ii,ii,ii,ii,ii,ii,ii,ii,oo,oo,oo] #[ii,ii,ii,ii,ii,ii,ii,oo,ii,ii,ii,ii,ii,oo,oo] rfl rfl rfl rfl (two_of HT_.out (by kernel_rfl)) (by decide) (by decide) (fun K hK => ?_) (fun K hK => ?_)
         ·
          skip
          refine goes_ Try.func75 (by kernel_rfl) rfl #[.slice Ao53 t243.length co53, .int .i64 (wrap64 (Int.tdiv a0_5 256))] (by rfl) rfl rfl la_ ?_
          with_reducible refine (spec_PutWord.calls _ _ t243 (wrap64 (Int.tdiv a0_5 256)) t246 _ ?side1 ?side2 A33.out).mono ?_
          (case side1 => exact qC ((Kd.R_reads' HO245.out).2.2))
          (case side2 => exact (Kd.R_reads' HO245.out).2.1)
          rintro e w54 ⟨v247, rfl, ho0, hb⟩
          refine ⟨_, rfl, ?_⟩
          have HO248 := am_ (Kd.R_lower (Kd.R_new' (Kd.R_new' (Kd.R_new' (Kd.R_new' (Kd.R_new' ho0 (Kd.R_lt (qR HO230))) (Kd.R_lt (qR HO236))) (Kd.R_lt (qR HO239))) (Kd.R_lt (qR HO242))) (Kd.R_lt (qR HO245))) (below_size (qB HB)))
          replace HO230 := am_ (eR HO230 ho0 hb)
          replace HO236 := am_ (eR HO236 ho0 hb)
          replace HO239 := am_ (eR HO239 ho0 hb)
          replace HO242 := am_ (eR HO242 ho0 hb)
          replace HO245 := am_ (eR HO245 ho0 hb)
          replace BK222 := am_ (blk_below (qK BK222) hb)
          replace BK223 := am_ (blk_below (qK BK223) hb)
          replace HB := am_ (below_step (qB HB) hb)
          (try clear hb ho0)
          refine hK.out _ _ (cz8 BK223.out) (fun hHeld => ?_)
          clear hK K
          refine norm_ (a' := ?_) ?_ ?_
          rotate_left
          ·
           show Act.put _ (some 46) _ = _
           exact ap_
          refine one_ (i := 12) (N := some 51) #[ii,ii,ii,ii,ii,ii,ii,ii,ii,ii,ii,ii,ii,oo,oo] rfl rfl (one_of HT_.out (by kernel_rfl)) (by decide) (fun K hK => ?_)
          refine Kd.R_lit_step (Kd.int .u8) _ 5 ?hg (N := 51) ?hd (xs := ([(Int.tmod a0_5 256) % 256] : List Int)) (inner := [.int .u8 ((Int.tmod a0_5 256) % 256)]) (ok := fun _ => True) (okp := fun _ => True) ?hr ?hp (fun _ hk => hk) trivial (Below.refl _ _) (Nat.le_refl _) (by simp) ?_; (case hd => rfl); (case hg => rfl); (case hr => first | (go_simp; done) | (go_simp; rfl)); (case hp => exact (Reps.one (show Kd.M (Kd.int .u8) _ _ _ ((Int.tmod a0_5 256) % 256) [.int .u8 ((Int.tmod a0_5 256) % 256)] from rfl) (Reps.none _ _)))
          intro v250 w55 ho56 hb hg_ hnew_
          clear hg_ hnew_
          (first | rw [← Ny249.out] at ho56 | (simp only [Int.reduceToNat] at ho56; rw [← Ny249.out] at ho56))
          have HO251 := am_ (Kd.R_lower (Kd.R_new' (Kd.R_new' (Kd.R_new' (Kd.R_new' (Kd.R_new' (Kd.R_new' ho56 (Kd.R_lt (qR HO230))) (Kd.R_lt (qR HO236))) (Kd.R_lt (qR HO239))) (Kd.R_lt (qR HO242))) (Kd.R_lt (qR HO245))) (Kd.R_lt (qR HO248))) (below_size (qB HB)))
          replace HO230 := am_ (eR HO230 ho56 hb)
          replace HO236 := am_ (eR HO236 ho56 hb)
          replace HO239 := am_ (eR HO239 ho56 hb)
          replace HO242 := am_ (eR HO242 ho56 hb)
          replace HO245 := am_ (eR HO245 ho56 hb)
          replace HO248 := am_ (eR HO248 ho56 hb)
          replace BK222 := am_ (blk_below (qK BK222) hb)
          replace BK223 := am_ (blk_below (qK BK223) hb)
          replace HB := am_ (below_step (qB HB) hb)
          clear hb ho56
          refine hK.out _ _ (cz8 BK223.out) (fun hHeld => ?_)
          clear hK K
          refine norm_ (a' := ?_) ?_ ?_
          rotate_left
          ·
           show Act.put _ (some 51) _ = _
           exact ap_
          exact norm_ (by simp only [putAll, Act.put, List.setIfInBounds_toArray, List.set_cons_zero, List.set_cons_succ]) (hCont (.slice Ao53 t243.length co53, v247, v250) _ ⟨hHeld, (tR (Kd.R_mono HO230.out (fun _ hk => ⟨hk.1.1.1.1.1, ⟨hk.1.1.1.1.2, ⟨hk.1.1.1.2, ⟨hk.1.1.2, ⟨hk.1.2, hk.2⟩⟩⟩⟩⟩))), (tR (Kd.R_mono HO236.out (fun _ hk => ⟨hk.1.1.1.1.1, ⟨hk.1.1.1.1.2, ⟨hk.1.1.1.2, ⟨hk.1.1.2, ⟨hk.1.2, hk.2⟩⟩⟩⟩⟩))), (tR (Kd.R_mono HO239.out (fun _ hk => ⟨hk.1.1.1.1.1, ⟨hk.1.1.1.1.2, ⟨hk.1.1.1.2, ⟨hk.1.1.2, ⟨hk.1.2, hk.2⟩⟩⟩⟩⟩))), (tR (Kd.R_mono HO242.out (fun _ hk => ⟨hk.1.1.1.1.1.2, ⟨hk.1.1.1.1.2, ⟨hk.1.1.1.2, ⟨hk.1.1.2, ⟨hk.1.2, hk.2⟩⟩⟩⟩⟩))), (tR (Kd.R_mono HO245.out (fun _ hk => ⟨hk.1.1.1.1.1.2, ⟨hk.1.1.1.1.2, ⟨hk.1.1.1.2, ⟨hk.1.1.2, ⟨hk.1.2, hk.2⟩⟩⟩⟩⟩))), (tR (Kd.R_mono HO248.out (fun _ hk => ⟨hk.1.1.1.1.1.2, ⟨hk.1.1.1.1.2, ⟨hk.1.1.1.2, ⟨hk.1.1.2, ⟨hk.1.2, hk.2⟩⟩⟩⟩⟩))), (tR (Kd.R_mono HO251.out (fun _ hk => ⟨hk.1.1.1.1.1.2, ⟨hk.1.1.1.1.2, ⟨hk.1.1.1.2, ⟨hk.1.1.2, ⟨hk.1.2, hk.2⟩⟩⟩⟩⟩))), (qK BK222), (qK BK223), (qB HB)⟩)
         ·
          skip
          refine Kd.R_lit_step (Kd.int .u8) _ 5 ?hg (N := 51) ?hd (xs := ([(Int.tmod a0_5 256) % 256] : List Int)) (inner := [.int .u8 ((Int.tmod a0_5 256) % 256)]) (ok := fun _ => True) (okp := fun _ => True) ?hr ?hp (fun _ hk => hk) trivial (Below.refl _ _) (Nat.le_refl _) (by simp) ?_; (case hd => rfl); (case hg => rfl); (case hr => first | (go_simp; done) | (go_simp; rfl)); (case hp => exact (Reps.one (show Kd.M (Kd.int .u8) _ _ _ ((Int.tmod a0_5 256) % 256) [.int .u8 ((Int.tmod a0_5 256) % 256)] from rfl) (Reps.none _ _)))
          intro v250 w53 ho54 hb hg_ hnew_
          clear hg_ hnew_
          (first | rw [← Ny249.out] at ho54 | (simp only [Int.reduceToNat] at ho54; rw [← Ny249.out] at ho54))
          have HO251 := am_ (Kd.R_lower (Kd.R_new' (Kd.R_new' (Kd.R_new' (Kd.R_new' (Kd.R_new' ho54 (Kd.R_lt (qR HO230))) (Kd.R_lt (qR HO236))) (Kd.R_lt (qR HO239))) (Kd.R_lt (qR HO242))) (Kd.R_lt (qR HO245))) (below_size (qB HB)))
          replace HO230 := am_ (eR HO230 ho54 hb)
          replace HO236 := am_ (eR HO236 ho54 hb)
          replace HO239 := am_ (eR HO239 ho54 hb)
          replace HO242 := am_ (eR HO242 ho54 hb)
          replace HO245 := am_ (eR HO245 ho54 hb)
          replace BK222 := am_ (blk_below (qK BK222) hb)
          replace BK223 := am_ (blk_below (qK BK223) hb)
          replace HB := am_ (below_step (qB HB) hb)
          clear hb ho54
          obtain ⟨Ao55, co55, eo55⟩ := Kd.R_slice HO245.out
          (first | subst eo55 | (injection eo55 with f1_ f2_ f3_; have f4_ := f1_.symm; have f5_ := f3_.symm; clear f1_ f2_ f3_; subst f4_; subst f5_))
          refine hK.out _ _ (cz8 BK223.out) (fun hHeld => ?_)
          clear hK K
          refine norm_ (a' := ?_) ?_ ?_
          rotate_left
          ·
           show Act.put _ (some 51) _ = _
           exact ap_
          refine one_ (i := 7) (N := some 46) #[ii,ii,ii,ii,ii,ii,ii,ii,ii,ii,ii,ii,ii,oo,oo] rfl rfl (one_of HT_.out (by kernel_rfl)) (by decide) (fun K hK => ?_)
          refine goes_ Try.func75 (by kernel_rfl) rfl #[.slice Ao55 t243.length co55, .int .i64 (wrap64 (Int.tdiv a0_5 256))] (by rfl) rfl rfl la_ ?_
          with_reducible refine (spec_PutWord.calls _ _ t243 (wrap64 (Int.tdiv a0_5 256)) t246 _ ?side1 ?side2 A33.out).mono ?_
          (case side1 => exact qC ((Kd.R_reads' HO245.out).2.2))
          (case side2 => exact (Kd.R_reads' HO245.out).2.1)
          rintro e w56 ⟨v247, rfl, ho0, hb⟩
          refine ⟨_, rfl, ?_⟩
          have HO248 := am_ (Kd.R_lower (Kd.R_new' (Kd.R_new' (Kd.R_new' (Kd.R_new' (Kd.R_new' (Kd.R_new' ho0 (Kd.R_lt (qR HO230))) (Kd.R_lt (qR HO236))) (Kd.R_lt (qR HO239))) (Kd.R_lt (qR HO242))) (Kd.R_lt (qR HO245))) (Kd.R_lt (qR HO251))) (below_size (qB HB)))
          replace HO230 := am_ (eR HO230 ho0 hb)
          replace HO236 := am_ (eR HO236 ho0 hb)
          replace HO239 := am_ (eR HO239 ho0 hb)
          replace HO242 := am_ (eR HO242 ho0 hb)
          replace HO245 := am_ (eR HO245 ho0 hb)
          replace HO251 := am_ (eR HO251 ho0 hb)
          replace BK222 := am_ (blk_below (qK BK222) hb)
          replace BK223 := am_ (blk_below (qK BK223) hb)
          replace HB := am_ (below_step (qB HB) hb)
          (try clear hb ho0)
          refine hK.out _ _ (cz8 BK223.out) (fun hHeld => ?_)
          clear hK K
          refine norm_ (a' := ?_) ?_ ?_
          rotate_left
          ·
           show Act.put _ (some 46) _ = _
           exact ap_
          exact norm_ (by simp only [putAll, Act.put, List.setIfInBounds_toArray, List.set_cons_zero, List.set_cons_succ]) (hCont (.slice Ao55 t243.length co55, v247, v250) _ ⟨hHeld, (tR (Kd.R_mono HO230.out (fun _ hk => ⟨hk.1.1.1.1.1, ⟨hk.1.1.1.1.2, ⟨hk.1.1.1.2, ⟨hk.1.1.2, ⟨hk.2, hk.1.2⟩⟩⟩⟩⟩))), (tR (Kd.R_mono HO236.out (fun _ hk => ⟨hk.1.1.1.1.1, ⟨hk.1.1.1.1.2, ⟨hk.1.1.1.2, ⟨hk.1.1.2, ⟨hk.2, hk.1.2⟩⟩⟩⟩⟩))), (tR (Kd.R_mono HO239.out (fun _ hk => ⟨hk.1.1.1.1.1, ⟨hk.1.1.1.1.2, ⟨hk.1.1.1.2, ⟨hk.1.1.2, ⟨hk.2, hk.1.2⟩⟩⟩⟩⟩))), (tR (Kd.R_mono HO242.out (fun _ hk => ⟨hk.1.1.1.1.1.2, ⟨hk.1.1.1.1.2, ⟨hk.1.1.1.2, ⟨hk.1.1.2, ⟨hk.2, hk.1.2⟩⟩⟩⟩⟩))), (tR (Kd.R_mono HO245.out (fun _ hk => ⟨hk.1.1.1.1.1.2, ⟨hk.1.1.1.1.2, ⟨hk.1.1.1.2, ⟨hk.1.1.2, ⟨hk.2, hk.1.2⟩⟩⟩⟩⟩))), (tR (Kd.R_mono HO248.out (fun _ hk => ⟨hk.1.1.1.1.1.2, ⟨hk.1.1.1.1.2, ⟨hk.1.1.1.2, ⟨hk.1.1.2, ⟨hk.1.2, hk.2⟩⟩⟩⟩⟩))), (tR (Kd.R_mono HO251.out (fun _ hk => ⟨hk.1.1.1.1.1.2, ⟨hk.1.1.1.1.2, ⟨hk.1.1.1.2, ⟨hk.1.1.2, ⟨hk.1.2, hk.2⟩⟩⟩⟩⟩))), (qK BK222), (qK BK223), (qB HB)⟩)
        ·
         skip
         refine Kd.R_lit_step (Kd.int .u8) _ 5 ?hg (N := 51) ?hd (xs := ([(Int.tmod a0_5 256) % 256] : List Int)) (inner := [.int .u8 ((Int.tmod a0_5 256) % 256)]) (ok := fun _ => True) (okp := fun _ => True) ?hr ?hp (fun _ hk => hk) trivial (Below.refl _ _) (Nat.le_refl _) (by simp) ?_; (case hd => rfl); (case hg => rfl); (case hr => first | (go_simp; done) | (go_simp; rfl)); (case hp => exact (Reps.one (show Kd.M (Kd.int .u8) _ _ _ ((Int.tmod a0_5 256) % 256) [.int .u8 ((Int.tmod a0_5 256) % 256)] from rfl) (Reps.none _ _)))
         intro v250 w52 ho53 hb hg_ hnew_
         clear hg_ hnew_
         (first | rw [← Ny249.out] at ho53 | (simp only [Int.reduceToNat] at ho53; rw [← Ny249.out] at ho53))
         have HO251 := am_ (Kd.R_lower (Kd.R_new' (Kd.R_new' (Kd.R_new' (Kd.R_new' ho53 (Kd.R_lt (qR HO230))) (Kd.R_lt (qR HO236))) (Kd.R_lt (qR HO239))) (Kd.R_lt (qR HO242))) (below_size (qB HB)))
         replace HO230 := am_ (eR HO230 ho53 hb)
         replace HO236 := am_ (eR HO236 ho53 hb)
         replace HO239 := am_ (eR HO239 ho53 hb)
         replace HO242 := am_ (eR HO242 ho53 hb)
         replace BK222 := am_ (blk_below (qK BK222) hb)
         replace BK223 := am_ (blk_below (qK BK223) hb)
         replace HB := am_ (below_step (qB HB) hb)
         clear hb ho53
         refine hK.out _ _ (cz8 BK223.out) (fun hHeld => ?_)
         clear hK K
         refine norm_ (a' := ?_) ?_ ?_
         rotate_left
         ·
          show Act.put _ (some 51) _ = _
          exact ap_
         refine one_ (i := 3) (N := some 42) #[ii,ii,ii,ii,ii,ii,ii,oo,ii,ii,ii,ii,ii,oo,oo] rfl rfl (one_of HT_.out (by kernel_rfl)) (by decide) (fun K hK => ?_)
         refine goes_ Try.func75 (by kernel_rfl) rfl #[.slice Ao50 t240.length co50, .int .i64 a0_4] (by rfl) rfl rfl la_ ?_
         with_reducible refine (spec_PutWord.calls _ _ t240 a0_4 t243 _ ?side1 ?side2 A32.out).mono ?_
         (case side1 => exact qC ((Kd.R_reads' HO242.out).2.2))
         (case side2 => exact (Kd.R_reads' HO242.out).2.1)
         rintro e w54 ⟨v244, rfl, ho0, hb⟩
         refine ⟨_, rfl, ?_⟩
         have HO245 := am_ (Kd.R_lower (Kd.R_new' (Kd.R_new' (Kd.R_new' (Kd.R_new' (Kd.R_new' ho0 (Kd.R_lt (qR HO230))) (Kd.R_lt (qR HO236))) (Kd.R_lt (qR HO239))) (Kd.R_lt (qR HO242))) (Kd.R_lt (qR HO251))) (below_size (qB HB)))
         replace HO230 := am_ (eR HO230 ho0 hb)
         replace HO236 := am_ (eR HO236 ho0 hb)
         replace HO239 := am_ (eR HO239 ho0 hb)
         replace HO242 := am_ (eR HO242 ho0 hb)
         replace HO251 := am_ (eR HO251 ho0 hb)
         replace BK222 := am_ (blk_below (qK BK222) hb)
         replace BK223 := am_ (blk_below (qK BK223) hb)
         replace HB := am_ (below_step (qB HB) hb)
         (try clear hb ho0)
         obtain ⟨Ao55, co55, eo55⟩ := Kd.R_slice HO245.out
         (first | subst eo55 | (injection eo55 with f1_ f2_ f3_; have f4_ := f1_.symm; have f5_ := f3_.symm; clear f1_ f2_ f3_; subst f4_; subst f5_))
         refine hK.out _ _ (cz8 BK223.out) (fun hHeld => ?_)
         clear hK K
         refine norm_ (a' := ?_) ?_ ?_
         rotate_left
         ·
          show Act.put _ (some 42) _ = _
          exact ap_
         refine one_ (i := 7) (N := some 46) #[ii,ii,ii,ii,ii,ii,ii,ii,ii,ii,ii,ii,ii,oo,oo] rfl rfl (one_of HT_.out (by kernel_rfl)) (by decide) (fun K hK => ?_)
         refine goes_ Try.func75 (by kernel_rfl) rfl #[.slice Ao55 t243.length co55, .int .i64 (wrap64 (Int.tdiv a0_5 256))] (by rfl) rfl rfl la_ ?_
         with_reducible refine (spec_PutWord.calls _ _ t243 (wrap64 (Int.tdiv a0_5 256)) t246 _ ?side1 ?side2 A33.out).mono ?_
         (case side1 => exact qC ((Kd.R_reads' HO245.out).2.2))
         (case side2 => exact (Kd.R_reads' HO245.out).2.1)
         rintro e w56 ⟨v247, rfl, ho0, hb⟩
         refine ⟨_, rfl, ?_⟩
         have HO248 := am_ (Kd.R_lower (Kd.R_new' (Kd.R_new' (Kd.R_new' (Kd.R_new' (Kd.R_new' (Kd.R_new' ho0 (Kd.R_lt (qR HO230))) (Kd.R_lt (qR HO236))) (Kd.R_lt (qR HO239))) (Kd.R_lt (qR HO242))) (Kd.R_lt (qR HO251))) (Kd.R_lt (qR HO245))) (below_size (qB HB)))
         replace HO230 := am_ (eR HO230 ho0 hb)
         replace HO236 := am_ (eR HO236 ho0 hb)
         replace HO239 := am_ (eR HO239 ho0 hb)
         replace HO242 := am_ (eR HO242 ho0 hb)
         replace HO251 := am_ (eR HO251 ho0 hb)
         replace HO245 := am_ (eR HO245 ho0 hb)
         replace BK222 := am_ (blk_below (qK BK222) hb)
         replace BK223 := am_ (blk_below (qK BK223) hb)
         replace HB := am_ (below_step (qB HB) hb)
         (try clear hb ho0)
         refine hK.out _ _ (cz8 BK223.out) (fun hHeld => ?_)
         clear hK K
         refine norm_ (a' := ?_) ?_ ?_
         rotate_left
         ·
          show Act.put _ (some 46) _ = _
          exact ap_
         exact norm_ (by simp only [putAll, Act.put, List.setIfInBounds_toArray, List.set_cons_zero, List.set_cons_succ]) (hCont (.slice Ao55 t243.length co55, v247, v250) _ ⟨hHeld, (tR (Kd.R_mono HO230.out (fun _ hk => ⟨hk.1.1.1.1.1, ⟨hk.1.1.1.1.2, ⟨hk.1.1.1.2, ⟨hk.1.2, ⟨hk.2, hk.1.1.2⟩⟩⟩⟩⟩))), (tR (Kd.R_mono HO236.out (fun _ hk => ⟨hk.1.1.1.1.1, ⟨hk.1.1.1.1.2, ⟨hk.1.1.1.2, ⟨hk.1.2, ⟨hk.2, hk.1.1.2⟩⟩⟩⟩⟩))), (tR (Kd.R_mono HO239.out (fun _ hk => ⟨hk.1.1.1.1.1, ⟨hk.1.1.1.1.2, ⟨hk.1.1.1.2, ⟨hk.1.2, ⟨hk.2, hk.1.1.2⟩⟩⟩⟩⟩))), (tR (Kd.R_mono HO242.out (fun _ hk => ⟨hk.1.1.1.1.1.2, ⟨hk.1.1.1.1.2, ⟨hk.1.1.1.2, ⟨hk.1.2, ⟨hk.2, hk.1.1.2⟩⟩⟩⟩⟩))), (tR (Kd.R_mono HO245.out (fun _ hk => ⟨hk.1.1.1.1.1.2, ⟨hk.1.1.1.1.2, ⟨hk.1.1.1.2, ⟨hk.1.1.2, ⟨hk.2, hk.1.2⟩⟩⟩⟩⟩))), (tR (Kd.R_mono HO248.out (fun _ hk => ⟨hk.1.1.1.1.1.2, ⟨hk.1.1.1.1.2, ⟨hk.1.1.1.2, ⟨hk.1.1.2, ⟨hk.2, hk.1.2⟩⟩⟩⟩⟩))), (tR (Kd.R_mono HO251.out (fun _ hk => ⟨hk.1.1.1.1.1.2, ⟨hk.1.1.1.1.2, ⟨hk.1.1.1.2, ⟨hk.1.1.2, ⟨hk.1.2, hk.2⟩⟩⟩⟩⟩))), (qK BK222), (qK BK223), (qB HB)⟩)
       rintro ⟨v244, v247, v250⟩ w57 ⟨hS_, h0_, h1_, h2_, h3_, h4_, h5_, h6_, h7_, h8_, h9_⟩
       have n0_ : Aside0 (Kd.R (Kd.int .u8) 5 w57 w.heap.size (fun k_ => some k_ ≠ (.slice Ao47 y234.length co47 : Value).ownBlock ∧ some k_ ≠ (.slice Ao48 y237.length co48 : Value).ownBlock ∧ some k_ ≠ (.slice Ao50 t240.length co50 : Value).ownBlock ∧ some k_ ≠ (v244 : Value).ownBlock ∧ some k_ ≠ (v247 : Value).ownBlock ∧ some k_ ≠ (v250 : Value).ownBlock) v229 y228) := ⟨h0_⟩
       have n1_ : Aside0 (Kd.R (Kd.int .u8) 5 w57 w.heap.size (fun k_ => some k_ ≠ (v229 : Value).ownBlock ∧ some k_ ≠ (.slice Ao48 y237.length co48 : Value).ownBlock ∧ some k_ ≠ (.slice Ao50 t240.length co50 : Value).ownBlock ∧ some k_ ≠ (v244 : Value).ownBlock ∧ some k_ ≠ (v247 : Value).ownBlock ∧ some k_ ≠ (v250 : Value).ownBlock) (.slice Ao47 y234.length co47) y234) := ⟨h1_⟩
       have n2_ : Aside0 (Kd.R (Kd.int .u8) 5 w57 w.heap.size (fun k_ => some k_ ≠ (v229 : Value).ownBlock ∧ some k_ ≠ (.slice Ao47 y234.length co47 : Value).ownBlock ∧ some k_ ≠ (.slice Ao50 t240.length co50 : Value).ownBlock ∧ some k_ ≠ (v244 : Value).ownBlock ∧ some k_ ≠ (v247 : Value).ownBlock ∧ some k_ ≠ (v250 : Value).ownBlock) (.slice Ao48 y237.length co48) y237) := ⟨h2_⟩
       have n3_ : Aside0 (Kd.R (Kd.int .u8) 5 w57 w.heap.size (fun k_ => some k_ ≠ (v229 : Value).ownBlock ∧ some k_ ≠ (.slice Ao47 y234.length co47 : Value).ownBlock ∧ some k_ ≠ (.slice Ao48 y237.length co48 : Value).ownBlock ∧ some k_ ≠ (v244 : Value).ownBlock ∧ some k_ ≠ (v247 : Value).ownBlock ∧ some k_ ≠ (v250 : Value).ownBlock) (.slice Ao50 t240.length co50) t240) := ⟨h3_⟩
       have n4_ : Aside0 (Kd.R (Kd.int .u8) 5 w57 w.heap.size (fun k_ => some k_ ≠ (v229 : Value).ownBlock ∧ some k_ ≠ (.slice Ao47 y234.length co47 : Value).ownBlock ∧ some k_ ≠ (.slice Ao48 y237.length co48 : Value).ownBlock ∧ some k_ ≠ (.slice Ao50 t240.length co50 : Value).ownBlock ∧ some k_ ≠ (v247 : Value).ownBlock ∧ some k_ ≠ (v250 : Value).ownBlock) v244 t243) := ⟨h4_⟩
       have n5_ : Aside0 (Kd.R (Kd.int .u8) 5 w57 w.heap.size (fun k_ => some k_ ≠ (v229 : Value).ownBlock ∧ some k_ ≠ (.slice Ao47 y234.length co47 : Value).ownBlock ∧ some k_ ≠ (.slice Ao48 y237.length co48 : Value).ownBlock ∧ some k_ ≠ (.slice Ao50 t240.length co50 : Value).ownBlock ∧ some k_ ≠ (v244 : Value).ownBlock ∧ some k_ ≠ (v250 : Value).ownBlock) v247 t246) := ⟨h5_⟩
       have n6_ : Aside0 (Kd.R (Kd.int .u8) 5 w57 w.heap.size (fun k_ => some k_ ≠ (v229 : Value).ownBlock ∧ some k_ ≠ (.slice Ao47 y234.length co47 : Value).ownBlock ∧ some k_ ≠ (.slice Ao48 y237.length co48 : Value).ownBlock ∧ some k_ ≠ (.slice Ao50 t240.length co50 : Value).ownBlock ∧ some k_ ≠ (v244 : Value).ownBlock ∧ some k_ ≠ (v247 : Value).ownBlock) v250 y249) := ⟨h6_⟩
       have n7_ : Aside0 (w57.heap[gb222]? = some (.cells #[.int .i64 a0_0, .int .i64 a0_1, .string a0_2, .int .i64 a0_3, .int .i64 a0_4, .int .i64 a0_5, .string a0_6, .int .i64 a0_7, .int .i64 a0_8, .int .i64 a0_9, .string a0_10, .int .i64 a0_11, .int .i64 a0_12, .int .i64 a0_13, .int .i64 a0_14, .int .i64 a0_15] 48 (0, 0))) := ⟨h7_⟩
       have n8_ : Aside0 (w57.heap[gb223]? = some (.cells #[.int .i64 a0_1, .string a0_2, .int .i64 a0_3, .int .i64 a0_4, .int .i64 a0_5, .string a0_6, .int .i64 a0_7, .int .i64 a0_8] 45 (0, 0))) := ⟨h8_⟩
       have n9_ : Aside0 (Below w.heap.size w w57) := ⟨h9_⟩
       clear HO230
       clear HO236
       clear HO239
       clear HO242
       clear BK222
       clear BK223
       clear HB
       clear h0_ h1_ h2_ h3_ h4_ h5_ h6_ h7_ h8_ h9_
       have HO230 := n0_
       have HO236 := n1_
       have HO239 := n2_
       have HO242 := n3_
       have HO245 := n4_
       have HO248 := n5_
       have HO251 := n6_
       have BK222 := n7_
       have BK223 := n8_
       have HB := n9_
       clear n0_ n1_ n2_ n3_ n4_ n5_ n6_ n7_ n8_ n9_
       have hHeld : w57.cell? ⟨gb223, 0, none⟩ = some (.int .i64 a0_1) ∧ w57.cell? ⟨gb223, 1, none⟩ = some (.string a0_2) ∧ w57.cell? ⟨gb223, 2, none⟩ = some (.int .i64 a0_3) ∧ w57.cell? ⟨gb223, 3, none⟩ = some (.int .i64 a0_4) ∧ w57.cell? ⟨gb223, 4, none⟩ = some (.int .i64 a0_5) ∧ w57.cell? ⟨gb223, 5, none⟩ = some (.string a0_6) ∧ w57.cell? ⟨gb223, 6, none⟩ = some (.int .i64 a0_7) ∧ w57.cell? ⟨gb223, 7, none⟩ = some (.int .i64 a0_8) := hS_
       obtain ⟨Ao59, co59, eo59⟩ := Kd.R_slice HO251.out
       (first | subst eo59 | (injection eo59 with f1_ f2_ f3_; have f4_ := f1_.symm; have f5_ := f3_.symm; clear f1_ f2_ f3_; subst f4_; subst f5_))
       refine norm_ (a' := ?_) ?_ ?_
       rotate_left
       ·
        simp only [putAll, Act.put, List.setIfInBounds_toArray, List.set_cons_zero, List.set_cons_succ]
        rfl
       refine one_ (i := 13) (N := some 52) #[ii,ii,ii,ii,ii,ii,ii,ii,ii,ii,ii,ii,ii,ii,oo] rfl rfl (one_of HT_.out (by kernel_rfl)) (by decide) (fun K hK => ?_)
       refine Kd.R_append_rows_step (Kd.int .u8) (w0 := w) w.heap.size (by rfl) (.tmp 46) (.tmp 51) 22 5 (.int .u8 0) 1 rfl Try.underlying22 info5 rfl (by decide) (by omega) v247 t246 y249 _ _ _ (fun k_ => some k_ ≠ (v229 : Value).ownBlock ∧ some k_ ≠ (.slice Ao47 y234.length co47 : Value).ownBlock ∧ some k_ ≠ (.slice Ao48 y237.length co48 : Value).ownBlock ∧ some k_ ≠ (.slice Ao50 t240.length co50 : Value).ownBlock ∧ some k_ ≠ (v244 : Value).ownBlock ∧ some k_ ≠ (.slice Ao59 y249.length co59 : Value).ownBlock) (fun _ => False) rfl rfl ?aO ?aR (fun _ _ h => h) (fun _ h => h.elim) ?aF ?aB ?aS ?aL ?_
       (case aR => exact qC ((Kd.R_reads' HO251.out).2.2))
       (case aB => exact (qB HB))
       (case aF => exact (fun k_ hk => ⟨Kd.fresh' (Kd.R_lt (qR HO230)) k_ hk, Kd.fresh' (Kd.R_lt (qR HO236)) k_ hk, Kd.fresh' (Kd.R_lt (qR HO239)) k_ hk, Kd.fresh' (Kd.R_lt (qR HO242)) k_ hk, Kd.fresh' (Kd.R_lt (qR HO245)) k_ hk, Kd.fresh' (Kd.R_lt (qR HO251)) k_ hk⟩))
       (case aO => exact (qR HO248))
       (case aS => exact (below_size (qB HB)))
       (case aL => have := LMc34.out; omega)
       intro v253 w58 ho hb hg hat
       rw [← Ny252.out] at ho
       replace BK222 := am_ (blk_grown (qK BK222) hg (Kd.R_ne HO248.out BK222.out (by decide)))
       replace BK223 := am_ (blk_grown (qK BK223) hg (Kd.R_ne HO248.out BK223.out (by decide)))
       replace HO230 := am_ (Kd.R_after (ok := (fun k_ => some k_ ≠ (.slice Ao47 y234.length co47 : Value).ownBlock ∧ some k_ ≠ (.slice Ao48 y237.length co48 : Value).ownBlock ∧ some k_ ≠ (.slice Ao50 t240.length co50 : Value).ownBlock ∧ some k_ ≠ (v244 : Value).ownBlock ∧ some k_ ≠ (.slice Ao59 y249.length co59 : Value).ownBlock)) (tR (Kd.R_mono HO230.out (fun _ hk => ⟨⟨hk.1, ⟨hk.2.1, ⟨hk.2.2.1, ⟨hk.2.2.2.1, hk.2.2.2.2.2⟩⟩⟩⟩, hk.2.2.2.2.1⟩))) hg hat)
       replace HO236 := am_ (Kd.R_after (ok := (fun k_ => some k_ ≠ (v229 : Value).ownBlock ∧ some k_ ≠ (.slice Ao48 y237.length co48 : Value).ownBlock ∧ some k_ ≠ (.slice Ao50 t240.length co50 : Value).ownBlock ∧ some k_ ≠ (v244 : Value).ownBlock ∧ some k_ ≠ (.slice Ao59 y249.length co59 : Value).ownBlock)) (tR (Kd.R_mono HO236.out (fun _ hk => ⟨⟨hk.1, ⟨hk.2.1, ⟨hk.2.2.1, ⟨hk.2.2.2.1, hk.2.2.2.2.2⟩⟩⟩⟩, hk.2.2.2.2.1⟩))) hg hat)
       replace HO239 := am_ (Kd.R_after (ok := (fun k_ => some k_ ≠ (v229 : Value).ownBlock ∧ some k_ ≠ (.slice Ao47 y234.length co47 : Value).ownBlock ∧ some k_ ≠ (.slice Ao50 t240.length co50 : Value).ownBlock ∧ some k_ ≠ (v244 : Value).ownBlock ∧ some k_ ≠ (.slice Ao59 y249.length co59 : Value).ownBlock)) (tR (Kd.R_mono HO239.out (fun _ hk => ⟨⟨hk.1, ⟨hk.2.1, ⟨hk.2.2.1, ⟨hk.2.2.2.1, hk.2.2.2.2.2⟩⟩⟩⟩, hk.2.2.2.2.1⟩))) hg hat)
       replace HO242 := am_ (Kd.R_after (ok := (fun k_ => some k_ ≠ (v229 : Value).ownBlock ∧ some k_ ≠ (.slice Ao47 y234.length co47 : Value).ownBlock ∧ some k_ ≠ (.slice Ao48 y237.length co48 : Value).ownBlock ∧ some k_ ≠ (v244 : Value).ownBlock ∧ some k_ ≠ (.slice Ao59 y249.length co59 : Value).ownBlock)) (tR (Kd.R_mono HO242.out (fun _ hk => ⟨⟨hk.1, ⟨hk.2.1, ⟨hk.2.2.1, ⟨hk.2.2.2.1, hk.2.2.2.2.2⟩⟩⟩⟩, hk.2.2.2.2.1⟩))) hg hat)
       replace HO245 := am_ (Kd.R_after (ok := (fun k_ => some k_ ≠ (v229 : Value).ownBlock ∧ some k_ ≠ (.slice Ao47 y234.length co47 : Value).ownBlock ∧ some k_ ≠ (.slice Ao48 y237.length co48 : Value).ownBlock ∧ some k_ ≠ (.slice Ao50 t240.length co50 : Value).ownBlock ∧ some k_ ≠ (.slice Ao59 y249.length co59 : Value).ownBlock)) (tR (Kd.R_mono HO245.out (fun _ hk => ⟨⟨hk.1, ⟨hk.2.1, ⟨hk.2.2.1, ⟨hk.2.2.2.1, hk.2.2.2.2.2⟩⟩⟩⟩, hk.2.2.2.2.1⟩))) hg hat)
       replace HO251 := am_ (Kd.R_after (ok := (fun k_ => some k_ ≠ (v229 : Value).ownBlock ∧ some k_ ≠ (.slice Ao47 y234.length co47 : Value).ownBlock ∧ some k_ ≠ (.slice Ao48 y237.length co48 : Value).ownBlock ∧ some k_ ≠ (.slice Ao50 t240.length co50 : Value).ownBlock ∧ some k_ ≠ (v244 : Value).ownBlock)) (tR (Kd.R_mono HO251.out (fun _ hk => ⟨⟨hk.1, ⟨hk.2.1, ⟨hk.2.2.1, ⟨hk.2.2.2.1, hk.2.2.2.2.1⟩⟩⟩⟩, hk.2.2.2.2.2⟩))) hg hat)
       replace HB := am_ (hb)
       have HO254 := am_ (ho)
       clear HO248
       clear ho hb hg hat
       refine hK.out _ _ (cz8 BK223.out) (fun hHeld => ?_)
       clear hK K
       refine norm_ (a' := ?_) ?_ ?_
       rotate_left
       ·
        show Act.put _ (some 52) _ = _
        exact ap_
       refine pure_ (i := 14) (N := some 4) (v := ?_) (a' := ?_) #[ii,ii,ii,ii,ii,ii,ii,ii,ii,ii,ii,ii,ii,ii,ii] rfl rfl (any_of HT_.out (by kernel_rfl)) (fun _ _ _ h => h) (Or.inl ⟨by rfl, ?_⟩) ?_ ?_
       rotate_left
       ·
        intro w'
        go_simp
        with_reducible rfl
       rotate_left
       ·
        exact ap_
       refine done_ (done_of HT_.out (by kernel_rfl)) ?_
       try go_wp2
       replace HO230 := am_ (Kd.R_drew HO230.out)
       replace HO236 := am_ (Kd.R_drew HO236.out)
       replace HO239 := am_ (Kd.R_drew HO239.out)
       replace HO242 := am_ (Kd.R_drew HO242.out)
       replace HO245 := am_ (Kd.R_drew HO245.out)
       replace HO251 := am_ (Kd.R_drew HO251.out)
       replace HO254 := am_ (Kd.R_drew HO254.out)
       replace BK222 := am_ (blk_drew BK222.out)
       replace BK223 := am_ (blk_drew BK223.out)
       replace HB := am_ (below_drew1 HB.out)
       obtain ⟨Ao61, co61, eo61⟩ := Kd.R_slice HO254.out
       (first | subst eo61 | (injection eo61 with f1_ f2_ f3_; have f4_ := f1_.symm; have f5_ := f3_.symm; clear f1_ f2_ f3_; subst f4_; subst f5_))
       refine start_ (n := 11) (S := fun w' => w'.cell? ⟨gb223, 0, none⟩ = some (.int .i64 a0_1) ∧ w'.cell? ⟨gb223, 1, none⟩ = some (.string a0_2) ∧ w'.cell? ⟨gb223, 2, none⟩ = some (.int .i64 a0_3) ∧ w'.cell? ⟨gb223, 3, none⟩ = some (.int .i64 a0_4) ∧ w'.cell? ⟨gb223, 4, none⟩ = some (.int .i64 a0_5) ∧ w'.cell? ⟨gb223, 5, none⟩ = some (.string a0_6) ∧ w'.cell? ⟨gb223, 6, none⟩ = some (.int .i64 a0_7) ∧ w'.cell? ⟨gb223, 7, none⟩ = some (.int .i64 a0_8)) (ds := []) #[oo,oo,oo,oo,oo,oo,oo,oo,oo,oo,oo] (by kernel_rfl) rfl rfl (cz8 BK223.out) (fun hHeld => ?_); refine with_tabW spec_PutItem.tab7 spec_PutItem.bits7 (fun HT_ HW_ => ?_)
       generalize w58.drew = w60 at HO230 HO236 HO239 HO242 HO245 HO251 HO254 BK222 BK223 HB hHeld ⊢
       refine pure_ (i := 0) (N := some 53) (v := ?_) (a' := ?_) #[ii,oo,oo,oo,oo,oo,oo,oo,oo,oo,oo] rfl rfl (any_of HT_.out (by kernel_rfl)) (fun _ _ _ h => h) (Or.inl ⟨by rfl, ?_⟩) ?_ ?_
       rotate_left
       ·
        intro w'
        go_simp
        with_reducible rfl
       rotate_left
       ·
        exact ap_
       refine pure_ (i := 1) (N := some 54) (v := ?_) (a' := ?_) #[ii,ii,oo,oo,oo,oo,oo,oo,oo,oo,oo] rfl rfl (any_of HT_.out (by kernel_rfl)) (fun _ _ _ h => h) (Or.inl ⟨by rfl, ?_⟩) ?_ ?_
       rotate_left
       ·
        intro w'
        go_simp
        with_reducible rfl
       rotate_left
       ·
        exact ap_
       refine pure_ (i := 4) (N := some 57) (v := ?_) (a' := ?_) #[ii,ii,oo,oo,ii,oo,oo,oo,oo,oo,oo] rfl rfl (any_of HT_.out (by kernel_rfl)) (fun _ _ _ h => h) (Or.inl ⟨by rfl, ?_⟩) ?_ ?_
       rotate_left
       ·
        intro w'
        go_simp
        with_reducible rfl
       rotate_left
       ·
        exact ap_
       refine pure_ (i := 7) (N := some 60) (v := ?_) (a' := ?_) #[ii,ii,oo,oo,ii,oo,oo,ii,oo,oo,oo] rfl rfl (any_of HT_.out (by kernel_rfl)) (fun _ _ _ h => h) (Or.inl ⟨by rfl, ?_⟩) ?_ ?_
       rotate_left
       ·
        intro w'
        go_simp
        with_reducible rfl
       rotate_left
       ·
        exact ap_
       refine take_ (i := 2) (N := some 55) (v := ?_) (a' := ?_) #[ii,ii,ii,oo,ii,oo,oo,ii,oo,oo,oo] rfl rfl (take_ofW HT_.out HW_.out (by kernel_rfl)) (fun _ _ _ h => h) (Or.inl ⟨by rfl, ?_⟩) hHeld ?_ ?_
       rotate_left
       ·
        rintro w' ⟨s0, s1, s2, s3, s4, s5, s6, s7⟩
        go_simp
        with_reducible rfl
       rotate_left
       ·
        exact ap_
       refine take_ (i := 5) (N := some 58) (v := ?_) (a' := ?_) #[ii,ii,ii,oo,ii,ii,oo,ii,oo,oo,oo] rfl rfl (take_ofW HT_.out HW_.out (by kernel_rfl)) (fun _ _ _ h => h) (Or.inl ⟨by rfl, ?_⟩) hHeld ?_ ?_
       rotate_left
       ·
        rintro w' ⟨s0, s1, s2, s3, s4, s5, s6, s7⟩
        go_simp
        with_reducible rfl
       rotate_left
       ·
        exact ap_
       refine take_ (i := 8) (N := some 61) (v := ?_) (a' := ?_) #[ii,ii,ii,oo,ii,ii,oo,ii,ii,oo,oo] rfl rfl (take_ofW HT_.out HW_.out (by kernel_rfl)) (fun _ _ _ h => h) (Or.inl ⟨by rfl, ?_⟩) hHeld ?_ ?_
       rotate_left
       ·
        rintro w' ⟨s0, s1, s2, s3, s4, s5, s6, s7⟩
        go_simp
        with_reducible rfl
       rotate_left
       ·
        exact ap_
       refine one_ (i := 3) (N := some 56) #[ii,ii,ii,ii,ii,ii,oo,ii,ii,oo,oo] rfl rfl (one_of HT_.out (by kernel_rfl)) (by decide) (fun K hK => ?_)
       refine goes_ Try.func74 (by kernel_rfl) rfl #[.slice Ao61 y252.length co61, .string a0_6] (by rfl) rfl rfl la_ ?_
       with_reducible refine (spec_PutText.calls kj5 _ _ y252 a0_6 t255 _ ?side1 ?side2 A35.out).mono ?_
       (case side1 => exact qC ((Kd.R_reads' HO254.out).2.2))
       (case side2 => exact (Kd.R_reads' HO254.out).2.1)
       rintro e w62 ⟨v256, rfl, ho0, hb⟩
       refine ⟨_, rfl, ?_⟩
       have HO257 := am_ (Kd.R_lower (Kd.R_new' (Kd.R_new' (Kd.R_new' (Kd.R_new' (Kd.R_new' (Kd.R_new' (Kd.R_new' ho0 (Kd.R_lt (qR HO230))) (Kd.R_lt (qR HO236))) (Kd.R_lt (qR HO239))) (Kd.R_lt (qR HO242))) (Kd.R_lt (qR HO245))) (Kd.R_lt (qR HO251))) (Kd.R_lt (qR HO254))) (below_size (qB HB)))
       replace HO230 := am_ (eR HO230 ho0 hb)
       replace HO236 := am_ (eR HO236 ho0 hb)
       replace HO239 := am_ (eR HO239 ho0 hb)
       replace HO242 := am_ (eR HO242 ho0 hb)
       replace HO245 := am_ (eR HO245 ho0 hb)
       replace HO251 := am_ (eR HO251 ho0 hb)
       replace HO254 := am_ (eR HO254 ho0 hb)
       replace BK222 := am_ (blk_below (qK BK222) hb)
       replace BK223 := am_ (blk_below (qK BK223) hb)
       replace HB := am_ (below_step (qB HB) hb)
       (try clear hb ho0)
       obtain ⟨Ao63, co63, eo63⟩ := Kd.R_slice HO257.out
       (first | subst eo63 | (injection eo63 with f1_ f2_ f3_; have f4_ := f1_.symm; have f5_ := f3_.symm; clear f1_ f2_ f3_; subst f4_; subst f5_))
       refine hK.out _ _ (cz8 BK223.out) (fun hHeld => ?_)
       clear hK K
       refine norm_ (a' := ?_) ?_ ?_
       rotate_left
       ·
        show Act.put _ (some 56) _ = _
        exact ap_
       refine one_ (i := 6) (N := some 59) #[ii,ii,ii,ii,ii,ii,ii,ii,ii,oo,oo] rfl rfl (one_of HT_.out (by kernel_rfl)) (by decide) (fun K hK => ?_)
       refine goes_ Try.func75 (by kernel_rfl) rfl #[.slice Ao63 t255.length co63, .int .i64 a0_7] (by rfl) rfl rfl la_ ?_
       with_reducible refine (spec_PutWord.calls _ _ t255 a0_7 t258 _ ?side1 ?side2 A36.out).mono ?_
       (case side1 => exact qC ((Kd.R_reads' HO257.out).2.2))
       (case side2 => exact (Kd.R_reads' HO257.out).2.1)
       rintro e w64 ⟨v259, rfl, ho0, hb⟩
       refine ⟨_, rfl, ?_⟩
       have HO260 := am_ (Kd.R_lower (Kd.R_new' (Kd.R_new' (Kd.R_new' (Kd.R_new' (Kd.R_new' (Kd.R_new' (Kd.R_new' (Kd.R_new' ho0 (Kd.R_lt (qR HO230))) (Kd.R_lt (qR HO236))) (Kd.R_lt (qR HO239))) (Kd.R_lt (qR HO242))) (Kd.R_lt (qR HO245))) (Kd.R_lt (qR HO251))) (Kd.R_lt (qR HO254))) (Kd.R_lt (qR HO257))) (below_size (qB HB)))
       replace HO230 := am_ (eR HO230 ho0 hb)
       replace HO236 := am_ (eR HO236 ho0 hb)
       replace HO239 := am_ (eR HO239 ho0 hb)
       replace HO242 := am_ (eR HO242 ho0 hb)
       replace HO245 := am_ (eR HO245 ho0 hb)
       replace HO251 := am_ (eR HO251 ho0 hb)
       replace HO254 := am_ (eR HO254 ho0 hb)
       replace HO257 := am_ (eR HO257 ho0 hb)
       replace BK222 := am_ (blk_below (qK BK222) hb)
       replace BK223 := am_ (blk_below (qK BK223) hb)
       replace HB := am_ (below_step (qB HB) hb)
       (try clear hb ho0)
       obtain ⟨Ao65, co65, eo65⟩ := Kd.R_slice HO260.out
       (first | subst eo65 | (injection eo65 with f1_ f2_ f3_; have f4_ := f1_.symm; have f5_ := f3_.symm; clear f1_ f2_ f3_; subst f4_; subst f5_))
       refine hK.out _ _ (cz8 BK223.out) (fun hHeld => ?_)
       clear hK K
       refine norm_ (a' := ?_) ?_ ?_
       rotate_left
       ·
        show Act.put _ (some 59) _ = _
        exact ap_
       refine one_ (i := 9) (N := some 62) #[ii,ii,ii,ii,ii,ii,ii,ii,ii,ii,oo] rfl rfl (one_of HT_.out (by kernel_rfl)) (by decide) (fun K hK => ?_)
       refine goes_ Try.func75 (by kernel_rfl) rfl #[.slice Ao65 t258.length co65, .int .i64 a0_8] (by rfl) rfl rfl la_ ?_
       with_reducible refine (spec_PutWord.calls _ _ t258 a0_8 t261 _ ?side1 ?side2 A37.out).mono ?_
       (case side1 => exact qC ((Kd.R_reads' HO260.out).2.2))
       (case side2 => exact (Kd.R_reads' HO260.out).2.1)
       rintro e w66 ⟨v262, rfl, ho0, hb⟩
       refine ⟨_, rfl, ?_⟩
       have HO263 := am_ (Kd.R_lower (Kd.R_new' (Kd.R_new' (Kd.R_new' (Kd.R_new' (Kd.R_new' (Kd.R_new' (Kd.R_new' (Kd.R_new' (Kd.R_new' ho0 (Kd.R_lt (qR HO230))) (Kd.R_lt (qR HO236))) (Kd.R_lt (qR HO239))) (Kd.R_lt (qR HO242))) (Kd.R_lt (qR HO245))) (Kd.R_lt (qR HO251))) (Kd.R_lt (qR HO254))) (Kd.R_lt (qR HO257))) (Kd.R_lt (qR HO260))) (below_size (qB HB)))
       replace HO230 := am_ (eR HO230 ho0 hb)
       replace HO236 := am_ (eR HO236 ho0 hb)
       replace HO239 := am_ (eR HO239 ho0 hb)
       replace HO242 := am_ (eR HO242 ho0 hb)
       replace HO245 := am_ (eR HO245 ho0 hb)
       replace HO251 := am_ (eR HO251 ho0 hb)
       replace HO254 := am_ (eR HO254 ho0 hb)
       replace HO257 := am_ (eR HO257 ho0 hb)
       replace HO260 := am_ (eR HO260 ho0 hb)
       replace BK222 := am_ (blk_below (qK BK222) hb)
       replace BK223 := am_ (blk_below (qK BK223) hb)
       replace HB := am_ (below_step (qB HB) hb)
       (try clear hb ho0)
       refine hK.out _ _ (cz8 BK223.out) (fun hHeld => ?_)
       clear hK K
       refine norm_ (a' := ?_) ?_ ?_
       rotate_left
       ·
        show Act.put _ (some 62) _ = _
        exact ap_
       refine pure_ (i := 10) (N := some 2) (v := ?_) (a' := ?_) #[ii,ii,ii,ii,ii,ii,ii,ii,ii,ii,ii] rfl rfl (any_of HT_.out (by kernel_rfl)) (fun _ _ _ h => h) (Or.inl ⟨by rfl, ?_⟩) ?_ ?_
       rotate_left
       ·
        intro w'
        go_simp
        with_reducible rfl
       rotate_left
       ·
        exact ap_
       refine done_ (done_of HT_.out (by kernel_rfl)) ?_
       try go_wp2
       go_ret
       exact ⟨_, by first | rfl | (simp [errW_none, errW_some] <;> rfl) | (simp [*, errW_none, errW_some] <;> rfl), by (with_reducible repeat (first | apply Kd.R_alloc | apply Kd.R_drewN | apply Kd.R_drew)); exact Kd.R_mono HO263.out (fun _ hk => trivial), qB HB⟩
      ·
       rw [if_neg c34] at H
       exact absurd H (by simp)
     ·
      rw [if_neg c30] at H
      exact absurd H (by simp)
 ·
  rw [if_neg c5] at H
  have c5b0 : (a0_0 == 1) = false := beq_eq_false_iff_ne.mpr c5
  have c5b1 : (a0_0 != 1) = true := bne_iff_ne.mpr c5
  (first | rw [c5b0] | rw [c5b1] | (simp only [i64_w, i32_w]; rw [c5b0]) | skip)
  have HC67 := Aside0.mk H
  clear H
  obtain ⟨z68_0, z68_1, z68_2, z68_3, z68_4, z68_5, z68_6, z68_7, z68_8, z68_9, z68_10, z68_11, z68_12, z68_13, z68_14, z68_15⟩ := cz16 BK222.out
  obtain ⟨f68_0, f68_1, f68_2, f68_3, f68_4, f68_5, f68_6, f68_7, f68_8, f68_9, f68_10, f68_11, f68_12, f68_13, f68_14, f68_15⟩ := fz16 BK222.out
  go_upto_region 9 with (first | ((with_reducible refine gate_dst (N := 5) rfl ?_); refine box_event ?hg (N := 5) ?hd (cs := #[.int .i64 0, .string (⟨#[]⟩ : ByteArray), .int .i64 0, .int .i64 0, .int .i64 0, .int .i64 0, .int .i64 0]) (t := 46) ?hr ?_; (case hd => rfl); (case hg => rfl); (case hr => first | (go_simp; done) | (go_simp; rfl)); intro gb264 hg w69 hbox hb; have BK264 := am_ (hbox); have GW264 := am_ ((gG_ hg (qB HB))); have IGW264 := gI_ GW264; have GE264 := am_ ((gG_ hg (qB HB))); have IGE264 := gI_ GE264; replace HB := am_ (below_step (qB HB) hb); have NB222_264 := am_ ((gN_ hg (qK BK222))); have NB264_222 := am_ ((gM_ hg (qK BK222))); replace BK222 := am_ (blk_below (qK BK222) hb); clear hb hbox hg; have hnb70 := NB264_222.out; have hnc70 := NB222_264.out; obtain ⟨z71_0, z71_1, z71_2, z71_3, z71_4, z71_5, z71_6⟩ := cz7 BK264.out; obtain ⟨f71_0, f71_1, f71_2, f71_3, f71_4, f71_5, f71_6⟩ := fz7 BK264.out))
  (try simp only [Act.put, List.setIfInBounds_toArray, List.set_cons_zero, List.set_cons_succ])
  go_cut [83] (fun v83 wc => ∃ (kq : Nat) (x83_66 : Bool), v83 = .bool x83_66 ∧ Aside0 (spec_PutItem.j1 kq x83_66 a0_9 a0_10 a0_11 a0_12 a0_13 a0_14 a0_15 = some r) ∧ Aside0 (kq ≤ k) ∧ Aside0 (wc.heap[gb222]? = some (.cells #[.int .i64 a0_0, .int .i64 a0_1, .string a0_2, .int .i64 a0_3, .int .i64 a0_4, .int .i64 a0_5, .string a0_6, .int .i64 a0_7, .int .i64 a0_8, .int .i64 a0_9, .string a0_10, .int .i64 a0_11, .int .i64 a0_12, .int .i64 a0_13, .int .i64 a0_14, .int .i64 a0_15] 48 (0, 0))) ∧ Aside0 (wc.heap[gb264]? = some (.cells #[.int .i64 a0_9, .string a0_10, .int .i64 a0_11, .int .i64 a0_12, .int .i64 a0_13, .int .i64 a0_14, .int .i64 a0_15] 46 (0, 0))) ∧ Aside0 (Below w.heap.size w wc))
  case first =>
   have H := HC67.out
   clear HC67
   by_cases c72 : a0_0 = 2
   ·
    rw [if_pos c72] at H
    have c72b0 : (a0_0 == 2) = true := beq_iff_eq.mpr c72
    have c72b1 : (a0_0 != 2) = false := bne_eq_false_iff_eq.mpr c72
    clear c72
    (first | rw [c72b0] | rw [c72b1] | (simp only [i64_w, i32_w]; rw [c72b0]) | skip)
    obtain ⟨t265, A73, H⟩ := bd_ H
    by_cases c74 : t265 = true
    ·
     subst c74
     rw [if_pos rfl] at H
     by_cases c75 : (!(a0_1 == 0) || (!(a0_2.toList == ([] : List UInt8)) || (!(a0_3 == 0) || (!(a0_4 == 0) || (!(a0_5 == 0) || (!(a0_6.toList == ([] : List UInt8)) || (!(a0_7 == 0) || (!(a0_8 == 0))))))))) = true
     ·
      rw [if_pos c75] at H
      have c75b0 : (!(a0_1 == 0) || (!(a0_2.toList == ([] : List UInt8)) || (!(a0_3 == 0) || (!(a0_4 == 0) || (!(a0_5 == 0) || (!(a0_6.toList == ([] : List UInt8)) || (!(a0_7 == 0) || (!(a0_8 == 0))))))))) = true := c75
      (try (have c75b0e := c75b0; simp only [Go.Proofs.YtahfemlfdpbkkaaV.beq_nil, Go.Proofs.YtahfemlfdpbkkaaV.bne_nil] at c75b0e))
      clear c75
      have H' := Aside0.mk H
      clear H
      have hnb76 := NB222_264.out
      have hnc76 := NB264_222.out
      obtain ⟨z77_0, z77_1, z77_2, z77_3, z77_4, z77_5, z77_6, z77_7, z77_8, z77_9, z77_10, z77_11, z77_12, z77_13, z77_14, z77_15⟩ := cz16 BK222.out
      obtain ⟨f77_0, f77_1, f77_2, f77_3, f77_4, f77_5, f77_6, f77_7, f77_8, f77_9, f77_10, f77_11, f77_12, f77_13, f77_14, f77_15⟩ := fz16 BK222.out
      obtain ⟨z78_0, z78_1, z78_2, z78_3, z78_4, z78_5, z78_6⟩ := cz7 BK264.out
      obtain ⟨f78_0, f78_1, f78_2, f78_3, f78_4, f78_5, f78_6⟩ := fz7 BK264.out
      go_wp2_with (first | (go_at_call 76; (with_reducible refine (spec_LineOk.calls k a0_9 a0_10 a0_11 a0_12 a0_13 a0_14 a0_15 true _ A73.out).mono ?_); rintro e w79 ⟨rfl, hb⟩; replace BK222 := am_ (blk_below (g := gb222) (o := .cells #[.int .i64 a0_0, .int .i64 a0_1, .string a0_2, .int .i64 a0_3, .int .i64 a0_4, .int .i64 a0_5, .string a0_6, .int .i64 a0_7, .int .i64 a0_8, .int .i64 a0_9, .string a0_10, .int .i64 a0_11, .int .i64 a0_12, .int .i64 a0_13, .int .i64 a0_14, .int .i64 a0_15] 48 (0, 0)) (by (with_reducible repeat (first | refine blk_drewN ?_ _ | refine blk_drew ?_ | refine blk_alloc ?_ _)); refine Go.Proofs.YtahfemlfdpbkkaaV.blk_far7 ?_ NB222_264.out; (with_reducible repeat (first | refine blk_drewN ?_ _ | refine blk_drew ?_ | refine blk_alloc ?_ _)); exact BK222.out) hb); replace BK264 := am_ (blk_below (g := gb264) (o := .cells #[.int .i64 a0_9, .string a0_10, .int .i64 a0_11, .int .i64 a0_12, .int .i64 a0_13, .int .i64 a0_14, .int .i64 a0_15] 46 (0, 0)) (by (with_reducible repeat (first | refine blk_drewN ?_ _ | refine blk_drew ?_ | refine blk_alloc ?_ _)); refine Go.Proofs.YtahfemlfdpbkkaaV.blk_all7 (show _ = some (Go.Obj.cells #[.int .i64 0, .string (⟨#[]⟩ : ByteArray), .int .i64 0, .int .i64 0, .int .i64 0, .int .i64 0, .int .i64 0] _ (0, 0)) from ?_); (with_reducible repeat (first | refine blk_drewN ?_ _ | refine blk_drew ?_ | refine blk_alloc ?_ _)); exact BK264.out) hb); replace HB := am_ (below_step (qB HB) hb); (try clear hb); (try clear hb2); (try clear hk); (try clear hi); obtain ⟨z80_0, z80_1, z80_2, z80_3, z80_4, z80_5, z80_6, z80_7, z80_8, z80_9, z80_10, z80_11, z80_12, z80_13, z80_14, z80_15⟩ := cz16 BK222.out; obtain ⟨f80_0, f80_1, f80_2, f80_3, f80_4, f80_5, f80_6, f80_7, f80_8, f80_9, f80_10, f80_11, f80_12, f80_13, f80_14, f80_15⟩ := fz16 BK222.out))
      go_meet
      case rel => exact ⟨_, (true), eqq_, H', ⟨by first | omega | exact Nat.le_refl _⟩, ⟨qK BK222⟩, ⟨qK BK264⟩, ⟨qB HB⟩⟩
     ·
      rw [if_neg c75] at H
      have c75b0 : (!(a0_1 == 0) || (!(a0_2.toList == ([] : List UInt8)) || (!(a0_3 == 0) || (!(a0_4 == 0) || (!(a0_5 == 0) || (!(a0_6.toList == ([] : List UInt8)) || (!(a0_7 == 0) || (!(a0_8 == 0))))))))) = false := by simpa using c75
      (try (have c75b0e := c75b0; simp only [Go.Proofs.YtahfemlfdpbkkaaV.beq_nil, Go.Proofs.YtahfemlfdpbkkaaV.bne_nil] at c75b0e))
      clear c75
      have H' := Aside0.mk H
      clear H
      have hnb81 := NB222_264.out
      have hnc81 := NB264_222.out
      obtain ⟨z82_0, z82_1, z82_2, z82_3, z82_4, z82_5, z82_6, z82_7, z82_8, z82_9, z82_10, z82_11, z82_12, z82_13, z82_14, z82_15⟩ := cz16 BK222.out
      obtain ⟨f82_0, f82_1, f82_2, f82_3, f82_4, f82_5, f82_6, f82_7, f82_8, f82_9, f82_10, f82_11, f82_12, f82_13, f82_14, f82_15⟩ := fz16 BK222.out
      obtain ⟨z83_0, z83_1, z83_2, z83_3, z83_4, z83_5, z83_6⟩ := cz7 BK264.out
      obtain ⟨f83_0, f83_1, f83_2, f83_3, f83_4, f83_5, f83_6⟩ := fz7 BK264.out
      go_wp2_with (first | (go_at_call 76; (with_reducible refine (spec_LineOk.calls k a0_9 a0_10 a0_11 a0_12 a0_13 a0_14 a0_15 true _ A73.out).mono ?_); rintro e w84 ⟨rfl, hb⟩; replace BK222 := am_ (blk_below (g := gb222) (o := .cells #[.int .i64 a0_0, .int .i64 a0_1, .string a0_2, .int .i64 a0_3, .int .i64 a0_4, .int .i64 a0_5, .string a0_6, .int .i64 a0_7, .int .i64 a0_8, .int .i64 a0_9, .string a0_10, .int .i64 a0_11, .int .i64 a0_12, .int .i64 a0_13, .int .i64 a0_14, .int .i64 a0_15] 48 (0, 0)) (by (with_reducible repeat (first | refine blk_drewN ?_ _ | refine blk_drew ?_ | refine blk_alloc ?_ _)); refine Go.Proofs.YtahfemlfdpbkkaaV.blk_far7 ?_ NB222_264.out; (with_reducible repeat (first | refine blk_drewN ?_ _ | refine blk_drew ?_ | refine blk_alloc ?_ _)); exact BK222.out) hb); replace BK264 := am_ (blk_below (g := gb264) (o := .cells #[.int .i64 a0_9, .string a0_10, .int .i64 a0_11, .int .i64 a0_12, .int .i64 a0_13, .int .i64 a0_14, .int .i64 a0_15] 46 (0, 0)) (by (with_reducible repeat (first | refine blk_drewN ?_ _ | refine blk_drew ?_ | refine blk_alloc ?_ _)); refine Go.Proofs.YtahfemlfdpbkkaaV.blk_all7 (show _ = some (Go.Obj.cells #[.int .i64 0, .string (⟨#[]⟩ : ByteArray), .int .i64 0, .int .i64 0, .int .i64 0, .int .i64 0, .int .i64 0] _ (0, 0)) from ?_); (with_reducible repeat (first | refine blk_drewN ?_ _ | refine blk_drew ?_ | refine blk_alloc ?_ _)); exact BK264.out) hb); replace HB := am_ (below_step (qB HB) hb); (try clear hb); (try clear hb2); (try clear hk); (try clear hi); obtain ⟨z85_0, z85_1, z85_2, z85_3, z85_4, z85_5, z85_6, z85_7, z85_8, z85_9, z85_10, z85_11, z85_12, z85_13, z85_14, z85_15⟩ := cz16 BK222.out; obtain ⟨f85_0, f85_1, f85_2, f85_3, f85_4, f85_5, f85_6, f85_7, f85_8, f85_9, f85_10, f85_11, f85_12, f85_13, f85_14, f85_15⟩ := fz16 BK222.out; obtain ⟨z86_0, z86_1, z86_2, z86_3, z86_4, z86_5, z86_6⟩ := cz7 BK264.out; obtain ⟨f86_0, f86_1, f86_2, f86_3, f86_4, f86_5, f86_6⟩ := fz7 BK264.out))
      go_meet
      case rel => exact ⟨_, (decide (a0_15 > 65535)), eqq_, H', ⟨by first | omega | exact Nat.le_refl _⟩, ⟨qK BK222⟩, ⟨qK BK264⟩, ⟨qB HB⟩⟩
    ·
     replace c74 := Bool.eq_false_iff.mpr c74
     subst c74
     rw [if_neg (show ¬ (false = true) by decide)] at H
     have H' := Aside0.mk H
     clear H
     have hnb87 := NB222_264.out
     have hnc87 := NB264_222.out
     obtain ⟨z88_0, z88_1, z88_2, z88_3, z88_4, z88_5, z88_6, z88_7, z88_8, z88_9, z88_10, z88_11, z88_12, z88_13, z88_14, z88_15⟩ := cz16 BK222.out
     obtain ⟨f88_0, f88_1, f88_2, f88_3, f88_4, f88_5, f88_6, f88_7, f88_8, f88_9, f88_10, f88_11, f88_12, f88_13, f88_14, f88_15⟩ := fz16 BK222.out
     obtain ⟨z89_0, z89_1, z89_2, z89_3, z89_4, z89_5, z89_6⟩ := cz7 BK264.out
     obtain ⟨f89_0, f89_1, f89_2, f89_3, f89_4, f89_5, f89_6⟩ := fz7 BK264.out
     go_wp2_with (first | (go_at_call 76; (with_reducible refine (spec_LineOk.calls k a0_9 a0_10 a0_11 a0_12 a0_13 a0_14 a0_15 false _ A73.out).mono ?_); rintro e w90 ⟨rfl, hb⟩; replace BK222 := am_ (blk_below (g := gb222) (o := .cells #[.int .i64 a0_0, .int .i64 a0_1, .string a0_2, .int .i64 a0_3, .int .i64 a0_4, .int .i64 a0_5, .string a0_6, .int .i64 a0_7, .int .i64 a0_8, .int .i64 a0_9, .string a0_10, .int .i64 a0_11, .int .i64 a0_12, .int .i64 a0_13, .int .i64 a0_14, .int .i64 a0_15] 48 (0, 0)) (by (with_reducible repeat (first | refine blk_drewN ?_ _ | refine blk_drew ?_ | refine blk_alloc ?_ _)); refine Go.Proofs.YtahfemlfdpbkkaaV.blk_far7 ?_ NB222_264.out; (with_reducible repeat (first | refine blk_drewN ?_ _ | refine blk_drew ?_ | refine blk_alloc ?_ _)); exact BK222.out) hb); replace BK264 := am_ (blk_below (g := gb264) (o := .cells #[.int .i64 a0_9, .string a0_10, .int .i64 a0_11, .int .i64 a0_12, .int .i64 a0_13, .int .i64 a0_14, .int .i64 a0_15] 46 (0, 0)) (by (with_reducible repeat (first | refine blk_drewN ?_ _ | refine blk_drew ?_ | refine blk_alloc ?_ _)); refine Go.Proofs.YtahfemlfdpbkkaaV.blk_all7 (show _ = some (Go.Obj.cells #[.int .i64 0, .string (⟨#[]⟩ : ByteArray), .int .i64 0, .int .i64 0, .int .i64 0, .int .i64 0, .int .i64 0] _ (0, 0)) from ?_); (with_reducible repeat (first | refine blk_drewN ?_ _ | refine blk_drew ?_ | refine blk_alloc ?_ _)); exact BK264.out) hb); replace HB := am_ (below_step (qB HB) hb); (try clear hb); (try clear hb2); (try clear hk); (try clear hi)))
     go_meet
     case rel => exact ⟨_, (true), eqq_, H', ⟨by first | omega | exact Nat.le_refl _⟩, ⟨qK BK222⟩, ⟨qK BK264⟩, ⟨qB HB⟩⟩
   ·
    rw [if_neg c72] at H
    have c72b0 : (a0_0 == 2) = false := beq_eq_false_iff_ne.mpr c72
    have c72b1 : (a0_0 != 2) = true := bne_iff_ne.mpr c72
    (first | rw [c72b0] | rw [c72b1] | (simp only [i64_w, i32_w]; rw [c72b0]) | skip)
    have H' := Aside0.mk H
    clear H
    have hnb91 := NB222_264.out
    have hnc91 := NB264_222.out
    obtain ⟨z92_0, z92_1, z92_2, z92_3, z92_4, z92_5, z92_6, z92_7, z92_8, z92_9, z92_10, z92_11, z92_12, z92_13, z92_14, z92_15⟩ := cz16 BK222.out
    obtain ⟨f92_0, f92_1, f92_2, f92_3, f92_4, f92_5, f92_6, f92_7, f92_8, f92_9, f92_10, f92_11, f92_12, f92_13, f92_14, f92_15⟩ := fz16 BK222.out
    go_wp2
    go_meet
    case rel => exact ⟨_, (true), eqq_, H', ⟨by first | omega | exact Nat.le_refl _⟩, ⟨by (with_reducible repeat (first | refine blk_drewN ?_ _ | refine blk_drew ?_ | refine blk_alloc ?_ _)); refine Go.Proofs.YtahfemlfdpbkkaaV.blk_far7 ?_ NB222_264.out; (with_reducible repeat (first | refine blk_drewN ?_ _ | refine blk_drew ?_ | refine blk_alloc ?_ _)); exact BK222.out⟩, ⟨by (with_reducible repeat (first | refine blk_drewN ?_ _ | refine blk_drew ?_ | refine blk_alloc ?_ _)); refine Go.Proofs.YtahfemlfdpbkkaaV.blk_all7 (show _ = some (Go.Obj.cells #[.int .i64 0, .string (⟨#[]⟩ : ByteArray), .int .i64 0, .int .i64 0, .int .i64 0, .int .i64 0, .int .i64 0] _ (0, 0)) from ?_); (with_reducible repeat (first | refine blk_drewN ?_ _ | refine blk_drew ?_ | refine blk_alloc ?_ _)); exact BK264.out⟩, ⟨qB HB⟩⟩
  case rest =>
   clear HC67
   try clear p2
   try clear c3
   try clear c5
   try clear c5b0
   try clear c5b1
   try clear c7
   try clear c8
   try clear c9
   try clear c30
   try clear c34
   try clear c70
   try clear c72
   try clear c72b0
   try clear c72b1
   try clear c74
   try clear c75
   try clear c75b0
   try clear c76
   try clear c81
   try clear c87
   try clear c91
   (try clear z68_0 z68_1 z68_10 z68_11 z68_12 z68_13 z68_14 z68_15 z68_2 z68_3 z68_4 z68_5 z68_6 z68_7 z68_8 z68_9)
   (try clear z71_0 z71_1 z71_2 z71_3 z71_4 z71_5 z71_6)
   (try clear z77_0 z77_1 z77_10 z77_11 z77_12 z77_13 z77_14 z77_15 z77_2 z77_3 z77_4 z77_5 z77_6 z77_7 z77_8 z77_9)
   (try clear z78_0 z78_1 z78_2 z78_3 z78_4 z78_5 z78_6)
   (try clear z80_0 z80_1 z80_10 z80_11 z80_12 z80_13 z80_14 z80_15 z80_2 z80_3 z80_4 z80_5 z80_6 z80_7 z80_8 z80_9)
   (try clear z82_0 z82_1 z82_10 z82_11 z82_12 z82_13 z82_14 z82_15 z82_2 z82_3 z82_4 z82_5 z82_6 z82_7 z82_8 z82_9)
   (try clear z83_0 z83_1 z83_2 z83_3 z83_4 z83_5 z83_6)
   (try clear z85_0 z85_1 z85_10 z85_11 z85_12 z85_13 z85_14 z85_15 z85_2 z85_3 z85_4 z85_5 z85_6 z85_7 z85_8 z85_9)
   (try clear z86_0 z86_1 z86_2 z86_3 z86_4 z86_5 z86_6)
   (try clear z88_0 z88_1 z88_10 z88_11 z88_12 z88_13 z88_14 z88_15 z88_2 z88_3 z88_4 z88_5 z88_6 z88_7 z88_8 z88_9)
   (try clear z89_0 z89_1 z89_2 z89_3 z89_4 z89_5 z89_6)
   (try clear z92_0 z92_1 z92_10 z92_11 z92_12 z92_13 z92_14 z92_15 z92_2 z92_3 z92_4 z92_5 z92_6 z92_7 z92_8 z92_9)
   (try clear f68_0 f68_1 f68_10 f68_11 f68_12 f68_13 f68_14 f68_15 f68_2 f68_3 f68_4 f68_5 f68_6 f68_7 f68_8 f68_9)
   (try clear f71_0 f71_1 f71_2 f71_3 f71_4 f71_5 f71_6)
   (try clear f77_0 f77_1 f77_10 f77_11 f77_12 f77_13 f77_14 f77_15 f77_2 f77_3 f77_4 f77_5 f77_6 f77_7 f77_8 f77_9)
   (try clear f78_0 f78_1 f78_2 f78_3 f78_4 f78_5 f78_6)
   (try clear f80_0 f80_1 f80_10 f80_11 f80_12 f80_13 f80_14 f80_15 f80_2 f80_3 f80_4 f80_5 f80_6 f80_7 f80_8 f80_9)
   (try clear f82_0 f82_1 f82_10 f82_11 f82_12 f82_13 f82_14 f82_15 f82_2 f82_3 f82_4 f82_5 f82_6 f82_7 f82_8 f82_9)
   (try clear f83_0 f83_1 f83_2 f83_3 f83_4 f83_5 f83_6)
   (try clear f85_0 f85_1 f85_10 f85_11 f85_12 f85_13 f85_14 f85_15 f85_2 f85_3 f85_4 f85_5 f85_6 f85_7 f85_8 f85_9)
   (try clear f86_0 f86_1 f86_2 f86_3 f86_4 f86_5 f86_6)
   (try clear f88_0 f88_1 f88_10 f88_11 f88_12 f88_13 f88_14 f88_15 f88_2 f88_3 f88_4 f88_5 f88_6 f88_7 f88_8 f88_9)
   (try clear f89_0 f89_1 f89_2 f89_3 f89_4 f89_5 f89_6)
   (try clear f92_0 f92_1 f92_10 f92_11 f92_12 f92_13 f92_14 f92_15 f92_2 f92_3 f92_4 f92_5 f92_6 f92_7 f92_8 f92_9)
   obtain ⟨kq, x83_66, rfl, HA, HJ66, BK222, BK264, HB⟩ := hcut
   cases kq with
   | zero => exact absurd HA.out (by simp [spec_PutItem.j1])
   | succ kj66 =>
    have H := HA.out
    clear HA
    simp only [spec_PutItem.j1] at H
    by_cases c93 : x83_66 = true
    ·
     subst c93
     rw [if_pos rfl] at H
     obtain ⟨y266, hy266⟩ : ∃ y_ : List Int, y_ = (([] : List Int)) := ⟨_, rfl⟩
     rw [← hy266] at H
     have Ny266 := Aside0.mk hy266
     clear hy266
     obtain rfl := Option.some.inj H
     go_wp2_with (first | ((with_reducible refine gate_dst (N := 84) rfl ?_); refine Kd.R_lit (Kd.int .u8) _ 5 ?hg (N := 84) ?hd (xs := ([] : List Int)) (inner := []) (ok := fun _ => True) (okp := fun _ => True) ?hr ?hp (fun _ hk => hk) trivial (Below.refl _ _) (Nat.le_refl _) (by simp) ?_; (case hd => rfl); (case hg => rfl); (case hr => first | (go_simp; done) | (go_simp; rfl)); (case hp => exact (Reps.none _ _)); intro v267 w94 ho95 hb hg_ hnew_; clear hg_ hnew_; (first | rw [← Ny266.out] at ho95 | (simp only [Int.reduceToNat] at ho95; rw [← Ny266.out] at ho95)); have HO268 := am_ (Kd.R_lower ho95 (below_size (qB HB))); replace BK222 := am_ (blk_below (qK BK222) hb); replace BK264 := am_ (blk_below (qK BK264) hb); replace HB := am_ (below_step (qB HB) hb); clear hb ho95))
     go_ret
     exact ⟨_, by first | rfl | (simp [errW_none, errW_some] <;> rfl) | (simp [*, errW_none, errW_some] <;> rfl), qR HO268, qB HB⟩
    ·
     replace c93 := Bool.eq_false_iff.mpr c93
     subst c93
     rw [if_neg (show ¬ (false = true) by decide)] at H
     obtain ⟨y269, hy269⟩ : ∃ y_ : List Int, y_ = (([2] : List Int)) := ⟨_, rfl⟩
     rw [← hy269] at H
     have Ny269 := Aside0.mk hy269
     clear hy269
     obtain ⟨t272, A96, H⟩ := bd_ H
     obtain ⟨y275, hy275⟩ : ∃ y_ : List Int, y_ = (([(a0_12) % 256] : List Int)) := ⟨_, rfl⟩
     replace H := mk_ H hy275
     (try dsimp only at H)
     have Ny275 := Aside0.mk hy275
     clear hy275
     by_cases c97 : t272.length + y275.length < 140737488355328
     ·
      rw [if_pos c97] at H
      have LMc97 := Aside0.mk c97
      clear c97
      obtain ⟨y278, hy278⟩ : ∃ y_ : List Int, y_ = (t272 ++ y275) := ⟨_, rfl⟩
      replace H : ((spec_PutText.f kj66 y278 a0_10).bind fun t281 => ((spec_PutWord.f t281 a0_11).bind fun t284 => ((spec_PutWord.f t284 (wrap64 (Int.tdiv a0_13 256))).bind fun t287 => ((some (([(Int.tmod a0_13 256) % 256] : List Int) : List Int)).bind fun y290 => (if t287.length + y290.length < 140737488355328 then ((spec_PutWord.f (t287 ++ y290) a0_14).bind fun t296 => ((spec_PutWord.f t296 a0_15).bind fun t299 => (some t299))) else (none)))))) = some r := by first | (rw [hy278]; with_reducible exact H) | (have H2_ := (Option.bind_some _ _).symm.trans H; rw [hy278]; with_reducible exact H2_) | (have H2_ := (Option.bind_some _ _).symm.trans H; with_reducible exact H2_) | with_reducible exact H | (rw [hy278]; exact H) | exact H
      have Ny278 := Aside0.mk hy278
      clear hy278
      obtain ⟨t281, A98, H⟩ := bd_ H
      obtain ⟨t284, A99, H⟩ := bd_ H
      obtain ⟨t287, A100, H⟩ := bd_ H
      obtain ⟨y290, hy290⟩ : ∃ y_ : List Int, y_ = (([(Int.tmod a0_13 256) % 256] : List Int)) := ⟨_, rfl⟩
      replace H := mk_ H hy290
      (try dsimp only at H)
      have Ny290 := Aside0.mk hy290
      clear hy290
      by_cases c101 : t287.length + y290.length < 140737488355328
      ·
       rw [if_pos c101] at H
       have LMc101 := Aside0.mk c101
       clear c101
       obtain ⟨y293, hy293⟩ : ∃ y_ : List Int, y_ = (t287 ++ y290) := ⟨_, rfl⟩
       replace H : ((spec_PutWord.f y293 a0_14).bind fun t296 => ((spec_PutWord.f t296 a0_15).bind fun t299 => (some t299))) = some r := by first | (rw [hy293]; with_reducible exact H) | (have H2_ := (Option.bind_some _ _).symm.trans H; rw [hy293]; with_reducible exact H2_) | (have H2_ := (Option.bind_some _ _).symm.trans H; with_reducible exact H2_) | with_reducible exact H | (rw [hy293]; exact H) | exact H
       have Ny293 := Aside0.mk hy293
       clear hy293
       obtain ⟨t296, A102, H⟩ := bd_ H
       obtain ⟨t299, A103, H⟩ := bd_ H
       obtain rfl := Option.some.inj H
       try go_wp2
       replace BK222 := am_ (blk_drew BK222.out)
       replace BK264 := am_ (blk_drew BK264.out)
       replace HB := am_ (below_drew1 HB.out)
       refine start_ (n := 16) (S := fun w' => w'.cell? ⟨gb264, 0, none⟩ = some (.int .i64 a0_9) ∧ w'.cell? ⟨gb264, 1, none⟩ = some (.string a0_10) ∧ w'.cell? ⟨gb264, 2, none⟩ = some (.int .i64 a0_11) ∧ w'.cell? ⟨gb264, 3, none⟩ = some (.int .i64 a0_12) ∧ w'.cell? ⟨gb264, 4, none⟩ = some (.int .i64 a0_13) ∧ w'.cell? ⟨gb264, 5, none⟩ = some (.int .i64 a0_14) ∧ w'.cell? ⟨gb264, 6, none⟩ = some (.int .i64 a0_15)) (ds := []) #[oo,oo,oo,oo,oo,oo,oo,oo,oo,oo,oo,oo,oo,oo,oo,oo] (by kernel_rfl) rfl rfl (cz7 BK264.out) (fun hHeld => ?_); refine with_tabW spec_PutItem.tab11 spec_PutItem.bits11 (fun HT_ HW_ => ?_)
       generalize wc.drew = w104 at BK222 BK264 HB hHeld ⊢
       refine pure_ (i := 1) (N := some 86) (v := ?_) (a' := ?_) #[oo,ii,oo,oo,oo,oo,oo,oo,oo,oo,oo,oo,oo,oo,oo,oo] rfl rfl (any_of HT_.out (by kernel_rfl)) (fun _ _ _ h => h) (Or.inl ⟨by rfl, ?_⟩) ?_ ?_
       rotate_left
       ·
        intro w'
        go_simp
        with_reducible rfl
       rotate_left
       ·
        exact ap_
       refine pure_ (i := 4) (N := some 89) (v := ?_) (a' := ?_) #[oo,ii,oo,oo,ii,oo,oo,oo,oo,oo,oo,oo,oo,oo,oo,oo] rfl rfl (any_of HT_.out (by kernel_rfl)) (fun _ _ _ h => h) (Or.inl ⟨by rfl, ?_⟩) ?_ ?_
       rotate_left
       ·
        intro w'
        go_simp
        with_reducible rfl
       rotate_left
       ·
        exact ap_
       refine pure_ (i := 9) (N := some 94) (v := ?_) (a' := ?_) #[oo,ii,oo,oo,ii,oo,oo,oo,oo,ii,oo,oo,oo,oo,oo,oo] rfl rfl (any_of HT_.out (by kernel_rfl)) (fun _ _ _ h => h) (Or.inl ⟨by rfl, ?_⟩) ?_ ?_
       rotate_left
       ·
        intro w'
        go_simp
        with_reducible rfl
       rotate_left
       ·
        exact ap_
       refine pure_ (i := 12) (N := some 97) (v := ?_) (a' := ?_) #[oo,ii,oo,oo,ii,oo,oo,oo,oo,ii,oo,oo,ii,oo,oo,oo] rfl rfl (any_of HT_.out (by kernel_rfl)) (fun _ _ _ h => h) (Or.inl ⟨by rfl, ?_⟩) ?_ ?_
       rotate_left
       ·
        intro w'
        go_simp
        with_reducible rfl
       rotate_left
       ·
        exact ap_
       refine take_ (i := 2) (N := some 87) (v := ?_) (a' := ?_) #[oo,ii,ii,oo,ii,oo,oo,oo,oo,ii,oo,oo,ii,oo,oo,oo] rfl rfl (take_ofW HT_.out HW_.out (by kernel_rfl)) (fun _ _ _ h => h) (Or.inl ⟨by rfl, ?_⟩) hHeld ?_ ?_
       rotate_left
       ·
        rintro w' ⟨s0, s1, s2, s3, s4, s5, s6⟩
        go_simp
        with_reducible rfl
       rotate_left
       ·
        exact ap_
       refine take_ (i := 5) (N := some 90) (v := ?_) (a' := ?_) #[oo,ii,ii,oo,ii,ii,oo,oo,oo,ii,oo,oo,ii,oo,oo,oo] rfl rfl (take_ofW HT_.out HW_.out (by kernel_rfl)) (fun _ _ _ h => h) (Or.inl ⟨by rfl, ?_⟩) hHeld ?_ ?_
       rotate_left
       ·
        rintro w' ⟨s0, s1, s2, s3, s4, s5, s6⟩
        go_simp
        with_reducible rfl
       rotate_left
       ·
        exact ap_
       refine pure_ (i := 6) (N := some 91) (v := ?_) (a' := ?_) #[oo,ii,ii,oo,ii,ii,ii,oo,oo,ii,oo,oo,ii,oo,oo,oo] rfl rfl (any_of HT_.out (by kernel_rfl)) (fun _ _ _ h => h) (Or.inl ⟨by rfl, ?_⟩) ?_ ?_
       rotate_left
       ·
        intro w'
        go_simp
        with_reducible rfl
       rotate_left
       ·
        exact ap_
       refine take_ (i := 10) (N := some 95) (v := ?_) (a' := ?_) #[oo,ii,ii,oo,ii,ii,ii,oo,oo,ii,ii,oo,ii,oo,oo,oo] rfl rfl (take_ofW HT_.out HW_.out (by kernel_rfl)) (fun _ _ _ h => h) (Or.inl ⟨by rfl, ?_⟩) hHeld ?_ ?_
       rotate_left
       ·
        rintro w' ⟨s0, s1, s2, s3, s4, s5, s6⟩
        go_simp
        with_reducible rfl
       rotate_left
       ·
        exact ap_
       refine take_ (i := 13) (N := some 98) (v := ?_) (a' := ?_) #[oo,ii,ii,oo,ii,ii,ii,oo,oo,ii,ii,oo,ii,ii,oo,oo] rfl rfl (take_ofW HT_.out HW_.out (by kernel_rfl)) (fun _ _ _ h => h) (Or.inl ⟨by rfl, ?_⟩) hHeld ?_ ?_
       rotate_left
       ·
        rintro w' ⟨s0, s1, s2, s3, s4, s5, s6⟩
        go_simp
        with_reducible rfl
       rotate_left
       ·
        exact ap_
       refine join_ (σ := Value × Value × Value) 4 #[ii,ii,ii,ii,ii,ii,ii,ii,oo,ii,ii,oo,ii,ii,oo,oo] (fun s_ => [(85, s_.1), (88, s_.2.1), (92, s_.2.2)]) (fun s_ w' => (w'.cell? ⟨gb264, 0, none⟩ = some (.int .i64 a0_9) ∧ w'.cell? ⟨gb264, 1, none⟩ = some (.string a0_10) ∧ w'.cell? ⟨gb264, 2, none⟩ = some (.int .i64 a0_11) ∧ w'.cell? ⟨gb264, 3, none⟩ = some (.int .i64 a0_12) ∧ w'.cell? ⟨gb264, 4, none⟩ = some (.int .i64 a0_13) ∧ w'.cell? ⟨gb264, 5, none⟩ = some (.int .i64 a0_14) ∧ w'.cell? ⟨gb264, 6, none⟩ = some (.int .i64 a0_15)) ∧ (Kd.R (Kd.int .u8) 5 w' w.heap.size (fun k_ => some k_ ≠ (s_.2.1 : Value).ownBlock ∧ some k_ ≠ (s_.2.2 : Value).ownBlock) s_.1 y269) ∧ (Kd.R (Kd.int .u8) 5 w' w.heap.size (fun k_ => some k_ ≠ (s_.1 : Value).ownBlock ∧ some k_ ≠ (s_.2.2 : Value).ownBlock) s_.2.1 t272) ∧ (Kd.R (Kd.int .u8) 5 w' w.heap.size (fun k_ => some k_ ≠ (s_.1 : Value).ownBlock ∧ some k_ ≠ (s_.2.1 : Value).ownBlock) s_.2.2 y275) ∧ (w'.heap[gb222]? = some (.cells #[.int .i64 a0_0, .int .i64 a0_1, .string a0_2, .int .i64 a0_3, .int .i64 a0_4, .int .i64 a0_5, .string a0_6, .int .i64 a0_7, .int .i64 a0_8, .int .i64 a0_9, .string a0_10, .int .i64 a0_11, .int .i64 a0_12, .int .i64 a0_13, .int .i64 a0_14, .int .i64 a0_15] 48 (0, 0))) ∧ (w'.heap[gb264]? = some (.cells #[.int .i64 a0_9, .string a0_10, .int .i64 a0_11, .int .i64 a0_12, .int .i64 a0_13, .int .i64 a0_14, .int .i64 a0_15] 46 (0, 0))) ∧ (Below w.heap.size w w')) ?_ ?_
       rotate_left
       ·
        intro hCont
        refine two_ (i := 0) (j := 7) (Ni := some 85) (Nj := some 92) #[ii,ii,ii,oo,ii,ii,ii,oo,oo,ii,ii,oo,ii,ii,oo,oo] #[oo,ii,ii,oo,ii,ii,ii,ii,oo,ii,ii,oo,ii,ii,oo,oo] rfl rfl rfl rfl (two_of HT_.out (by kernel_rfl)) (by decide) (by decide) (fun K hK => ?_) (fun K hK => ?_)
        ·
         skip
         refine Kd.R_lit_step (Kd.int .u8) _ 5 ?hg (N := 85) ?hd (xs := ([2] : List Int)) (inner := [.int .u8 2]) (ok := fun _ => True) (okp := fun _ => True) ?hr ?hp (fun _ hk => hk) trivial (Below.refl _ _) (Nat.le_refl _) (by simp) ?_; (case hd => rfl); (case hg => rfl); (case hr => first | (go_simp; done) | (go_simp; rfl)); (case hp => exact (Reps.one (show Kd.M (Kd.int .u8) _ _ _ 2 [.int .u8 2] from rfl) (Reps.none _ _)))
         intro v270 w105 ho106 hb hg_ hnew_
         clear hg_ hnew_
         (first | rw [← Ny269.out] at ho106 | (simp only [Int.reduceToNat] at ho106; rw [← Ny269.out] at ho106))
         have HO271 := am_ (Kd.R_lower ho106 (below_size (qB HB)))
         replace BK222 := am_ (blk_below (qK BK222) hb)
         replace BK264 := am_ (blk_below (qK BK264) hb)
         replace HB := am_ (below_step (qB HB) hb)
         clear hb ho106
         obtain ⟨Ao107, co107, eo107⟩ := Kd.R_slice HO271.out
         (first | subst eo107 | (injection eo107 with f1_ f2_ f3_; have f4_ := f1_.symm; have f5_ := f3_.symm; clear f1_ f2_ f3_; subst f4_; subst f5_))
         refine hK.out _ _ (cz7 BK264.out) (fun hHeld => ?_)
         clear hK K
         refine norm_ (a' := ?_) ?_ ?_
         rotate_left
         ·
          show Act.put _ (some 85) _ = _
          exact ap_
         refine two_ (i := 3) (j := 7) (Ni := some 88) (Nj := some 92) #[ii,ii,ii,ii,ii,ii,ii,oo,oo,ii,ii,oo,ii,ii,oo,oo] #[ii,ii,ii,oo,ii,ii,ii,ii,oo,ii,ii,oo,ii,ii,oo,oo] rfl rfl rfl rfl (two_of HT_.out (by kernel_rfl)) (by decide) (by decide) (fun K hK => ?_) (fun K hK => ?_)
         ·
          skip
          refine goes_ Try.func75 (by kernel_rfl) rfl #[.slice Ao107 y269.length co107, .int .i64 a0_9] (by rfl) rfl rfl la_ ?_
          with_reducible refine (spec_PutWord.calls _ _ y269 a0_9 t272 _ ?side1 ?side2 A96.out).mono ?_
          (case side1 => exact qC ((Kd.R_reads' HO271.out).2.2))
          (case side2 => exact (Kd.R_reads' HO271.out).2.1)
          rintro e w108 ⟨v273, rfl, ho0, hb⟩
          refine ⟨_, rfl, ?_⟩
          have HO274 := am_ (Kd.R_lower (Kd.R_new' ho0 (Kd.R_lt (qR HO271))) (below_size (qB HB)))
          replace HO271 := am_ (eR HO271 ho0 hb)
          replace BK222 := am_ (blk_below (qK BK222) hb)
          replace BK264 := am_ (blk_below (qK BK264) hb)
          replace HB := am_ (below_step (qB HB) hb)
          (try clear hb ho0)
          refine hK.out _ _ (cz7 BK264.out) (fun hHeld => ?_)
          clear hK K
          refine norm_ (a' := ?_) ?_ ?_
          rotate_left
          ·
           show Act.put _ (some 88) _ = _
           exact ap_
          refine one_ (i := 7) (N := some 92) #[ii,ii,ii,ii,ii,ii,ii,ii,oo,ii,ii,oo,ii,ii,oo,oo] rfl rfl (one_of HT_.out (by kernel_rfl)) (by decide) (fun K hK => ?_)
          refine Kd.R_lit_step (Kd.int .u8) _ 5 ?hg (N := 92) ?hd (xs := ([(a0_12) % 256] : List Int)) (inner := [.int .u8 ((a0_12) % 256)]) (ok := fun _ => True) (okp := fun _ => True) ?hr ?hp (fun _ hk => hk) trivial (Below.refl _ _) (Nat.le_refl _) (by simp) ?_; (case hd => rfl); (case hg => rfl); (case hr => first | (go_simp; done) | (go_simp; rfl)); (case hp => exact (Reps.one (show Kd.M (Kd.int .u8) _ _ _ ((a0_12) % 256) [.int .u8 ((a0_12) % 256)] from rfl) (Reps.none _ _)))
          intro v276 w109 ho110 hb hg_ hnew_
          clear hg_ hnew_
          (first | rw [← Ny275.out] at ho110 | (simp only [Int.reduceToNat] at ho110; rw [← Ny275.out] at ho110))
          have HO277 := am_ (Kd.R_lower (Kd.R_new' (Kd.R_new' ho110 (Kd.R_lt (qR HO271))) (Kd.R_lt (qR HO274))) (below_size (qB HB)))
          replace HO271 := am_ (eR HO271 ho110 hb)
          replace HO274 := am_ (eR HO274 ho110 hb)
          replace BK222 := am_ (blk_below (qK BK222) hb)
          replace BK264 := am_ (blk_below (qK BK264) hb)
          replace HB := am_ (below_step (qB HB) hb)
          clear hb ho110
          refine hK.out _ _ (cz7 BK264.out) (fun hHeld => ?_)
          clear hK K
          refine norm_ (a' := ?_) ?_ ?_
          rotate_left
          ·
           show Act.put _ (some 92) _ = _
           exact ap_
          exact norm_ (by simp only [putAll, Act.put, List.setIfInBounds_toArray, List.set_cons_zero, List.set_cons_succ]) (hCont (.slice Ao107 y269.length co107, v273, v276) _ ⟨hHeld, (tR (Kd.R_mono HO271.out (fun _ hk => ⟨hk.1.2, hk.2⟩))), (tR (Kd.R_mono HO274.out (fun _ hk => ⟨hk.1.2, hk.2⟩))), (tR (Kd.R_mono HO277.out (fun _ hk => ⟨hk.1.2, hk.2⟩))), (qK BK222), (qK BK264), (qB HB)⟩)
         ·
          skip
          refine Kd.R_lit_step (Kd.int .u8) _ 5 ?hg (N := 92) ?hd (xs := ([(a0_12) % 256] : List Int)) (inner := [.int .u8 ((a0_12) % 256)]) (ok := fun _ => True) (okp := fun _ => True) ?hr ?hp (fun _ hk => hk) trivial (Below.refl _ _) (Nat.le_refl _) (by simp) ?_; (case hd => rfl); (case hg => rfl); (case hr => first | (go_simp; done) | (go_simp; rfl)); (case hp => exact (Reps.one (show Kd.M (Kd.int .u8) _ _ _ ((a0_12) % 256) [.int .u8 ((a0_12) % 256)] from rfl) (Reps.none _ _)))
          intro v276 w107 ho108 hb hg_ hnew_
          clear hg_ hnew_
          (first | rw [← Ny275.out] at ho108 | (simp only [Int.reduceToNat] at ho108; rw [← Ny275.out] at ho108))
          have HO277 := am_ (Kd.R_lower (Kd.R_new' ho108 (Kd.R_lt (qR HO271))) (below_size (qB HB)))
          replace HO271 := am_ (eR HO271 ho108 hb)
          replace BK222 := am_ (blk_below (qK BK222) hb)
          replace BK264 := am_ (blk_below (qK BK264) hb)
          replace HB := am_ (below_step (qB HB) hb)
          clear hb ho108
          obtain ⟨Ao109, co109, eo109⟩ := Kd.R_slice HO271.out
          (first | subst eo109 | (injection eo109 with f1_ f2_ f3_; have f4_ := f1_.symm; have f5_ := f3_.symm; clear f1_ f2_ f3_; subst f4_; subst f5_))
          refine hK.out _ _ (cz7 BK264.out) (fun hHeld => ?_)
          clear hK K
          refine norm_ (a' := ?_) ?_ ?_
          rotate_left
          ·
           show Act.put _ (some 92) _ = _
           exact ap_
          refine one_ (i := 3) (N := some 88) #[ii,ii,ii,ii,ii,ii,ii,ii,oo,ii,ii,oo,ii,ii,oo,oo] rfl rfl (one_of HT_.out (by kernel_rfl)) (by decide) (fun K hK => ?_)
          refine goes_ Try.func75 (by kernel_rfl) rfl #[.slice Ao109 y269.length co109, .int .i64 a0_9] (by rfl) rfl rfl la_ ?_
          with_reducible refine (spec_PutWord.calls _ _ y269 a0_9 t272 _ ?side1 ?side2 A96.out).mono ?_
          (case side1 => exact qC ((Kd.R_reads' HO271.out).2.2))
          (case side2 => exact (Kd.R_reads' HO271.out).2.1)
          rintro e w110 ⟨v273, rfl, ho0, hb⟩
          refine ⟨_, rfl, ?_⟩
          have HO274 := am_ (Kd.R_lower (Kd.R_new' (Kd.R_new' ho0 (Kd.R_lt (qR HO271))) (Kd.R_lt (qR HO277))) (below_size (qB HB)))
          replace HO271 := am_ (eR HO271 ho0 hb)
          replace HO277 := am_ (eR HO277 ho0 hb)
          replace BK222 := am_ (blk_below (qK BK222) hb)
          replace BK264 := am_ (blk_below (qK BK264) hb)
          replace HB := am_ (below_step (qB HB) hb)
          (try clear hb ho0)
          refine hK.out _ _ (cz7 BK264.out) (fun hHeld => ?_)
          clear hK K
          refine norm_ (a' := ?_) ?_ ?_
          rotate_left
          ·
           show Act.put _ (some 88) _ = _
           exact ap_
          exact norm_ (by simp only [putAll, Act.put, List.setIfInBounds_toArray, List.set_cons_zero, List.set_cons_succ]) (hCont (.slice Ao109 y269.length co109, v273, v276) _ ⟨hHeld, (tR (Kd.R_mono HO271.out (fun _ hk => ⟨hk.2, hk.1.2⟩))), (tR (Kd.R_mono HO274.out (fun _ hk => ⟨hk.1.2, hk.2⟩))), (tR (Kd.R_mono HO277.out (fun _ hk => ⟨hk.1.2, hk.2⟩))), (qK BK222), (qK BK264), (qB HB)⟩)
        ·
         skip
         refine Kd.R_lit_step (Kd.int .u8) _ 5 ?hg (N := 92) ?hd (xs := ([(a0_12) % 256] : List Int)) (inner := [.int .u8 ((a0_12) % 256)]) (ok := fun _ => True) (okp := fun _ => True) ?hr ?hp (fun _ hk => hk) trivial (Below.refl _ _) (Nat.le_refl _) (by simp) ?_; (case hd => rfl); (case hg => rfl); (case hr => first | (go_simp; done) | (go_simp; rfl)); (case hp => exact (Reps.one (show Kd.M (Kd.int .u8) _ _ _ ((a0_12) % 256) [.int .u8 ((a0_12) % 256)] from rfl) (Reps.none _ _)))
         intro v276 w105 ho106 hb hg_ hnew_
         clear hg_ hnew_
         (first | rw [← Ny275.out] at ho106 | (simp only [Int.reduceToNat] at ho106; rw [← Ny275.out] at ho106))
         have HO277 := am_ (Kd.R_lower ho106 (below_size (qB HB)))
         replace BK222 := am_ (blk_below (qK BK222) hb)
         replace BK264 := am_ (blk_below (qK BK264) hb)
         replace HB := am_ (below_step (qB HB) hb)
         clear hb ho106
         refine hK.out _ _ (cz7 BK264.out) (fun hHeld => ?_)
         clear hK K
         refine norm_ (a' := ?_) ?_ ?_
         rotate_left
         ·
          show Act.put _ (some 92) _ = _
          exact ap_
         refine one_ (i := 0) (N := some 85) #[ii,ii,ii,oo,ii,ii,ii,ii,oo,ii,ii,oo,ii,ii,oo,oo] rfl rfl (one_of HT_.out (by kernel_rfl)) (by decide) (fun K hK => ?_)
         refine Kd.R_lit_step (Kd.int .u8) _ 5 ?hg (N := 85) ?hd (xs := ([2] : List Int)) (inner := [.int .u8 2]) (ok := fun _ => True) (okp := fun _ => True) ?hr ?hp (fun _ hk => hk) trivial (Below.refl _ _) (Nat.le_refl _) (by simp) ?_; (case hd => rfl); (case hg => rfl); (case hr => first | (go_simp; done) | (go_simp; rfl)); (case hp => exact (Reps.one (show Kd.M (Kd.int .u8) _ _ _ 2 [.int .u8 2] from rfl) (Reps.none _ _)))
         intro v270 w107 ho108 hb hg_ hnew_
         clear hg_ hnew_
         (first | rw [← Ny269.out] at ho108 | (simp only [Int.reduceToNat] at ho108; rw [← Ny269.out] at ho108))
         have HO271 := am_ (Kd.R_lower (Kd.R_new' ho108 (Kd.R_lt (qR HO277))) (below_size (qB HB)))
         replace HO277 := am_ (eR HO277 ho108 hb)
         replace BK222 := am_ (blk_below (qK BK222) hb)
         replace BK264 := am_ (blk_below (qK BK264) hb)
         replace HB := am_ (below_step (qB HB) hb)
         clear hb ho108
         obtain ⟨Ao109, co109, eo109⟩ := Kd.R_slice HO271.out
         (first | subst eo109 | (injection eo109 with f1_ f2_ f3_; have f4_ := f1_.symm; have f5_ := f3_.symm; clear f1_ f2_ f3_; subst f4_; subst f5_))
         refine hK.out _ _ (cz7 BK264.out) (fun hHeld => ?_)
         clear hK K
         refine norm_ (a' := ?_) ?_ ?_
         rotate_left
         ·
          show Act.put _ (some 85) _ = _
          exact ap_
         refine one_ (i := 3) (N := some 88) #[ii,ii,ii,ii,ii,ii,ii,ii,oo,ii,ii,oo,ii,ii,oo,oo] rfl rfl (one_of HT_.out (by kernel_rfl)) (by decide) (fun K hK => ?_)
         refine goes_ Try.func75 (by kernel_rfl) rfl #[.slice Ao109 y269.length co109, .int .i64 a0_9] (by rfl) rfl rfl la_ ?_
         with_reducible refine (spec_PutWord.calls _ _ y269 a0_9 t272 _ ?side1 ?side2 A96.out).mono ?_
         (case side1 => exact qC ((Kd.R_reads' HO271.out).2.2))
         (case side2 => exact (Kd.R_reads' HO271.out).2.1)
         rintro e w110 ⟨v273, rfl, ho0, hb⟩
         refine ⟨_, rfl, ?_⟩
         have HO274 := am_ (Kd.R_lower (Kd.R_new' (Kd.R_new' ho0 (Kd.R_lt (qR HO277))) (Kd.R_lt (qR HO271))) (below_size (qB HB)))
         replace HO277 := am_ (eR HO277 ho0 hb)
         replace HO271 := am_ (eR HO271 ho0 hb)
         replace BK222 := am_ (blk_below (qK BK222) hb)
         replace BK264 := am_ (blk_below (qK BK264) hb)
         replace HB := am_ (below_step (qB HB) hb)
         (try clear hb ho0)
         refine hK.out _ _ (cz7 BK264.out) (fun hHeld => ?_)
         clear hK K
         refine norm_ (a' := ?_) ?_ ?_
         rotate_left
         ·
          show Act.put _ (some 88) _ = _
          exact ap_
         exact norm_ (by simp only [putAll, Act.put, List.setIfInBounds_toArray, List.set_cons_zero, List.set_cons_succ]) (hCont (.slice Ao109 y269.length co109, v273, v276) _ ⟨hHeld, (tR (Kd.R_mono HO271.out (fun _ hk => ⟨hk.2, hk.1.2⟩))), (tR (Kd.R_mono HO274.out (fun _ hk => ⟨hk.2, hk.1.2⟩))), (tR (Kd.R_mono HO277.out (fun _ hk => ⟨hk.1.2, hk.2⟩))), (qK BK222), (qK BK264), (qB HB)⟩)
       rintro ⟨v270, v273, v276⟩ w111 ⟨hS_, h0_, h1_, h2_, h3_, h4_, h5_⟩
       have n0_ : Aside0 (Kd.R (Kd.int .u8) 5 w111 w.heap.size (fun k_ => some k_ ≠ (v273 : Value).ownBlock ∧ some k_ ≠ (v276 : Value).ownBlock) v270 y269) := ⟨h0_⟩
       have n1_ : Aside0 (Kd.R (Kd.int .u8) 5 w111 w.heap.size (fun k_ => some k_ ≠ (v270 : Value).ownBlock ∧ some k_ ≠ (v276 : Value).ownBlock) v273 t272) := ⟨h1_⟩
       have n2_ : Aside0 (Kd.R (Kd.int .u8) 5 w111 w.heap.size (fun k_ => some k_ ≠ (v270 : Value).ownBlock ∧ some k_ ≠ (v273 : Value).ownBlock) v276 y275) := ⟨h2_⟩
       have n3_ : Aside0 (w111.heap[gb222]? = some (.cells #[.int .i64 a0_0, .int .i64 a0_1, .string a0_2, .int .i64 a0_3, .int .i64 a0_4, .int .i64 a0_5, .string a0_6, .int .i64 a0_7, .int .i64 a0_8, .int .i64 a0_9, .string a0_10, .int .i64 a0_11, .int .i64 a0_12, .int .i64 a0_13, .int .i64 a0_14, .int .i64 a0_15] 48 (0, 0))) := ⟨h3_⟩
       have n4_ : Aside0 (w111.heap[gb264]? = some (.cells #[.int .i64 a0_9, .string a0_10, .int .i64 a0_11, .int .i64 a0_12, .int .i64 a0_13, .int .i64 a0_14, .int .i64 a0_15] 46 (0, 0))) := ⟨h4_⟩
       have n5_ : Aside0 (Below w.heap.size w w111) := ⟨h5_⟩
       clear BK222
       clear BK264
       clear HB
       clear h0_ h1_ h2_ h3_ h4_ h5_
       have HO271 := n0_
       have HO274 := n1_
       have HO277 := n2_
       have BK222 := n3_
       have BK264 := n4_
       have HB := n5_
       clear n0_ n1_ n2_ n3_ n4_ n5_
       have hHeld : w111.cell? ⟨gb264, 0, none⟩ = some (.int .i64 a0_9) ∧ w111.cell? ⟨gb264, 1, none⟩ = some (.string a0_10) ∧ w111.cell? ⟨gb264, 2, none⟩ = some (.int .i64 a0_11) ∧ w111.cell? ⟨gb264, 3, none⟩ = some (.int .i64 a0_12) ∧ w111.cell? ⟨gb264, 4, none⟩ = some (.int .i64 a0_13) ∧ w111.cell? ⟨gb264, 5, none⟩ = some (.int .i64 a0_14) ∧ w111.cell? ⟨gb264, 6, none⟩ = some (.int .i64 a0_15) := hS_
       obtain ⟨Ao113, co113, eo113⟩ := Kd.R_slice HO277.out
       (first | subst eo113 | (injection eo113 with f1_ f2_ f3_; have f4_ := f1_.symm; have f5_ := f3_.symm; clear f1_ f2_ f3_; subst f4_; subst f5_))
       refine norm_ (a' := ?_) ?_ ?_
       rotate_left
       ·
        simp only [putAll, Act.put, List.setIfInBounds_toArray, List.set_cons_zero, List.set_cons_succ]
        rfl
       refine one_ (i := 8) (N := some 93) #[ii,ii,ii,ii,ii,ii,ii,ii,ii,ii,ii,oo,ii,ii,oo,oo] rfl rfl (one_of HT_.out (by kernel_rfl)) (by decide) (fun K hK => ?_)
       refine Kd.R_append_rows_step (Kd.int .u8) (w0 := w) w.heap.size (by rfl) (.tmp 88) (.tmp 92) 22 5 (.int .u8 0) 1 rfl Try.underlying22 info5 rfl (by decide) (by omega) v273 t272 y275 _ _ _ (fun k_ => some k_ ≠ (v270 : Value).ownBlock ∧ some k_ ≠ (.slice Ao113 y275.length co113 : Value).ownBlock) (fun _ => False) rfl rfl ?aO ?aR (fun _ _ h => h) (fun _ h => h.elim) ?aF ?aB ?aS ?aL ?_
       (case aR => exact qC ((Kd.R_reads' HO277.out).2.2))
       (case aB => exact (qB HB))
       (case aF => exact (fun k_ hk => ⟨Kd.fresh' (Kd.R_lt (qR HO271)) k_ hk, Kd.fresh' (Kd.R_lt (qR HO277)) k_ hk⟩))
       (case aO => exact (qR HO274))
       (case aS => exact (below_size (qB HB)))
       (case aL => have := LMc97.out; omega)
       intro v279 w112 ho hb hg hat
       rw [← Ny278.out] at ho
       replace BK222 := am_ (blk_grown (qK BK222) hg (Kd.R_ne HO274.out BK222.out (by decide)))
       replace BK264 := am_ (blk_grown (qK BK264) hg (Kd.R_ne HO274.out BK264.out (by decide)))
       replace HO271 := am_ (Kd.R_after (ok := (fun k_ => some k_ ≠ (.slice Ao113 y275.length co113 : Value).ownBlock)) (tR (Kd.R_mono HO271.out (fun _ hk => ⟨hk.2, hk.1⟩))) hg hat)
       replace HO277 := am_ (Kd.R_after (ok := (fun k_ => some k_ ≠ (v270 : Value).ownBlock)) (qR HO277) hg hat)
       replace HB := am_ (hb)
       have HO280 := am_ (ho)
       clear HO274
       clear ho hb hg hat
       obtain ⟨Ao114, co114, eo114⟩ := Kd.R_slice HO280.out
       (first | subst eo114 | (injection eo114 with f1_ f2_ f3_; have f4_ := f1_.symm; have f5_ := f3_.symm; clear f1_ f2_ f3_; subst f4_; subst f5_))
       refine hK.out _ _ (cz7 BK264.out) (fun hHeld => ?_)
       clear hK K
       refine norm_ (a' := ?_) ?_ ?_
       rotate_left
       ·
        show Act.put _ (some 93) _ = _
        exact ap_
       refine one_ (i := 11) (N := some 96) #[ii,ii,ii,ii,ii,ii,ii,ii,ii,ii,ii,ii,ii,ii,oo,oo] rfl rfl (one_of HT_.out (by kernel_rfl)) (by decide) (fun K hK => ?_)
       refine goes_ Try.func74 (by kernel_rfl) rfl #[.slice Ao114 y278.length co114, .string a0_10] (by rfl) rfl rfl la_ ?_
       with_reducible refine (spec_PutText.calls kj66 _ _ y278 a0_10 t281 _ ?side1 ?side2 A98.out).mono ?_
       (case side1 => exact qC ((Kd.R_reads' HO280.out).2.2))
       (case side2 => exact (Kd.R_reads' HO280.out).2.1)
       rintro e w115 ⟨v282, rfl, ho0, hb⟩
       refine ⟨_, rfl, ?_⟩
       have HO283 := am_ (Kd.R_lower (Kd.R_new' (Kd.R_new' (Kd.R_new' ho0 (Kd.R_lt (qR HO271))) (Kd.R_lt (qR HO277))) (Kd.R_lt (qR HO280))) (below_size (qB HB)))
       replace HO271 := am_ (eR HO271 ho0 hb)
       replace HO277 := am_ (eR HO277 ho0 hb)
       replace HO280 := am_ (eR HO280 ho0 hb)
       replace BK222 := am_ (blk_below (qK BK222) hb)
       replace BK264 := am_ (blk_below (qK BK264) hb)
       replace HB := am_ (below_step (qB HB) hb)
       (try clear hb ho0)
       obtain ⟨Ao116, co116, eo116⟩ := Kd.R_slice HO283.out
       (first | subst eo116 | (injection eo116 with f1_ f2_ f3_; have f4_ := f1_.symm; have f5_ := f3_.symm; clear f1_ f2_ f3_; subst f4_; subst f5_))
       refine hK.out _ _ (cz7 BK264.out) (fun hHeld => ?_)
       clear hK K
       refine norm_ (a' := ?_) ?_ ?_
       rotate_left
       ·
        show Act.put _ (some 96) _ = _
        exact ap_
       refine one_ (i := 14) (N := some 99) #[ii,ii,ii,ii,ii,ii,ii,ii,ii,ii,ii,ii,ii,ii,ii,oo] rfl rfl (one_of HT_.out (by kernel_rfl)) (by decide) (fun K hK => ?_)
       refine goes_ Try.func75 (by kernel_rfl) rfl #[.slice Ao116 t281.length co116, .int .i64 a0_11] (by rfl) rfl rfl la_ ?_
       with_reducible refine (spec_PutWord.calls _ _ t281 a0_11 t284 _ ?side1 ?side2 A99.out).mono ?_
       (case side1 => exact qC ((Kd.R_reads' HO283.out).2.2))
       (case side2 => exact (Kd.R_reads' HO283.out).2.1)
       rintro e w117 ⟨v285, rfl, ho0, hb⟩
       refine ⟨_, rfl, ?_⟩
       have HO286 := am_ (Kd.R_lower (Kd.R_new' (Kd.R_new' (Kd.R_new' (Kd.R_new' ho0 (Kd.R_lt (qR HO271))) (Kd.R_lt (qR HO277))) (Kd.R_lt (qR HO280))) (Kd.R_lt (qR HO283))) (below_size (qB HB)))
       replace HO271 := am_ (eR HO271 ho0 hb)
       replace HO277 := am_ (eR HO277 ho0 hb)
       replace HO280 := am_ (eR HO280 ho0 hb)
       replace HO283 := am_ (eR HO283 ho0 hb)
       replace BK222 := am_ (blk_below (qK BK222) hb)
       replace BK264 := am_ (blk_below (qK BK264) hb)
       replace HB := am_ (below_step (qB HB) hb)
       (try clear hb ho0)
       refine hK.out _ _ (cz7 BK264.out) (fun hHeld => ?_)
       clear hK K
       refine norm_ (a' := ?_) ?_ ?_
       rotate_left
       ·
        show Act.put _ (some 99) _ = _
        exact ap_
       refine pure_ (i := 15) (N := some 6) (v := ?_) (a' := ?_) #[ii,ii,ii,ii,ii,ii,ii,ii,ii,ii,ii,ii,ii,ii,ii,ii] rfl rfl (any_of HT_.out (by kernel_rfl)) (fun _ _ _ h => h) (Or.inl ⟨by rfl, ?_⟩) ?_ ?_
       rotate_left
       ·
        intro w'
        go_simp
        with_reducible rfl
       rotate_left
       ·
        exact ap_
       refine done_ (done_of HT_.out (by kernel_rfl)) ?_
       obtain ⟨Ao118, co118, eo118⟩ := Kd.R_slice HO286.out
       subst eo118
       try go_wp2
       replace HO271 := am_ (Kd.R_drew HO271.out)
       replace HO277 := am_ (Kd.R_drew HO277.out)
       replace HO280 := am_ (Kd.R_drew HO280.out)
       replace HO283 := am_ (Kd.R_drew HO283.out)
       replace HO286 := am_ (Kd.R_drew HO286.out)
       replace BK222 := am_ (blk_drew BK222.out)
       replace BK264 := am_ (blk_drew BK264.out)
       replace HB := am_ (below_drew1 HB.out)
       refine start_ (n := 18) (S := fun w' => w'.cell? ⟨gb264, 0, none⟩ = some (.int .i64 a0_9) ∧ w'.cell? ⟨gb264, 1, none⟩ = some (.string a0_10) ∧ w'.cell? ⟨gb264, 2, none⟩ = some (.int .i64 a0_11) ∧ w'.cell? ⟨gb264, 3, none⟩ = some (.int .i64 a0_12) ∧ w'.cell? ⟨gb264, 4, none⟩ = some (.int .i64 a0_13) ∧ w'.cell? ⟨gb264, 5, none⟩ = some (.int .i64 a0_14) ∧ w'.cell? ⟨gb264, 6, none⟩ = some (.int .i64 a0_15)) (ds := []) #[oo,oo,oo,oo,oo,oo,oo,oo,oo,oo,oo,oo,oo,oo,oo,oo,oo,oo] (by kernel_rfl) rfl rfl (cz7 BK264.out) (fun hHeld => ?_); refine with_tabW spec_PutItem.tab12 spec_PutItem.bits12 (fun HT_ HW_ => ?_)
       generalize w117.drew = w119 at HO271 HO277 HO280 HO283 HO286 BK222 BK264 HB hHeld ⊢
       refine pure_ (i := 0) (N := some 100) (v := ?_) (a' := ?_) #[ii,oo,oo,oo,oo,oo,oo,oo,oo,oo,oo,oo,oo,oo,oo,oo,oo,oo] rfl rfl (any_of HT_.out (by kernel_rfl)) (fun _ _ _ h => h) (Or.inl ⟨by rfl, ?_⟩) ?_ ?_
       rotate_left
       ·
        intro w'
        go_simp
        with_reducible rfl
       rotate_left
       ·
        exact ap_
       refine pure_ (i := 1) (N := some 101) (v := ?_) (a' := ?_) #[ii,ii,oo,oo,oo,oo,oo,oo,oo,oo,oo,oo,oo,oo,oo,oo,oo,oo] rfl rfl (any_of HT_.out (by kernel_rfl)) (fun _ _ _ h => h) (Or.inl ⟨by rfl, ?_⟩) ?_ ?_
       rotate_left
       ·
        intro w'
        go_simp
        with_reducible rfl
       rotate_left
       ·
        exact ap_
       refine pure_ (i := 5) (N := some 105) (v := ?_) (a' := ?_) #[ii,ii,oo,oo,oo,ii,oo,oo,oo,oo,oo,oo,oo,oo,oo,oo,oo,oo] rfl rfl (any_of HT_.out (by kernel_rfl)) (fun _ _ _ h => h) (Or.inl ⟨by rfl, ?_⟩) ?_ ?_
       rotate_left
       ·
        intro w'
        go_simp
        with_reducible rfl
       rotate_left
       ·
        exact ap_
       refine pure_ (i := 11) (N := some 111) (v := ?_) (a' := ?_) #[ii,ii,oo,oo,oo,ii,oo,oo,oo,oo,oo,ii,oo,oo,oo,oo,oo,oo] rfl rfl (any_of HT_.out (by kernel_rfl)) (fun _ _ _ h => h) (Or.inl ⟨by rfl, ?_⟩) ?_ ?_
       rotate_left
       ·
        intro w'
        go_simp
        with_reducible rfl
       rotate_left
       ·
        exact ap_
       refine pure_ (i := 14) (N := some 114) (v := ?_) (a' := ?_) #[ii,ii,oo,oo,oo,ii,oo,oo,oo,oo,oo,ii,oo,oo,ii,oo,oo,oo] rfl rfl (any_of HT_.out (by kernel_rfl)) (fun _ _ _ h => h) (Or.inl ⟨by rfl, ?_⟩) ?_ ?_
       rotate_left
       ·
        intro w'
        go_simp
        with_reducible rfl
       rotate_left
       ·
        exact ap_
       refine take_ (i := 2) (N := some 102) (v := ?_) (a' := ?_) #[ii,ii,ii,oo,oo,ii,oo,oo,oo,oo,oo,ii,oo,oo,ii,oo,oo,oo] rfl rfl (take_ofW HT_.out HW_.out (by kernel_rfl)) (fun _ _ _ h => h) (Or.inl ⟨by rfl, ?_⟩) hHeld ?_ ?_
       rotate_left
       ·
        rintro w' ⟨s0, s1, s2, s3, s4, s5, s6⟩
        go_simp
        with_reducible rfl
       rotate_left
       ·
        exact ap_
       refine pure_ (i := 3) (N := some 103) (v := ?_) (a' := ?_) #[ii,ii,ii,ii,oo,ii,oo,oo,oo,oo,oo,ii,oo,oo,ii,oo,oo,oo] rfl rfl (any_of HT_.out (by kernel_rfl)) (fun _ _ _ h => h) (Or.inl ⟨by rfl, ?_⟩) ?_ ?_
       rotate_left
       ·
        intro w'
        go_simp
        with_reducible rfl
       rotate_left
       ·
        exact ap_
       refine take_ (i := 6) (N := some 106) (v := ?_) (a' := ?_) #[ii,ii,ii,ii,oo,ii,ii,oo,oo,oo,oo,ii,oo,oo,ii,oo,oo,oo] rfl rfl (take_ofW HT_.out HW_.out (by kernel_rfl)) (fun _ _ _ h => h) (Or.inl ⟨by rfl, ?_⟩) hHeld ?_ ?_
       rotate_left
       ·
        rintro w' ⟨s0, s1, s2, s3, s4, s5, s6⟩
        go_simp
        with_reducible rfl
       rotate_left
       ·
        exact ap_
       refine pure_ (i := 7) (N := some 107) (v := ?_) (a' := ?_) #[ii,ii,ii,ii,oo,ii,ii,ii,oo,oo,oo,ii,oo,oo,ii,oo,oo,oo] rfl rfl (any_of HT_.out (by kernel_rfl)) (fun _ _ _ h => h) (Or.inl ⟨by rfl, ?_⟩) ?_ ?_
       rotate_left
       ·
        intro w'
        go_simp
        with_reducible rfl
       rotate_left
       ·
        exact ap_
       refine pure_ (i := 8) (N := some 108) (v := ?_) (a' := ?_) #[ii,ii,ii,ii,oo,ii,ii,ii,ii,oo,oo,ii,oo,oo,ii,oo,oo,oo] rfl rfl (any_of HT_.out (by kernel_rfl)) (fun _ _ _ h => h) (Or.inl ⟨by rfl, ?_⟩) ?_ ?_
       rotate_left
       ·
        intro w'
        go_simp
        with_reducible rfl
       rotate_left
       ·
        exact ap_
       refine take_ (i := 12) (N := some 112) (v := ?_) (a' := ?_) #[ii,ii,ii,ii,oo,ii,ii,ii,ii,oo,oo,ii,ii,oo,ii,oo,oo,oo] rfl rfl (take_ofW HT_.out HW_.out (by kernel_rfl)) (fun _ _ _ h => h) (Or.inl ⟨by rfl, ?_⟩) hHeld ?_ ?_
       rotate_left
       ·
        rintro w' ⟨s0, s1, s2, s3, s4, s5, s6⟩
        go_simp
        with_reducible rfl
       rotate_left
       ·
        exact ap_
       refine take_ (i := 15) (N := some 115) (v := ?_) (a' := ?_) #[ii,ii,ii,ii,oo,ii,ii,ii,ii,oo,oo,ii,ii,oo,ii,ii,oo,oo] rfl rfl (take_ofW HT_.out HW_.out (by kernel_rfl)) (fun _ _ _ h => h) (Or.inl ⟨by rfl, ?_⟩) hHeld ?_ ?_
       rotate_left
       ·
        rintro w' ⟨s0, s1, s2, s3, s4, s5, s6⟩
        go_simp
        with_reducible rfl
       rotate_left
       ·
        exact ap_
       refine join_ (σ := Value × Value) 4 #[ii,ii,ii,ii,ii,ii,ii,ii,ii,ii,oo,ii,ii,oo,ii,ii,oo,oo] (fun s_ => [(104, s_.1), (109, s_.2)]) (fun s_ w' => (w'.cell? ⟨gb264, 0, none⟩ = some (.int .i64 a0_9) ∧ w'.cell? ⟨gb264, 1, none⟩ = some (.string a0_10) ∧ w'.cell? ⟨gb264, 2, none⟩ = some (.int .i64 a0_11) ∧ w'.cell? ⟨gb264, 3, none⟩ = some (.int .i64 a0_12) ∧ w'.cell? ⟨gb264, 4, none⟩ = some (.int .i64 a0_13) ∧ w'.cell? ⟨gb264, 5, none⟩ = some (.int .i64 a0_14) ∧ w'.cell? ⟨gb264, 6, none⟩ = some (.int .i64 a0_15)) ∧ (Kd.R (Kd.int .u8) 5 w' w.heap.size (fun k_ => some k_ ≠ (.slice Ao113 y275.length co113 : Value).ownBlock ∧ some k_ ≠ (.slice Ao114 y278.length co114 : Value).ownBlock ∧ some k_ ≠ (.slice Ao116 t281.length co116 : Value).ownBlock ∧ some k_ ≠ (.slice Ao118 t284.length co118 : Value).ownBlock ∧ some k_ ≠ (s_.1 : Value).ownBlock ∧ some k_ ≠ (s_.2 : Value).ownBlock) v270 y269) ∧ (Kd.R (Kd.int .u8) 5 w' w.heap.size (fun k_ => some k_ ≠ (v270 : Value).ownBlock ∧ some k_ ≠ (.slice Ao114 y278.length co114 : Value).ownBlock ∧ some k_ ≠ (.slice Ao116 t281.length co116 : Value).ownBlock ∧ some k_ ≠ (.slice Ao118 t284.length co118 : Value).ownBlock ∧ some k_ ≠ (s_.1 : Value).ownBlock ∧ some k_ ≠ (s_.2 : Value).ownBlock) (.slice Ao113 y275.length co113) y275) ∧ (Kd.R (Kd.int .u8) 5 w' w.heap.size (fun k_ => some k_ ≠ (v270 : Value).ownBlock ∧ some k_ ≠ (.slice Ao113 y275.length co113 : Value).ownBlock ∧ some k_ ≠ (.slice Ao116 t281.length co116 : Value).ownBlock ∧ some k_ ≠ (.slice Ao118 t284.length co118 : Value).ownBlock ∧ some k_ ≠ (s_.1 : Value).ownBlock ∧ some k_ ≠ (s_.2 : Value).ownBlock) (.slice Ao114 y278.length co114) y278) ∧ (Kd.R (Kd.int .u8) 5 w' w.heap.size (fun k_ => some k_ ≠ (v270 : Value).ownBlock ∧ some k_ ≠ (.slice Ao113 y275.length co113 : Value).ownBlock ∧ some k_ ≠ (.slice Ao114 y278.length co114 : Value).ownBlock ∧ some k_ ≠ (.slice Ao118 t284.length co118 : Value).ownBlock ∧ some k_ ≠ (s_.1 : Value).ownBlock ∧ some k_ ≠ (s_.2 : Value).ownBlock) (.slice Ao116 t281.length co116) t281) ∧ (Kd.R (Kd.int .u8) 5 w' w.heap.size (fun k_ => some k_ ≠ (v270 : Value).ownBlock ∧ some k_ ≠ (.slice Ao113 y275.length co113 : Value).ownBlock ∧ some k_ ≠ (.slice Ao114 y278.length co114 : Value).ownBlock ∧ some k_ ≠ (.slice Ao116 t281.length co116 : Value).ownBlock ∧ some k_ ≠ (s_.1 : Value).ownBlock ∧ some k_ ≠ (s_.2 : Value).ownBlock) (.slice Ao118 t284.length co118) t284) ∧ (Kd.R (Kd.int .u8) 5 w' w.heap.size (fun k_ => some k_ ≠ (v270 : Value).ownBlock ∧ some k_ ≠ (.slice Ao113 y275.length co113 : Value).ownBlock ∧ some k_ ≠ (.slice Ao114 y278.length co114 : Value).ownBlock ∧ some k_ ≠ (.slice Ao116 t281.length co116 : Value).ownBlock ∧ some k_ ≠ (.slice Ao118 t284.length co118 : Value).ownBlock ∧ some k_ ≠ (s_.2 : Value).ownBlock) s_.1 t287) ∧ (Kd.R (Kd.int .u8) 5 w' w.heap.size (fun k_ => some k_ ≠ (v270 : Value).ownBlock ∧ some k_ ≠ (.slice Ao113 y275.length co113 : Value).ownBlock ∧ some k_ ≠ (.slice Ao114 y278.length co114 : Value).ownBlock ∧ some k_ ≠ (.slice Ao116 t281.length co116 : Value).ownBlock ∧ some k_ ≠ (.slice Ao118 t284.length co118 : Value).ownBlock ∧ some k_ ≠ (s_.1 : Value).ownBlock) s_.2 y290) ∧ (w'.heap[gb222]? = some (.cells #[.int .i64 a0_0, .int .i64 a0_1, .string a0_2, .int .i64 a0_3, .int .i64 a0_4, .int .i64 a0_5, .string a0_6, .int .i64 a0_7, .int .i64 a0_8, .int .i64 a0_9, .string a0_10, .int .i64 a0_11, .int .i64 a0_12, .int .i64 a0_13, .int .i64 a0_14, .int .i64 a0_15] 48 (0, 0))) ∧ (w'.heap[gb264]? = some (.cells #[.int .i64 a0_9, .string a0_10, .int .i64 a0_11, .int .i64 a0_12, .int .i64 a0_13, .int .i64 a0_14, .int .i64 a0_15] 46 (0, 0))) ∧ (Below w.heap.size w w')) ?_ ?_
       rotate_left
       ·
        intro hCont
        refine two_ (i := 4) (j := 9) (Ni := some 104) (Nj := some 109) #[ii,ii,ii,ii,ii,ii,ii,ii,ii,oo,oo,ii,ii,oo,ii,ii,oo,oo] #[ii,ii,ii,ii,oo,ii,ii,ii,ii,ii,oo,ii,ii,oo,ii,ii,oo,oo] rfl rfl rfl rfl (two_of HT_.out (by kernel_rfl)) (by decide) (by decide) (fun K hK => ?_) (fun K hK => ?_)
        ·
         skip
         refine goes_ Try.func75 (by kernel_rfl) rfl #[.slice Ao118 t284.length co118, .int .i64 (wrap64 (Int.tdiv a0_13 256))] (by rfl) rfl rfl la_ ?_
         with_reducible refine (spec_PutWord.calls _ _ t284 (wrap64 (Int.tdiv a0_13 256)) t287 _ ?side1 ?side2 A100.out).mono ?_
         (case side1 => exact qC ((Kd.R_reads' HO286.out).2.2))
         (case side2 => exact (Kd.R_reads' HO286.out).2.1)
         rintro e w120 ⟨v288, rfl, ho0, hb⟩
         refine ⟨_, rfl, ?_⟩
         have HO289 := am_ (Kd.R_lower (Kd.R_new' (Kd.R_new' (Kd.R_new' (Kd.R_new' (Kd.R_new' ho0 (Kd.R_lt (qR HO271))) (Kd.R_lt (qR HO277))) (Kd.R_lt (qR HO280))) (Kd.R_lt (qR HO283))) (Kd.R_lt (qR HO286))) (below_size (qB HB)))
         replace HO271 := am_ (eR HO271 ho0 hb)
         replace HO277 := am_ (eR HO277 ho0 hb)
         replace HO280 := am_ (eR HO280 ho0 hb)
         replace HO283 := am_ (eR HO283 ho0 hb)
         replace HO286 := am_ (eR HO286 ho0 hb)
         replace BK222 := am_ (blk_below (qK BK222) hb)
         replace BK264 := am_ (blk_below (qK BK264) hb)
         replace HB := am_ (below_step (qB HB) hb)
         (try clear hb ho0)
         refine hK.out _ _ (cz7 BK264.out) (fun hHeld => ?_)
         clear hK K
         refine norm_ (a' := ?_) ?_ ?_
         rotate_left
         ·
          show Act.put _ (some 104) _ = _
          exact ap_
         refine one_ (i := 9) (N := some 109) #[ii,ii,ii,ii,ii,ii,ii,ii,ii,ii,oo,ii,ii,oo,ii,ii,oo,oo] rfl rfl (one_of HT_.out (by kernel_rfl)) (by decide) (fun K hK => ?_)
         refine Kd.R_lit_step (Kd.int .u8) _ 5 ?hg (N := 109) ?hd (xs := ([(Int.tmod a0_13 256) % 256] : List Int)) (inner := [.int .u8 ((Int.tmod a0_13 256) % 256)]) (ok := fun _ => True) (okp := fun _ => True) ?hr ?hp (fun _ hk => hk) trivial (Below.refl _ _) (Nat.le_refl _) (by simp) ?_; (case hd => rfl); (case hg => rfl); (case hr => first | (go_simp; done) | (go_simp; rfl)); (case hp => exact (Reps.one (show Kd.M (Kd.int .u8) _ _ _ ((Int.tmod a0_13 256) % 256) [.int .u8 ((Int.tmod a0_13 256) % 256)] from rfl) (Reps.none _ _)))
         intro v291 w121 ho122 hb hg_ hnew_
         clear hg_ hnew_
         (first | rw [← Ny290.out] at ho122 | (simp only [Int.reduceToNat] at ho122; rw [← Ny290.out] at ho122))
         have HO292 := am_ (Kd.R_lower (Kd.R_new' (Kd.R_new' (Kd.R_new' (Kd.R_new' (Kd.R_new' (Kd.R_new' ho122 (Kd.R_lt (qR HO271))) (Kd.R_lt (qR HO277))) (Kd.R_lt (qR HO280))) (Kd.R_lt (qR HO283))) (Kd.R_lt (qR HO286))) (Kd.R_lt (qR HO289))) (below_size (qB HB)))
         replace HO271 := am_ (eR HO271 ho122 hb)
         replace HO277 := am_ (eR HO277 ho122 hb)
         replace HO280 := am_ (eR HO280 ho122 hb)
         replace HO283 := am_ (eR HO283 ho122 hb)
         replace HO286 := am_ (eR HO286 ho122 hb)
         replace HO289 := am_ (eR HO289 ho122 hb)
         replace BK222 := am_ (blk_below (qK BK222) hb)
         replace BK264 := am_ (blk_below (qK BK264) hb)
         replace HB := am_ (below_step (qB HB) hb)
         clear hb ho122
         refine hK.out _ _ (cz7 BK264.out) (fun hHeld => ?_)
         clear hK K
         refine norm_ (a' := ?_) ?_ ?_
         rotate_left
         ·
          show Act.put _ (some 109) _ = _
          exact ap_
         exact norm_ (by simp only [putAll, Act.put, List.setIfInBounds_toArray, List.set_cons_zero, List.set_cons_succ]) (hCont (v288, v291) _ ⟨hHeld, (tR (Kd.R_mono HO271.out (fun _ hk => ⟨hk.1.1.1.1.1, ⟨hk.1.1.1.1.2, ⟨hk.1.1.1.2, ⟨hk.1.1.2, ⟨hk.1.2, hk.2⟩⟩⟩⟩⟩))), (tR (Kd.R_mono HO277.out (fun _ hk => ⟨hk.1.1.1.1.1, ⟨hk.1.1.1.1.2, ⟨hk.1.1.1.2, ⟨hk.1.1.2, ⟨hk.1.2, hk.2⟩⟩⟩⟩⟩))), (tR (Kd.R_mono HO280.out (fun _ hk => ⟨hk.1.1.1.1.1, ⟨hk.1.1.1.1.2, ⟨hk.1.1.1.2, ⟨hk.1.1.2, ⟨hk.1.2, hk.2⟩⟩⟩⟩⟩))), (tR (Kd.R_mono HO283.out (fun _ hk => ⟨hk.1.1.1.1.1.2, ⟨hk.1.1.1.1.2, ⟨hk.1.1.1.2, ⟨hk.1.1.2, ⟨hk.1.2, hk.2⟩⟩⟩⟩⟩))), (tR (Kd.R_mono HO286.out (fun _ hk => ⟨hk.1.1.1.1.1.2, ⟨hk.1.1.1.1.2, ⟨hk.1.1.1.2, ⟨hk.1.1.2, ⟨hk.1.2, hk.2⟩⟩⟩⟩⟩))), (tR (Kd.R_mono HO289.out (fun _ hk => ⟨hk.1.1.1.1.1.2, ⟨hk.1.1.1.1.2, ⟨hk.1.1.1.2, ⟨hk.1.1.2, ⟨hk.1.2, hk.2⟩⟩⟩⟩⟩))), (tR (Kd.R_mono HO292.out (fun _ hk => ⟨hk.1.1.1.1.1.2, ⟨hk.1.1.1.1.2, ⟨hk.1.1.1.2, ⟨hk.1.1.2, ⟨hk.1.2, hk.2⟩⟩⟩⟩⟩))), (qK BK222), (qK BK264), (qB HB)⟩)
        ·
         skip
         refine Kd.R_lit_step (Kd.int .u8) _ 5 ?hg (N := 109) ?hd (xs := ([(Int.tmod a0_13 256) % 256] : List Int)) (inner := [.int .u8 ((Int.tmod a0_13 256) % 256)]) (ok := fun _ => True) (okp := fun _ => True) ?hr ?hp (fun _ hk => hk) trivial (Below.refl _ _) (Nat.le_refl _) (by simp) ?_; (case hd => rfl); (case hg => rfl); (case hr => first | (go_simp; done) | (go_simp; rfl)); (case hp => exact (Reps.one (show Kd.M (Kd.int .u8) _ _ _ ((Int.tmod a0_13 256) % 256) [.int .u8 ((Int.tmod a0_13 256) % 256)] from rfl) (Reps.none _ _)))
         intro v291 w120 ho121 hb hg_ hnew_
         clear hg_ hnew_
         (first | rw [← Ny290.out] at ho121 | (simp only [Int.reduceToNat] at ho121; rw [← Ny290.out] at ho121))
         have HO292 := am_ (Kd.R_lower (Kd.R_new' (Kd.R_new' (Kd.R_new' (Kd.R_new' (Kd.R_new' ho121 (Kd.R_lt (qR HO271))) (Kd.R_lt (qR HO277))) (Kd.R_lt (qR HO280))) (Kd.R_lt (qR HO283))) (Kd.R_lt (qR HO286))) (below_size (qB HB)))
         replace HO271 := am_ (eR HO271 ho121 hb)
         replace HO277 := am_ (eR HO277 ho121 hb)
         replace HO280 := am_ (eR HO280 ho121 hb)
         replace HO283 := am_ (eR HO283 ho121 hb)
         replace HO286 := am_ (eR HO286 ho121 hb)
         replace BK222 := am_ (blk_below (qK BK222) hb)
         replace BK264 := am_ (blk_below (qK BK264) hb)
         replace HB := am_ (below_step (qB HB) hb)
         clear hb ho121
         refine hK.out _ _ (cz7 BK264.out) (fun hHeld => ?_)
         clear hK K
         refine norm_ (a' := ?_) ?_ ?_
         rotate_left
         ·
          show Act.put _ (some 109) _ = _
          exact ap_
         refine one_ (i := 4) (N := some 104) #[ii,ii,ii,ii,ii,ii,ii,ii,ii,ii,oo,ii,ii,oo,ii,ii,oo,oo] rfl rfl (one_of HT_.out (by kernel_rfl)) (by decide) (fun K hK => ?_)
         refine goes_ Try.func75 (by kernel_rfl) rfl #[.slice Ao118 t284.length co118, .int .i64 (wrap64 (Int.tdiv a0_13 256))] (by rfl) rfl rfl la_ ?_
         with_reducible refine (spec_PutWord.calls _ _ t284 (wrap64 (Int.tdiv a0_13 256)) t287 _ ?side1 ?side2 A100.out).mono ?_
         (case side1 => exact qC ((Kd.R_reads' HO286.out).2.2))
         (case side2 => exact (Kd.R_reads' HO286.out).2.1)
         rintro e w122 ⟨v288, rfl, ho0, hb⟩
         refine ⟨_, rfl, ?_⟩
         have HO289 := am_ (Kd.R_lower (Kd.R_new' (Kd.R_new' (Kd.R_new' (Kd.R_new' (Kd.R_new' (Kd.R_new' ho0 (Kd.R_lt (qR HO271))) (Kd.R_lt (qR HO277))) (Kd.R_lt (qR HO280))) (Kd.R_lt (qR HO283))) (Kd.R_lt (qR HO286))) (Kd.R_lt (qR HO292))) (below_size (qB HB)))
         replace HO271 := am_ (eR HO271 ho0 hb)
         replace HO277 := am_ (eR HO277 ho0 hb)
         replace HO280 := am_ (eR HO280 ho0 hb)
         replace HO283 := am_ (eR HO283 ho0 hb)
         replace HO286 := am_ (eR HO286 ho0 hb)
         replace HO292 := am_ (eR HO292 ho0 hb)
         replace BK222 := am_ (blk_below (qK BK222) hb)
         replace BK264 := am_ (blk_below (qK BK264) hb)
         replace HB := am_ (below_step (qB HB) hb)
         (try clear hb ho0)
         refine hK.out _ _ (cz7 BK264.out) (fun hHeld => ?_)
         clear hK K
         refine norm_ (a' := ?_) ?_ ?_
         rotate_left
         ·
          show Act.put _ (some 104) _ = _
          exact ap_
         exact norm_ (by simp only [putAll, Act.put, List.setIfInBounds_toArray, List.set_cons_zero, List.set_cons_succ]) (hCont (v288, v291) _ ⟨hHeld, (tR (Kd.R_mono HO271.out (fun _ hk => ⟨hk.1.1.1.1.1, ⟨hk.1.1.1.1.2, ⟨hk.1.1.1.2, ⟨hk.1.1.2, ⟨hk.2, hk.1.2⟩⟩⟩⟩⟩))), (tR (Kd.R_mono HO277.out (fun _ hk => ⟨hk.1.1.1.1.1, ⟨hk.1.1.1.1.2, ⟨hk.1.1.1.2, ⟨hk.1.1.2, ⟨hk.2, hk.1.2⟩⟩⟩⟩⟩))), (tR (Kd.R_mono HO280.out (fun _ hk => ⟨hk.1.1.1.1.1, ⟨hk.1.1.1.1.2, ⟨hk.1.1.1.2, ⟨hk.1.1.2, ⟨hk.2, hk.1.2⟩⟩⟩⟩⟩))), (tR (Kd.R_mono HO283.out (fun _ hk => ⟨hk.1.1.1.1.1.2, ⟨hk.1.1.1.1.2, ⟨hk.1.1.1.2, ⟨hk.1.1.2, ⟨hk.2, hk.1.2⟩⟩⟩⟩⟩))), (tR (Kd.R_mono HO286.out (fun _ hk => ⟨hk.1.1.1.1.1.2, ⟨hk.1.1.1.1.2, ⟨hk.1.1.1.2, ⟨hk.1.1.2, ⟨hk.2, hk.1.2⟩⟩⟩⟩⟩))), (tR (Kd.R_mono HO289.out (fun _ hk => ⟨hk.1.1.1.1.1.2, ⟨hk.1.1.1.1.2, ⟨hk.1.1.1.2, ⟨hk.1.1.2, ⟨hk.1.2, hk.2⟩⟩⟩⟩⟩))), (tR (Kd.R_mono HO292.out (fun _ hk => ⟨hk.1.1.1.1.1.2, ⟨hk.1.1.1.1.2, ⟨hk.1.1.1.2, ⟨hk.1.1.2, ⟨hk.1.2, hk.2⟩⟩⟩⟩⟩))), (qK BK222), (qK BK264), (qB HB)⟩)
       rintro ⟨v288, v291⟩ w123 ⟨hS_, h0_, h1_, h2_, h3_, h4_, h5_, h6_, h7_, h8_, h9_⟩
       have n0_ : Aside0 (Kd.R (Kd.int .u8) 5 w123 w.heap.size (fun k_ => some k_ ≠ (.slice Ao113 y275.length co113 : Value).ownBlock ∧ some k_ ≠ (.slice Ao114 y278.length co114 : Value).ownBlock ∧ some k_ ≠ (.slice Ao116 t281.length co116 : Value).ownBlock ∧ some k_ ≠ (.slice Ao118 t284.length co118 : Value).ownBlock ∧ some k_ ≠ (v288 : Value).ownBlock ∧ some k_ ≠ (v291 : Value).ownBlock) v270 y269) := ⟨h0_⟩
       have n1_ : Aside0 (Kd.R (Kd.int .u8) 5 w123 w.heap.size (fun k_ => some k_ ≠ (v270 : Value).ownBlock ∧ some k_ ≠ (.slice Ao114 y278.length co114 : Value).ownBlock ∧ some k_ ≠ (.slice Ao116 t281.length co116 : Value).ownBlock ∧ some k_ ≠ (.slice Ao118 t284.length co118 : Value).ownBlock ∧ some k_ ≠ (v288 : Value).ownBlock ∧ some k_ ≠ (v291 : Value).ownBlock) (.slice Ao113 y275.length co113) y275) := ⟨h1_⟩
       have n2_ : Aside0 (Kd.R (Kd.int .u8) 5 w123 w.heap.size (fun k_ => some k_ ≠ (v270 : Value).ownBlock ∧ some k_ ≠ (.slice Ao113 y275.length co113 : Value).ownBlock ∧ some k_ ≠ (.slice Ao116 t281.length co116 : Value).ownBlock ∧ some k_ ≠ (.slice Ao118 t284.length co118 : Value).ownBlock ∧ some k_ ≠ (v288 : Value).ownBlock ∧ some k_ ≠ (v291 : Value).ownBlock) (.slice Ao114 y278.length co114) y278) := ⟨h2_⟩
       have n3_ : Aside0 (Kd.R (Kd.int .u8) 5 w123 w.heap.size (fun k_ => some k_ ≠ (v270 : Value).ownBlock ∧ some k_ ≠ (.slice Ao113 y275.length co113 : Value).ownBlock ∧ some k_ ≠ (.slice Ao114 y278.length co114 : Value).ownBlock ∧ some k_ ≠ (.slice Ao118 t284.length co118 : Value).ownBlock ∧ some k_ ≠ (v288 : Value).ownBlock ∧ some k_ ≠ (v291 : Value).ownBlock) (.slice Ao116 t281.length co116) t281) := ⟨h3_⟩
       have n4_ : Aside0 (Kd.R (Kd.int .u8) 5 w123 w.heap.size (fun k_ => some k_ ≠ (v270 : Value).ownBlock ∧ some k_ ≠ (.slice Ao113 y275.length co113 : Value).ownBlock ∧ some k_ ≠ (.slice Ao114 y278.length co114 : Value).ownBlock ∧ some k_ ≠ (.slice Ao116 t281.length co116 : Value).ownBlock ∧ some k_ ≠ (v288 : Value).ownBlock ∧ some k_ ≠ (v291 : Value).ownBlock) (.slice Ao118 t284.length co118) t284) := ⟨h4_⟩
       have n5_ : Aside0 (Kd.R (Kd.int .u8) 5 w123 w.heap.size (fun k_ => some k_ ≠ (v270 : Value).ownBlock ∧ some k_ ≠ (.slice Ao113 y275.length co113 : Value).ownBlock ∧ some k_ ≠ (.slice Ao114 y278.length co114 : Value).ownBlock ∧ some k_ ≠ (.slice Ao116 t281.length co116 : Value).ownBlock ∧ some k_ ≠ (.slice Ao118 t284.length co118 : Value).ownBlock ∧ some k_ ≠ (v291 : Value).ownBlock) v288 t287) := ⟨h5_⟩
       have n6_ : Aside0 (Kd.R (Kd.int .u8) 5 w123 w.heap.size (fun k_ => some k_ ≠ (v270 : Value).ownBlock ∧ some k_ ≠ (.slice Ao113 y275.length co113 : Value).ownBlock ∧ some k_ ≠ (.slice Ao114 y278.length co114 : Value).ownBlock ∧ some k_ ≠ (.slice Ao116 t281.length co116 : Value).ownBlock ∧ some k_ ≠ (.slice Ao118 t284.length co118 : Value).ownBlock ∧ some k_ ≠ (v288 : Value).ownBlock) v291 y290) := ⟨h6_⟩
       have n7_ : Aside0 (w123.heap[gb222]? = some (.cells #[.int .i64 a0_0, .int .i64 a0_1, .string a0_2, .int .i64 a0_3, .int .i64 a0_4, .int .i64 a0_5, .string a0_6, .int .i64 a0_7, .int .i64 a0_8, .int .i64 a0_9, .string a0_10, .int .i64 a0_11, .int .i64 a0_12, .int .i64 a0_13, .int .i64 a0_14, .int .i64 a0_15] 48 (0, 0))) := ⟨h7_⟩
       have n8_ : Aside0 (w123.heap[gb264]? = some (.cells #[.int .i64 a0_9, .string a0_10, .int .i64 a0_11, .int .i64 a0_12, .int .i64 a0_13, .int .i64 a0_14, .int .i64 a0_15] 46 (0, 0))) := ⟨h8_⟩
       have n9_ : Aside0 (Below w.heap.size w w123) := ⟨h9_⟩
       clear HO271
       clear HO277
       clear HO280
       clear HO283
       clear HO286
       clear BK222
       clear BK264
       clear HB
       clear h0_ h1_ h2_ h3_ h4_ h5_ h6_ h7_ h8_ h9_
       have HO271 := n0_
       have HO277 := n1_
       have HO280 := n2_
       have HO283 := n3_
       have HO286 := n4_
       have HO289 := n5_
       have HO292 := n6_
       have BK222 := n7_
       have BK264 := n8_
       have HB := n9_
       clear n0_ n1_ n2_ n3_ n4_ n5_ n6_ n7_ n8_ n9_
       have hHeld : w123.cell? ⟨gb264, 0, none⟩ = some (.int .i64 a0_9) ∧ w123.cell? ⟨gb264, 1, none⟩ = some (.string a0_10) ∧ w123.cell? ⟨gb264, 2, none⟩ = some (.int .i64 a0_11) ∧ w123.cell? ⟨gb264, 3, none⟩ = some (.int .i64 a0_12) ∧ w123.cell? ⟨gb264, 4, none⟩ = some (.int .i64 a0_13) ∧ w123.cell? ⟨gb264, 5, none⟩ = some (.int .i64 a0_14) ∧ w123.cell? ⟨gb264, 6, none⟩ = some (.int .i64 a0_15) := hS_
       obtain ⟨Ao125, co125, eo125⟩ := Kd.R_slice HO292.out
       (first | subst eo125 | (injection eo125 with f1_ f2_ f3_; have f4_ := f1_.symm; have f5_ := f3_.symm; clear f1_ f2_ f3_; subst f4_; subst f5_))
       refine norm_ (a' := ?_) ?_ ?_
       rotate_left
       ·
        simp only [putAll, Act.put, List.setIfInBounds_toArray, List.set_cons_zero, List.set_cons_succ]
        rfl
       refine one_ (i := 10) (N := some 110) #[ii,ii,ii,ii,ii,ii,ii,ii,ii,ii,ii,ii,ii,oo,ii,ii,oo,oo] rfl rfl (one_of HT_.out (by kernel_rfl)) (by decide) (fun K hK => ?_)
       refine Kd.R_append_rows_step (Kd.int .u8) (w0 := w) w.heap.size (by rfl) (.tmp 104) (.tmp 109) 22 5 (.int .u8 0) 1 rfl Try.underlying22 info5 rfl (by decide) (by omega) v288 t287 y290 _ _ _ (fun k_ => some k_ ≠ (v270 : Value).ownBlock ∧ some k_ ≠ (.slice Ao113 y275.length co113 : Value).ownBlock ∧ some k_ ≠ (.slice Ao114 y278.length co114 : Value).ownBlock ∧ some k_ ≠ (.slice Ao116 t281.length co116 : Value).ownBlock ∧ some k_ ≠ (.slice Ao118 t284.length co118 : Value).ownBlock ∧ some k_ ≠ (.slice Ao125 y290.length co125 : Value).ownBlock) (fun _ => False) rfl rfl ?aO ?aR (fun _ _ h => h) (fun _ h => h.elim) ?aF ?aB ?aS ?aL ?_
       (case aR => exact qC ((Kd.R_reads' HO292.out).2.2))
       (case aB => exact (qB HB))
       (case aF => exact (fun k_ hk => ⟨Kd.fresh' (Kd.R_lt (qR HO271)) k_ hk, Kd.fresh' (Kd.R_lt (qR HO277)) k_ hk, Kd.fresh' (Kd.R_lt (qR HO280)) k_ hk, Kd.fresh' (Kd.R_lt (qR HO283)) k_ hk, Kd.fresh' (Kd.R_lt (qR HO286)) k_ hk, Kd.fresh' (Kd.R_lt (qR HO292)) k_ hk⟩))
       (case aO => exact (qR HO289))
       (case aS => exact (below_size (qB HB)))
       (case aL => have := LMc101.out; omega)
       intro v294 w124 ho hb hg hat
       rw [← Ny293.out] at ho
       replace BK222 := am_ (blk_grown (qK BK222) hg (Kd.R_ne HO289.out BK222.out (by decide)))
       replace BK264 := am_ (blk_grown (qK BK264) hg (Kd.R_ne HO289.out BK264.out (by decide)))
       replace HO271 := am_ (Kd.R_after (ok := (fun k_ => some k_ ≠ (.slice Ao113 y275.length co113 : Value).ownBlock ∧ some k_ ≠ (.slice Ao114 y278.length co114 : Value).ownBlock ∧ some k_ ≠ (.slice Ao116 t281.length co116 : Value).ownBlock ∧ some k_ ≠ (.slice Ao118 t284.length co118 : Value).ownBlock ∧ some k_ ≠ (.slice Ao125 y290.length co125 : Value).ownBlock)) (tR (Kd.R_mono HO271.out (fun _ hk => ⟨⟨hk.1, ⟨hk.2.1, ⟨hk.2.2.1, ⟨hk.2.2.2.1, hk.2.2.2.2.2⟩⟩⟩⟩, hk.2.2.2.2.1⟩))) hg hat)
       replace HO277 := am_ (Kd.R_after (ok := (fun k_ => some k_ ≠ (v270 : Value).ownBlock ∧ some k_ ≠ (.slice Ao114 y278.length co114 : Value).ownBlock ∧ some k_ ≠ (.slice Ao116 t281.length co116 : Value).ownBlock ∧ some k_ ≠ (.slice Ao118 t284.length co118 : Value).ownBlock ∧ some k_ ≠ (.slice Ao125 y290.length co125 : Value).ownBlock)) (tR (Kd.R_mono HO277.out (fun _ hk => ⟨⟨hk.1, ⟨hk.2.1, ⟨hk.2.2.1, ⟨hk.2.2.2.1, hk.2.2.2.2.2⟩⟩⟩⟩, hk.2.2.2.2.1⟩))) hg hat)
       replace HO280 := am_ (Kd.R_after (ok := (fun k_ => some k_ ≠ (v270 : Value).ownBlock ∧ some k_ ≠ (.slice Ao113 y275.length co113 : Value).ownBlock ∧ some k_ ≠ (.slice Ao116 t281.length co116 : Value).ownBlock ∧ some k_ ≠ (.slice Ao118 t284.length co118 : Value).ownBlock ∧ some k_ ≠ (.slice Ao125 y290.length co125 : Value).ownBlock)) (tR (Kd.R_mono HO280.out (fun _ hk => ⟨⟨hk.1, ⟨hk.2.1, ⟨hk.2.2.1, ⟨hk.2.2.2.1, hk.2.2.2.2.2⟩⟩⟩⟩, hk.2.2.2.2.1⟩))) hg hat)
       replace HO283 := am_ (Kd.R_after (ok := (fun k_ => some k_ ≠ (v270 : Value).ownBlock ∧ some k_ ≠ (.slice Ao113 y275.length co113 : Value).ownBlock ∧ some k_ ≠ (.slice Ao114 y278.length co114 : Value).ownBlock ∧ some k_ ≠ (.slice Ao118 t284.length co118 : Value).ownBlock ∧ some k_ ≠ (.slice Ao125 y290.length co125 : Value).ownBlock)) (tR (Kd.R_mono HO283.out (fun _ hk => ⟨⟨hk.1, ⟨hk.2.1, ⟨hk.2.2.1, ⟨hk.2.2.2.1, hk.2.2.2.2.2⟩⟩⟩⟩, hk.2.2.2.2.1⟩))) hg hat)
       replace HO286 := am_ (Kd.R_after (ok := (fun k_ => some k_ ≠ (v270 : Value).ownBlock ∧ some k_ ≠ (.slice Ao113 y275.length co113 : Value).ownBlock ∧ some k_ ≠ (.slice Ao114 y278.length co114 : Value).ownBlock ∧ some k_ ≠ (.slice Ao116 t281.length co116 : Value).ownBlock ∧ some k_ ≠ (.slice Ao125 y290.length co125 : Value).ownBlock)) (tR (Kd.R_mono HO286.out (fun _ hk => ⟨⟨hk.1, ⟨hk.2.1, ⟨hk.2.2.1, ⟨hk.2.2.2.1, hk.2.2.2.2.2⟩⟩⟩⟩, hk.2.2.2.2.1⟩))) hg hat)
       replace HO292 := am_ (Kd.R_after (ok := (fun k_ => some k_ ≠ (v270 : Value).ownBlock ∧ some k_ ≠ (.slice Ao113 y275.length co113 : Value).ownBlock ∧ some k_ ≠ (.slice Ao114 y278.length co114 : Value).ownBlock ∧ some k_ ≠ (.slice Ao116 t281.length co116 : Value).ownBlock ∧ some k_ ≠ (.slice Ao118 t284.length co118 : Value).ownBlock)) (tR (Kd.R_mono HO292.out (fun _ hk => ⟨⟨hk.1, ⟨hk.2.1, ⟨hk.2.2.1, ⟨hk.2.2.2.1, hk.2.2.2.2.1⟩⟩⟩⟩, hk.2.2.2.2.2⟩))) hg hat)
       replace HB := am_ (hb)
       have HO295 := am_ (ho)
       clear HO289
       clear ho hb hg hat
       obtain ⟨Ao126, co126, eo126⟩ := Kd.R_slice HO295.out
       (first | subst eo126 | (injection eo126 with f1_ f2_ f3_; have f4_ := f1_.symm; have f5_ := f3_.symm; clear f1_ f2_ f3_; subst f4_; subst f5_))
       refine hK.out _ _ (cz7 BK264.out) (fun hHeld => ?_)
       clear hK K
       refine norm_ (a' := ?_) ?_ ?_
       rotate_left
       ·
        show Act.put _ (some 110) _ = _
        exact ap_
       refine one_ (i := 13) (N := some 113) #[ii,ii,ii,ii,ii,ii,ii,ii,ii,ii,ii,ii,ii,ii,ii,ii,oo,oo] rfl rfl (one_of HT_.out (by kernel_rfl)) (by decide) (fun K hK => ?_)
       refine goes_ Try.func75 (by kernel_rfl) rfl #[.slice Ao126 y293.length co126, .int .i64 a0_14] (by rfl) rfl rfl la_ ?_
       with_reducible refine (spec_PutWord.calls _ _ y293 a0_14 t296 _ ?side1 ?side2 A102.out).mono ?_
       (case side1 => exact qC ((Kd.R_reads' HO295.out).2.2))
       (case side2 => exact (Kd.R_reads' HO295.out).2.1)
       rintro e w127 ⟨v297, rfl, ho0, hb⟩
       refine ⟨_, rfl, ?_⟩
       have HO298 := am_ (Kd.R_lower (Kd.R_new' (Kd.R_new' (Kd.R_new' (Kd.R_new' (Kd.R_new' (Kd.R_new' (Kd.R_new' ho0 (Kd.R_lt (qR HO271))) (Kd.R_lt (qR HO277))) (Kd.R_lt (qR HO280))) (Kd.R_lt (qR HO283))) (Kd.R_lt (qR HO286))) (Kd.R_lt (qR HO292))) (Kd.R_lt (qR HO295))) (below_size (qB HB)))
       replace HO271 := am_ (eR HO271 ho0 hb)
       replace HO277 := am_ (eR HO277 ho0 hb)
       replace HO280 := am_ (eR HO280 ho0 hb)
       replace HO283 := am_ (eR HO283 ho0 hb)
       replace HO286 := am_ (eR HO286 ho0 hb)
       replace HO292 := am_ (eR HO292 ho0 hb)
       replace HO295 := am_ (eR HO295 ho0 hb)
       replace BK222 := am_ (blk_below (qK BK222) hb)
       replace BK264 := am_ (blk_below (qK BK264) hb)
       replace HB := am_ (below_step (qB HB) hb)
       (try clear hb ho0)
       obtain ⟨Ao128, co128, eo128⟩ := Kd.R_slice HO298.out
       (first | subst eo128 | (injection eo128 with f1_ f2_ f3_; have f4_ := f1_.symm; have f5_ := f3_.symm; clear f1_ f2_ f3_; subst f4_; subst f5_))
       refine hK.out _ _ (cz7 BK264.out) (fun hHeld => ?_)
       clear hK K
       refine norm_ (a' := ?_) ?_ ?_
       rotate_left
       ·
        show Act.put _ (some 113) _ = _
        exact ap_
       refine one_ (i := 16) (N := some 116) #[ii,ii,ii,ii,ii,ii,ii,ii,ii,ii,ii,ii,ii,ii,ii,ii,ii,oo] rfl rfl (one_of HT_.out (by kernel_rfl)) (by decide) (fun K hK => ?_)
       refine goes_ Try.func75 (by kernel_rfl) rfl #[.slice Ao128 t296.length co128, .int .i64 a0_15] (by rfl) rfl rfl la_ ?_
       with_reducible refine (spec_PutWord.calls _ _ t296 a0_15 t299 _ ?side1 ?side2 A103.out).mono ?_
       (case side1 => exact qC ((Kd.R_reads' HO298.out).2.2))
       (case side2 => exact (Kd.R_reads' HO298.out).2.1)
       rintro e w129 ⟨v300, rfl, ho0, hb⟩
       refine ⟨_, rfl, ?_⟩
       have HO301 := am_ (Kd.R_lower (Kd.R_new' (Kd.R_new' (Kd.R_new' (Kd.R_new' (Kd.R_new' (Kd.R_new' (Kd.R_new' (Kd.R_new' ho0 (Kd.R_lt (qR HO271))) (Kd.R_lt (qR HO277))) (Kd.R_lt (qR HO280))) (Kd.R_lt (qR HO283))) (Kd.R_lt (qR HO286))) (Kd.R_lt (qR HO292))) (Kd.R_lt (qR HO295))) (Kd.R_lt (qR HO298))) (below_size (qB HB)))
       replace HO271 := am_ (eR HO271 ho0 hb)
       replace HO277 := am_ (eR HO277 ho0 hb)
       replace HO280 := am_ (eR HO280 ho0 hb)
       replace HO283 := am_ (eR HO283 ho0 hb)
       replace HO286 := am_ (eR HO286 ho0 hb)
       replace HO292 := am_ (eR HO292 ho0 hb)
       replace HO295 := am_ (eR HO295 ho0 hb)
       replace HO298 := am_ (eR HO298 ho0 hb)
       replace BK222 := am_ (blk_below (qK BK222) hb)
       replace BK264 := am_ (blk_below (qK BK264) hb)
       replace HB := am_ (below_step (qB HB) hb)
       (try clear hb ho0)
       refine hK.out _ _ (cz7 BK264.out) (fun hHeld => ?_)
       clear hK K
       refine norm_ (a' := ?_) ?_ ?_
       rotate_left
       ·
        show Act.put _ (some 116) _ = _
        exact ap_
       refine pure_ (i := 17) (N := some 2) (v := ?_) (a' := ?_) #[ii,ii,ii,ii,ii,ii,ii,ii,ii,ii,ii,ii,ii,ii,ii,ii,ii,ii] rfl rfl (any_of HT_.out (by kernel_rfl)) (fun _ _ _ h => h) (Or.inl ⟨by rfl, ?_⟩) ?_ ?_
       rotate_left
       ·
        intro w'
        go_simp
        with_reducible rfl
       rotate_left
       ·
        exact ap_
       refine done_ (done_of HT_.out (by kernel_rfl)) ?_
       try go_wp2
       go_ret
       exact ⟨_, by first | rfl | (simp [errW_none, errW_some] <;> rfl) | (simp [*, errW_none, errW_some] <;> rfl), by (with_reducible repeat (first | apply Kd.R_alloc | apply Kd.R_drewN | apply Kd.R_drew)); exact Kd.R_mono HO301.out (fun _ hk => trivial), qB HB⟩
      ·
       rw [if_neg c101] at H
       exact absurd H (by simp)
     ·
      rw [if_neg c97] at H
      exact absurd H (by simp)

end Go.Proofs.Ytahfemlfdpbkkaa.PFnExactPutCtl
