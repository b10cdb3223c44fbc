-- Written by a program of this session (myprint.py, over the kit's print): contracts of FnExactGetItem
import Derived.Test.YtahfemlfdpbkkaaPFnExactGetItemx0
import Derived.Test.YtahfemlfdpbkkaaPFnExactGetItemx1
import Derived.Test.YtahfemlfdpbkkaaPFnExactGetItemx2
import Derived.Test.YtahfemlfdpbkkaaPFnExactGetItemx4
import Derived.Test.YtahfemlfdpbkkaaPFnExactGetItemx5
namespace Go.Proofs.Ytahfemlfdpbkkaa.PFnExactGetItem
open Go.RowKit Go.Proofs.YtahfemlfdpbkkaaW.PrintWords Go.Proofs.YtahfemlfdpbkkaaW.PrintLast Go.Proofs.YtahfemlfdpbkkaaW.PrintMore Go.Proofs.YtahfemlfdpbkkaaV
attribute [local go_sem] max2_int min2_int max_two min_two max_three min_three max_four min_four   -- for this text's walks alone
set_option linter.unusedVariables false
set_option linter.unusedSimpArgs false

attribute [local go_sem high] eqA45 eqA46
/-! ### spec_PutItem: function 25 -/
mutual
def spec_PutItem.j0 : Nat → Bool → Int → ByteArray → Int → Int → Int → ByteArray → Int → Int → Option (List Int)
 | 0, _, _, _, _, _, _, _, _, _ => none
 | k + 1, x25, x148000, x148001, x148002, x148003, x148004, x148005, x148006, x148007 => if x25 = true then (some (([] : List Int))) else ((spec_PutWord.f (([1] : List Int)) x148000).bind fun t155 => ((some (([(x148002) % 256] : List Int) : List Int)).bind fun y158 => (if t155.length + y158.length < 140737488355328 then ((spec_PutText.f k (t155 ++ y158) x148001).bind fun t164 => ((spec_PutWord.f t164 x148003).bind fun t167 => ((spec_PutWord.f t167 (wrap64 (Int.tdiv x148004 256))).bind fun t170 => ((some (([(Int.tmod x148004 256) % 256] : List Int) : List Int)).bind fun y173 => (if t170.length + y173.length < 140737488355328 then ((spec_PutText.f k (t170 ++ y173) x148005).bind fun t179 => ((spec_PutWord.f t179 x148006).bind fun t182 => ((spec_PutWord.f t182 x148007).bind fun t185 => (some t185)))) else (none)))))) else (none))))
def spec_PutItem.j1 : Nat → Bool → Int → ByteArray → Int → Int → Int → Int → Int → Option (List Int)
 | 0, _, _, _, _, _, _, _, _ => none
 | k + 1, x83, x189000, x189001, x189002, x189003, x189004, x189005, x189006 => if x83 = true then (some (([] : List Int))) else ((spec_PutWord.f (([2] : List Int)) x189000).bind fun t196 => ((some (([(x189003) % 256] : List Int) : List Int)).bind fun y199 => (if t196.length + y199.length < 140737488355328 then ((spec_PutText.f k (t196 ++ y199) x189001).bind fun t205 => ((spec_PutWord.f t205 x189002).bind fun t208 => ((spec_PutWord.f t208 (wrap64 (Int.tdiv x189004 256))).bind fun t211 => ((some (([(Int.tmod x189004 256) % 256] : List Int) : List Int)).bind fun y214 => (if t211.length + y214.length < 140737488355328 then ((spec_PutWord.f (t211 ++ y214) x189005).bind fun t220 => ((spec_PutWord.f t220 x189006).bind fun t223 => (some t223))) else (none)))))) else (none))))
end
def spec_PutItem.f (k : Nat) (a0_0 : Int) (a0_1 : Int) (a0_2 : ByteArray) (a0_3 : Int) (a0_4 : Int) (a0_5 : Int) (a0_6 : ByteArray) (a0_7 : Int) (a0_8 : Int) (a0_9 : Int) (a0_10 : ByteArray) (a0_11 : Int) (a0_12 : Int) (a0_13 : Int) (a0_14 : Int) (a0_15 : Int) : Option (List Int) := if a0_0 = 1 then ((spec_AskerOk.f k a0_1 a0_2 a0_3 a0_4 a0_5 a0_6 a0_7 a0_8).bind fun t148 => (if t148 = true then (if (!(a0_9 == 0) || (!(a0_10.toList == ([] : List UInt8)) || (!(a0_11 == 0) || (!(a0_12 == 0) || (!(a0_13 == 0) || (!(a0_14 == 0) || (!(a0_15 == 0)))))))) = true then (spec_PutItem.j0 k true a0_1 a0_2 a0_3 a0_4 a0_5 a0_6 a0_7 a0_8) else (spec_PutItem.j0 k (decide (a0_8 > 65535)) a0_1 a0_2 a0_3 a0_4 a0_5 a0_6 a0_7 a0_8)) else (spec_PutItem.j0 k true a0_1 a0_2 a0_3 a0_4 a0_5 a0_6 a0_7 a0_8))) else (if a0_0 = 2 then ((spec_LineOk.f k a0_9 a0_10 a0_11 a0_12 a0_13 a0_14 a0_15).bind fun t189 => (if t189 = true then (if (!(a0_1 == 0) || (!(a0_2.toList == ([] : List UInt8)) || (!(a0_3 == 0) || (!(a0_4 == 0) || (!(a0_5 == 0) || (!(a0_6.toList == ([] : List UInt8)) || (!(a0_7 == 0) || (!(a0_8 == 0))))))))) = true then (spec_PutItem.j1 k true a0_9 a0_10 a0_11 a0_12 a0_13 a0_14 a0_15) else (spec_PutItem.j1 k (decide (a0_15 > 65535)) a0_9 a0_10 a0_11 a0_12 a0_13 a0_14 a0_15)) else (spec_PutItem.j1 k true a0_9 a0_10 a0_11 a0_12 a0_13 a0_14 a0_15))) else (spec_PutItem.j1 k true a0_9 a0_10 a0_11 a0_12 a0_13 a0_14 a0_15))
theorem spec_PutItem.mono_l : ∀ k, (∀ y0 y1 y2 y3 y4 y5 y6 y7 y8, LeO (spec_PutItem.j0 k y0 y1 y2 y3 y4 y5 y6 y7 y8) (spec_PutItem.j0 (k + 1) y0 y1 y2 y3 y4 y5 y6 y7 y8)) ∧ (∀ y0 y1 y2 y3 y4 y5 y6 y7, LeO (spec_PutItem.j1 k y0 y1 y2 y3 y4 y5 y6 y7) (spec_PutItem.j1 (k + 1) y0 y1 y2 y3 y4 y5 y6 y7))
 | 0 => ⟨fun _ _ _ _ _ _ _ _ _ r h => by simp [spec_PutItem.j0] at h, fun _ _ _ _ _ _ _ _ r h => by simp [spec_PutItem.j1] at h⟩
 | k + 1 => by
  obtain ⟨ih0, ih1⟩ := spec_PutItem.mono_l k
  refine ⟨?_, ?_⟩
  ·
   intro y0 y1 y2 y3 y4 y5 y6 y7 y8
   unfold spec_PutItem.j0
   repeat' first
   | (with_reducible exact ih0 _ _ _ _ _ _ _ _ _)
   | (with_reducible exact ih1 _ _ _ _ _ _ _ _)
   | (with_reducible exact spec_AskerOk.mono _ _ _ _ _ _ _ _ _)
   | (with_reducible exact spec_LineOk.mono _ _ _ _ _ _ _ _)
   | (with_reducible exact spec_PutText.mono _ _ _)
   | (with_reducible exact LeO.refl _)
   | (with_reducible exact LeO.none _)
   | (with_reducible refine LeO.ite ?_ ?_)
   | (with_reducible refine LeO.bind ?_ (fun _ => ?_))
   | exact ih0 _ _ _ _ _ _ _ _ _
   | exact ih1 _ _ _ _ _ _ _ _
   | exact spec_AskerOk.mono _ _ _ _ _ _ _ _ _
   | exact spec_LineOk.mono _ _ _ _ _ _ _ _
   | exact spec_PutText.mono _ _ _
   | exact LeO.none _
   | refine LeO.ite ?_ ?_
   | refine LeO.bind ?_ (fun _ => ?_)
  ·
   intro y0 y1 y2 y3 y4 y5 y6 y7
   unfold spec_PutItem.j1
   repeat' first
   | (with_reducible exact ih0 _ _ _ _ _ _ _ _ _)
   | (with_reducible exact ih1 _ _ _ _ _ _ _ _)
   | (with_reducible exact spec_AskerOk.mono _ _ _ _ _ _ _ _ _)
   | (with_reducible exact spec_LineOk.mono _ _ _ _ _ _ _ _)
   | (with_reducible exact spec_PutText.mono _ _ _)
   | (with_reducible exact LeO.refl _)
   | (with_reducible exact LeO.none _)
   | (with_reducible refine LeO.ite ?_ ?_)
   | (with_reducible refine LeO.bind ?_ (fun _ => ?_))
   | exact ih0 _ _ _ _ _ _ _ _ _
   | exact ih1 _ _ _ _ _ _ _ _
   | exact spec_AskerOk.mono _ _ _ _ _ _ _ _ _
   | exact spec_LineOk.mono _ _ _ _ _ _ _ _
   | exact spec_PutText.mono _ _ _
   | exact LeO.none _
   | refine LeO.ite ?_ ?_
   | refine LeO.bind ?_ (fun _ => ?_)
theorem spec_PutItem.mono : ∀ a0 a1 a2 a3 a4 a5 a6 a7 a8 a9 a10 a11 a12 a13 a14 a15 k, LeO (spec_PutItem.f k a0 a1 a2 a3 a4 a5 a6 a7 a8 a9 a10 a11 a12 a13 a14 a15) (spec_PutItem.f (k + 1) a0 a1 a2 a3 a4 a5 a6 a7 a8 a9 a10 a11 a12 a13 a14 a15) := by
 intro a0 a1 a2 a3 a4 a5 a6 a7 a8 a9 a10 a11 a12 a13 a14 a15 k
 obtain ⟨ih0, ih1⟩ := spec_PutItem.mono_l k
 unfold spec_PutItem.f
 repeat' first
   | (with_reducible exact ih0 _ _ _ _ _ _ _ _ _)
   | (with_reducible exact ih1 _ _ _ _ _ _ _ _)
   | (with_reducible exact spec_AskerOk.mono _ _ _ _ _ _ _ _ _)
   | (with_reducible exact spec_LineOk.mono _ _ _ _ _ _ _ _)
   | (with_reducible exact spec_PutText.mono _ _ _)
   | (with_reducible exact LeO.refl _)
   | (with_reducible exact LeO.none _)
   | (with_reducible refine LeO.ite ?_ ?_)
   | (with_reducible refine LeO.bind ?_ (fun _ => ?_))
   | exact ih0 _ _ _ _ _ _ _ _ _
   | exact ih1 _ _ _ _ _ _ _ _
   | exact spec_AskerOk.mono _ _ _ _ _ _ _ _ _
   | exact spec_LineOk.mono _ _ _ _ _ _ _ _
   | exact spec_PutText.mono _ _ _
   | exact LeO.none _
   | refine LeO.ite ?_ ?_
   | refine LeO.bind ?_ (fun _ => ?_)
def spec_PutItem.T5 : Bool × List (List Nat × List Nat) := (true, [([], []), ([], []), ([1], [1]), ([0, 2], [0, 2]), ([], []), ([4], [4]), ([5], [5]), ([6], [6]), ([3, 7, 3], [3, 7]), ([], []), ([9], [9]), ([8, 10, 8], [8, 10]), ([11, 11, 0, 1, 2, 3, 4, 5, 6, 7, 8, 9, 10, 11], [11])])
def spec_PutItem.B5 : List Nat := [0, 0, 2, 7, 0, 16, 48, 112, 255, 0, 512, 2047, 4095]
theorem spec_PutItem.tab5 : rtab .any (opsOf Try.f25 5) = spec_PutItem.T5 := by kernel_rfl
theorem spec_PutItem.bits5 : waitsOk spec_PutItem.T5.2 spec_PutItem.B5 = true := by kernel_rfl
def spec_PutItem.T6 : Bool × List (List Nat × List Nat) := (true, [([], []), ([], []), ([1], [1]), ([0, 2], [0, 2]), ([], []), ([4], [4]), ([5], [5]), ([3, 6, 3], [3, 6]), ([], []), ([8], [8]), ([9], [9]), ([10], [10]), ([11], [11]), ([7, 12, 7], [7, 12]), ([13, 13, 0, 1, 2, 3, 4, 5, 6, 7, 8, 9, 10, 11, 12, 13], [0, 13])])
def spec_PutItem.B6 : List Nat := [0, 0, 2, 7, 0, 16, 48, 127, 0, 256, 768, 1792, 3840, 8191, 16383]
theorem spec_PutItem.tab6 : rtab .any (opsOf Try.f25 6) = spec_PutItem.T6 := by kernel_rfl
theorem spec_PutItem.bits6 : waitsOk spec_PutItem.T6.2 spec_PutItem.B6 = true := by kernel_rfl
def spec_PutItem.T7 : Bool × List (List Nat × List Nat) := (true, [([], []), ([], []), ([1], [1]), ([0, 2], [0, 2]), ([], []), ([4], [4]), ([3, 5, 3], [3, 5]), ([], []), ([7], [7]), ([6, 8, 6], [6, 8]), ([9, 9, 0, 1, 2, 3, 4, 5, 6, 7, 8, 9], [9])])
def spec_PutItem.B7 : List Nat := [0, 0, 2, 7, 0, 16, 63, 0, 128, 511, 1023]
theorem spec_PutItem.tab7 : rtab .any (opsOf Try.f25 7) = spec_PutItem.T7 := by kernel_rfl
theorem spec_PutItem.bits7 : waitsOk spec_PutItem.T7.2 spec_PutItem.B7 = true := by kernel_rfl
def spec_PutItem.T11 : Bool × List (List Nat × List Nat) := (true, [([], []), ([], []), ([1], [1]), ([0, 2], [0, 2]), ([], []), ([4], [4]), ([5], [5]), ([6], [6]), ([3, 7, 3], [3, 7]), ([], []), ([9], [9]), ([8, 10, 8], [8, 10]), ([], []), ([12], [12]), ([11, 13, 11], [11, 13]), ([14, 14, 0, 1, 2, 3, 4, 5, 6, 7, 8, 9, 10, 11, 12, 13, 14], [14])])
def spec_PutItem.B11 : List Nat := [0, 0, 2, 7, 0, 16, 48, 112, 255, 0, 512, 2047, 0, 4096, 16383, 32767]
theorem spec_PutItem.tab11 : rtab .any (opsOf Try.f25 11) = spec_PutItem.T11 := by kernel_rfl
theorem spec_PutItem.bits11 : waitsOk spec_PutItem.T11.2 spec_PutItem.B11 = true := by kernel_rfl
def spec_PutItem.T12 : Bool × List (List Nat × List Nat) := (true, [([], []), ([], []), ([1], [1]), ([2], [2]), ([0, 3], [0, 3]), ([], []), ([5], [5]), ([6], [6]), ([7], [7]), ([8], [8]), ([4, 9, 4], [4, 9]), ([], []), ([11], [11]), ([10, 12, 10], [10, 12]), ([], []), ([14], [14]), ([13, 15, 13], [13, 15]), ([16, 16, 0, 1, 2, 3, 4, 5, 6, 7, 8, 9, 10, 11, 12, 13, 14, 15, 16], [16])])
def spec_PutItem.B12 : List Nat := [0, 0, 2, 6, 15, 0, 32, 96, 224, 480, 1023, 0, 2048, 8191, 0, 16384, 65535, 131071]
theorem spec_PutItem.tab12 : rtab .any (opsOf Try.f25 12) = spec_PutItem.T12 := by kernel_rfl
theorem spec_PutItem.bits12 : waitsOk spec_PutItem.T12.2 spec_PutItem.B12 = true := by kernel_rfl
set_option maxHeartbeats 8000000 in
set_option maxRecDepth 100000 in
theorem spec_PutItem.calls (k : Nat) (a0_0 : Int) (a0_1 : Int) (a0_2 : ByteArray) (a0_3 : Int) (a0_4 : Int) (a0_5 : Int) (a0_6 : ByteArray) (a0_7 : Int) (a0_8 : Int) (a0_9 : Int) (a0_10 : ByteArray) (a0_11 : Int) (a0_12 : Int) (a0_13 : Int) (a0_14 : Int) (a0_15 : Int) (r : List Int) (w : World) (h : spec_PutItem.f k a0_0 a0_1 a0_2 a0_3 a0_4 a0_5 a0_6 a0_7 a0_8 a0_9 a0_10 a0_11 a0_12 a0_13 a0_14 a0_15 = some r) :
  Calls Try.prog 25 #[.agg #[.int .i64 a0_0, .int .i64 a0_1, .string a0_2, .int .i64 a0_3, .int .i64 a0_4, .int .i64 a0_5, .string a0_6, .int .i64 a0_7, .int .i64 a0_8, .int .i64 a0_9, .string a0_10, .int .i64 a0_11, .int .i64 a0_12, .int .i64 a0_13, .int .i64 a0_14, .int .i64 a0_15]] w fun e w' => ∃ v0_ : Value, e = .returned (v0_) ∧ Kd.R (Kd.int .u8) 5 w' w.heap.size (fun _ => True) v0_ r ∧ Below w.heap.size w w' := by
 have hu48 := Try.underlying48
 have hu45 := Try.underlying45
 have hu46 := Try.underlying46
 have HB := Aside0.mk (Below.refl w.heap.size w)
 have H : (if a0_0 = 1 then ((spec_AskerOk.f k a0_1 a0_2 a0_3 a0_4 a0_5 a0_6 a0_7 a0_8).bind fun t148 => (if t148 = true then (if (!(a0_9 == 0) || (!(a0_10.toList == ([] : List UInt8)) || (!(a0_11 == 0) || (!(a0_12 == 0) || (!(a0_13 == 0) || (!(a0_14 == 0) || (!(a0_15 == 0)))))))) = true then (spec_PutItem.j0 k true a0_1 a0_2 a0_3 a0_4 a0_5 a0_6 a0_7 a0_8) else (spec_PutItem.j0 k (decide (a0_8 > 65535)) a0_1 a0_2 a0_3 a0_4 a0_5 a0_6 a0_7 a0_8)) else (spec_PutItem.j0 k true a0_1 a0_2 a0_3 a0_4 a0_5 a0_6 a0_7 a0_8))) else (if a0_0 = 2 then ((spec_LineOk.f k a0_9 a0_10 a0_11 a0_12 a0_13 a0_14 a0_15).bind fun t189 => (if t189 = true then (if (!(a0_1 == 0) || (!(a0_2.toList == ([] : List UInt8)) || (!(a0_3 == 0) || (!(a0_4 == 0) || (!(a0_5 == 0) || (!(a0_6.toList == ([] : List UInt8)) || (!(a0_7 == 0) || (!(a0_8 == 0))))))))) = true then (spec_PutItem.j1 k true a0_9 a0_10 a0_11 a0_12 a0_13 a0_14 a0_15) else (spec_PutItem.j1 k (decide (a0_15 > 65535)) a0_9 a0_10 a0_11 a0_12 a0_13 a0_14 a0_15)) else (spec_PutItem.j1 k true a0_9 a0_10 a0_11 a0_12 a0_13 a0_14 a0_15))) else (spec_PutItem.j1 k true a0_9 a0_10 a0_11 a0_12 a0_13 a0_14 a0_15))) = some r := h
 clear h
 have HC2 := Aside0.mk H
 clear H
 go_enter Try.func25, Try.ntmps25
 go_upto_if 9 with (first | ((with_reducible refine gate_dst (N := 1) rfl ?_); refine box_event ?hg (N := 1) ?hd (cs := #[.int .i64 a0_0, .int .i64 a0_1, .string a0_2, .int .i64 a0_3, .int .i64 a0_4, .int .i64 a0_5, .string a0_6, .int .i64 a0_7, .int .i64 a0_8, .int .i64 a0_9, .string a0_10, .int .i64 a0_11, .int .i64 a0_12, .int .i64 a0_13, .int .i64 a0_14, .int .i64 a0_15]) (t := 48) ?hr ?_; (case hd => rfl); (case hg => rfl); (case hr => first | (go_simp; done) | (go_simp; rfl)); intro gb146 hg w3 hbox hb; have BK146 := am_ (hbox); have GW146 := am_ ((gG_ hg (qB HB))); have IGW146 := gI_ GW146; have GE146 := am_ ((gG_ hg (qB HB))); have IGE146 := gI_ GE146; replace HB := am_ (below_step (qB HB) hb); clear hb hbox hg; obtain ⟨z4_0, z4_1, z4_2, z4_3, z4_4, z4_5, z4_6, z4_7, z4_8, z4_9, z4_10, z4_11, z4_12, z4_13, z4_14, z4_15⟩ := cz16 BK146.out; obtain ⟨f4_0, f4_1, f4_2, f4_3, f4_4, f4_5, f4_6, f4_7, f4_8, f4_9, f4_10, f4_11, f4_12, f4_13, f4_14, f4_15⟩ := fz16 BK146.out))
 (try simp only [Act.put, List.setIfInBounds_toArray, List.set_cons_zero, List.set_cons_succ])
 have H := HC2.out
 clear HC2
 by_cases c5 : a0_0 = 1
 ·
  rw [if_pos c5] at H
  have c5b0 : (a0_0 == 1) = true := beq_iff_eq.mpr c5
  have c5b1 : (a0_0 != 1) = false := bne_eq_false_iff_eq.mpr c5
  clear c5
  (first | rw [c5b0] | rw [c5b1] | (simp only [i64_w, i32_w]; rw [c5b0]) | skip)
  have HC6 := Aside0.mk H
  clear H
  obtain ⟨z7_0, z7_1, z7_2, z7_3, z7_4, z7_5, z7_6, z7_7, z7_8, z7_9, z7_10, z7_11, z7_12, z7_13, z7_14, z7_15⟩ := cz16 BK146.out
  obtain ⟨f7_0, f7_1, f7_2, f7_3, f7_4, f7_5, f7_6, f7_7, f7_8, f7_9, f7_10, f7_11, f7_12, f7_13, f7_14, f7_15⟩ := fz16 BK146.out
  go_upto_region 3 with (first | ((with_reducible refine gate_dst (N := 3) rfl ?_); refine box_event ?hg (N := 3) ?hd (cs := #[.int .i64 0, .string (⟨#[]⟩ : ByteArray), .int .i64 0, .int .i64 0, .int .i64 0, .string (⟨#[]⟩ : ByteArray), .int .i64 0, .int .i64 0]) (t := 45) ?hr ?_; (case hd => rfl); (case hg => rfl); (case hr => first | (go_simp; done) | (go_simp; rfl)); intro gb147 hg w8 hbox hb; have BK147 := am_ (hbox); have GW147 := am_ ((gG_ hg (qB HB))); have IGW147 := gI_ GW147; have GE147 := am_ ((gG_ hg (qB HB))); have IGE147 := gI_ GE147; replace HB := am_ (below_step (qB HB) hb); have NB146_147 := am_ ((gN_ hg (qK BK146))); have NB147_146 := am_ ((gM_ hg (qK BK146))); replace BK146 := am_ (blk_below (qK BK146) hb); clear hb hbox hg; have hnb9 := NB147_146.out; have hnc9 := NB146_147.out; obtain ⟨z10_0, z10_1, z10_2, z10_3, z10_4, z10_5, z10_6, z10_7⟩ := cz8 BK147.out; obtain ⟨f10_0, f10_1, f10_2, f10_3, f10_4, f10_5, f10_6, f10_7⟩ := fz8 BK147.out))
  (try simp only [Act.put, List.setIfInBounds_toArray, List.set_cons_zero, List.set_cons_succ])
  go_cut [25] (fun v25 wc => ∃ (kq : Nat) (x25_5 : Bool), v25 = .bool x25_5 ∧ Aside0 (spec_PutItem.j0 kq x25_5 a0_1 a0_2 a0_3 a0_4 a0_5 a0_6 a0_7 a0_8 = some r) ∧ Aside0 (kq ≤ k) ∧ Aside0 (wc.heap[gb146]? = some (.cells #[.int .i64 a0_0, .int .i64 a0_1, .string a0_2, .int .i64 a0_3, .int .i64 a0_4, .int .i64 a0_5, .string a0_6, .int .i64 a0_7, .int .i64 a0_8, .int .i64 a0_9, .string a0_10, .int .i64 a0_11, .int .i64 a0_12, .int .i64 a0_13, .int .i64 a0_14, .int .i64 a0_15] 48 (0, 0))) ∧ Aside0 (wc.heap[gb147]? = some (.cells #[.int .i64 a0_1, .string a0_2, .int .i64 a0_3, .int .i64 a0_4, .int .i64 a0_5, .string a0_6, .int .i64 a0_7, .int .i64 a0_8] 45 (0, 0))) ∧ Aside0 (Below w.heap.size w wc))
  case first =>
   have H := HC6.out
   clear HC6
   obtain ⟨t148, A11, H⟩ := bd_ H
   by_cases c12 : t148 = true
   ·
    subst c12
    rw [if_pos rfl] at H
    by_cases c13 : (!(a0_9 == 0) || (!(a0_10.toList == ([] : List UInt8)) || (!(a0_11 == 0) || (!(a0_12 == 0) || (!(a0_13 == 0) || (!(a0_14 == 0) || (!(a0_15 == 0)))))))) = true
    ·
     rw [if_pos c13] at H
     have c13b0 : (!(a0_9 == 0) || (!(a0_10.toList == ([] : List UInt8)) || (!(a0_11 == 0) || (!(a0_12 == 0) || (!(a0_13 == 0) || (!(a0_14 == 0) || (!(a0_15 == 0)))))))) = true := c13
     (try (have c13b0e := c13b0; simp only [Go.Proofs.YtahfemlfdpbkkaaV.beq_nil, Go.Proofs.YtahfemlfdpbkkaaV.bne_nil] at c13b0e))
     clear c13
     (first | rw [c13b0] | (simp only [i64_w, i32_w]; rw [c13b0]) | skip)
     have H' := Aside0.mk H
     clear H
     have hnb14 := NB147_146.out
     have hnc14 := NB146_147.out
     obtain ⟨z15_0, z15_1, z15_2, z15_3, z15_4, z15_5, z15_6, z15_7⟩ := cz8 BK147.out
     obtain ⟨f15_0, f15_1, f15_2, f15_3, f15_4, f15_5, f15_6, f15_7⟩ := fz8 BK147.out
     go_wp2_with (first | ((with_reducible refine gate_callee (f := 73) rfl ?_); refine goesL_ (some 13) rfl rfl Try.func73 (by kernel_rfl) rfl #[.agg #[.int .i64 a0_1, .string a0_2, .int .i64 a0_3, .int .i64 a0_4, .int .i64 a0_5, .string a0_6, .int .i64 a0_7, .int .i64 a0_8]] rfl la_ ?_; (with_reducible refine (spec_AskerOk.calls k a0_1 a0_2 a0_3 a0_4 a0_5 a0_6 a0_7 a0_8 true _ A11.out).mono ?_); rintro e w16 ⟨rfl, hb⟩; refine ⟨_, rfl, ?_⟩; replace BK146 := am_ (blk_below (g := gb146) (o := .cells #[.int .i64 a0_0, .int .i64 a0_1, .string a0_2, .int .i64 a0_3, .int .i64 a0_4, .int .i64 a0_5, .string a0_6, .int .i64 a0_7, .int .i64 a0_8, .int .i64 a0_9, .string a0_10, .int .i64 a0_11, .int .i64 a0_12, .int .i64 a0_13, .int .i64 a0_14, .int .i64 a0_15] 48 (0, 0)) (by (with_reducible repeat (first | refine blk_drewN ?_ _ | refine blk_drew ?_ | refine blk_alloc ?_ _)); refine Go.Proofs.YtahfemlfdpbkkaaV.blk_far8 ?_ NB146_147.out; (with_reducible repeat (first | refine blk_drewN ?_ _ | refine blk_drew ?_ | refine blk_alloc ?_ _)); exact BK146.out) hb); replace BK147 := am_ (blk_below (g := gb147) (o := .cells #[.int .i64 a0_1, .string a0_2, .int .i64 a0_3, .int .i64 a0_4, .int .i64 a0_5, .string a0_6, .int .i64 a0_7, .int .i64 a0_8] 45 (0, 0)) (by (with_reducible repeat (first | refine blk_drewN ?_ _ | refine blk_drew ?_ | refine blk_alloc ?_ _)); refine Go.Proofs.YtahfemlfdpbkkaaV.blk_all8 (show _ = some (Go.Obj.cells #[.int .i64 0, .string (⟨#[]⟩ : ByteArray), .int .i64 0, .int .i64 0, .int .i64 0, .string (⟨#[]⟩ : ByteArray), .int .i64 0, .int .i64 0] _ (0, 0)) from ?_); (with_reducible repeat (first | refine blk_drewN ?_ _ | refine blk_drew ?_ | refine blk_alloc ?_ _)); exact BK147.out) hb); replace HB := am_ (below_step (qB HB) hb); (try clear hb); (try clear hb2); (try clear hk); (try clear hi); obtain ⟨z17_0, z17_1, z17_2, z17_3, z17_4, z17_5, z17_6, z17_7, z17_8, z17_9, z17_10, z17_11, z17_12, z17_13, z17_14, z17_15⟩ := cz16 BK146.out; obtain ⟨f17_0, f17_1, f17_2, f17_3, f17_4, f17_5, f17_6, f17_7, f17_8, f17_9, f17_10, f17_11, f17_12, f17_13, f17_14, f17_15⟩ := fz16 BK146.out))
     go_meet
     case rel => exact ⟨_, (true), eqq_, H', ⟨by first | omega | exact Nat.le_refl _⟩, ⟨qK BK146⟩, ⟨qK BK147⟩, ⟨qB HB⟩⟩
    ·
     rw [if_neg c13] at H
     have c13b0 : (!(a0_9 == 0) || (!(a0_10.toList == ([] : List UInt8)) || (!(a0_11 == 0) || (!(a0_12 == 0) || (!(a0_13 == 0) || (!(a0_14 == 0) || (!(a0_15 == 0)))))))) = false := by simpa using c13
     (try (have c13b0e := c13b0; simp only [Go.Proofs.YtahfemlfdpbkkaaV.beq_nil, Go.Proofs.YtahfemlfdpbkkaaV.bne_nil] at c13b0e))
     clear c13
     (first | rw [c13b0] | (simp only [i64_w, i32_w]; rw [c13b0]) | skip)
     have H' := Aside0.mk H
     clear H
     have hnb18 := NB147_146.out
     have hnc18 := NB146_147.out
     obtain ⟨z19_0, z19_1, z19_2, z19_3, z19_4, z19_5, z19_6, z19_7⟩ := cz8 BK147.out
     obtain ⟨f19_0, f19_1, f19_2, f19_3, f19_4, f19_5, f19_6, f19_7⟩ := fz8 BK147.out
     go_wp2_with (first | ((with_reducible refine gate_callee (f := 73) rfl ?_); refine goesL_ (some 13) rfl rfl Try.func73 (by kernel_rfl) rfl #[.agg #[.int .i64 a0_1, .string a0_2, .int .i64 a0_3, .int .i64 a0_4, .int .i64 a0_5, .string a0_6, .int .i64 a0_7, .int .i64 a0_8]] rfl la_ ?_; (with_reducible refine (spec_AskerOk.calls k a0_1 a0_2 a0_3 a0_4 a0_5 a0_6 a0_7 a0_8 true _ A11.out).mono ?_); rintro e w20 ⟨rfl, hb⟩; refine ⟨_, rfl, ?_⟩; replace BK146 := am_ (blk_below (g := gb146) (o := .cells #[.int .i64 a0_0, .int .i64 a0_1, .string a0_2, .int .i64 a0_3, .int .i64 a0_4, .int .i64 a0_5, .string a0_6, .int .i64 a0_7, .int .i64 a0_8, .int .i64 a0_9, .string a0_10, .int .i64 a0_11, .int .i64 a0_12, .int .i64 a0_13, .int .i64 a0_14, .int .i64 a0_15] 48 (0, 0)) (by (with_reducible repeat (first | refine blk_drewN ?_ _ | refine blk_drew ?_ | refine blk_alloc ?_ _)); refine Go.Proofs.YtahfemlfdpbkkaaV.blk_far8 ?_ NB146_147.out; (with_reducible repeat (first | refine blk_drewN ?_ _ | refine blk_drew ?_ | refine blk_alloc ?_ _)); exact BK146.out) hb); replace BK147 := am_ (blk_below (g := gb147) (o := .cells #[.int .i64 a0_1, .string a0_2, .int .i64 a0_3, .int .i64 a0_4, .int .i64 a0_5, .string a0_6, .int .i64 a0_7, .int .i64 a0_8] 45 (0, 0)) (by (with_reducible repeat (first | refine blk_drewN ?_ _ | refine blk_drew ?_ | refine blk_alloc ?_ _)); refine Go.Proofs.YtahfemlfdpbkkaaV.blk_all8 (show _ = some (Go.Obj.cells #[.int .i64 0, .string (⟨#[]⟩ : ByteArray), .int .i64 0, .int .i64 0, .int .i64 0, .string (⟨#[]⟩ : ByteArray), .int .i64 0, .int .i64 0] _ (0, 0)) from ?_); (with_reducible repeat (first | refine blk_drewN ?_ _ | refine blk_drew ?_ | refine blk_alloc ?_ _)); exact BK147.out) hb); replace HB := am_ (below_step (qB HB) hb); (try clear hb); (try clear hb2); (try clear hk); (try clear hi); obtain ⟨z21_0, z21_1, z21_2, z21_3, z21_4, z21_5, z21_6, z21_7, z21_8, z21_9, z21_10, z21_11, z21_12, z21_13, z21_14, z21_15⟩ := cz16 BK146.out; obtain ⟨f21_0, f21_1, f21_2, f21_3, f21_4, f21_5, f21_6, f21_7, f21_8, f21_9, f21_10, f21_11, f21_12, f21_13, f21_14, f21_15⟩ := fz16 BK146.out; obtain ⟨z22_0, z22_1, z22_2, z22_3, z22_4, z22_5, z22_6, z22_7⟩ := cz8 BK147.out; obtain ⟨f22_0, f22_1, f22_2, f22_3, f22_4, f22_5, f22_6, f22_7⟩ := fz8 BK147.out))
     go_meet
     case rel => exact ⟨_, (decide (a0_8 > 65535)), eqq_, H', ⟨by first | omega | exact Nat.le_refl _⟩, ⟨qK BK146⟩, ⟨qK BK147⟩, ⟨qB HB⟩⟩
   ·
    replace c12 := Bool.eq_false_iff.mpr c12
    subst c12
    rw [if_neg (show ¬ (false = true) by decide)] at H
    have H' := Aside0.mk H
    clear H
    have hnb23 := NB147_146.out
    have hnc23 := NB146_147.out
    obtain ⟨z24_0, z24_1, z24_2, z24_3, z24_4, z24_5, z24_6, z24_7⟩ := cz8 BK147.out
    obtain ⟨f24_0, f24_1, f24_2, f24_3, f24_4, f24_5, f24_6, f24_7⟩ := fz8 BK147.out
    go_wp2_with (first | ((with_reducible refine gate_callee (f := 73) rfl ?_); refine goesL_ (some 13) rfl rfl Try.func73 (by kernel_rfl) rfl #[.agg #[.int .i64 a0_1, .string a0_2, .int .i64 a0_3, .int .i64 a0_4, .int .i64 a0_5, .string a0_6, .int .i64 a0_7, .int .i64 a0_8]] rfl la_ ?_; (with_reducible refine (spec_AskerOk.calls k a0_1 a0_2 a0_3 a0_4 a0_5 a0_6 a0_7 a0_8 false _ A11.out).mono ?_); rintro e w25 ⟨rfl, hb⟩; refine ⟨_, rfl, ?_⟩; replace BK146 := am_ (blk_below (g := gb146) (o := .cells #[.int .i64 a0_0, .int .i64 a0_1, .string a0_2, .int .i64 a0_3, .int .i64 a0_4, .int .i64 a0_5, .string a0_6, .int .i64 a0_7, .int .i64 a0_8, .int .i64 a0_9, .string a0_10, .int .i64 a0_11, .int .i64 a0_12, .int .i64 a0_13, .int .i64 a0_14, .int .i64 a0_15] 48 (0, 0)) (by (with_reducible repeat (first | refine blk_drewN ?_ _ | refine blk_drew ?_ | refine blk_alloc ?_ _)); refine Go.Proofs.YtahfemlfdpbkkaaV.blk_far8 ?_ NB146_147.out; (with_reducible repeat (first | refine blk_drewN ?_ _ | refine blk_drew ?_ | refine blk_alloc ?_ _)); exact BK146.out) hb); replace BK147 := am_ (blk_below (g := gb147) (o := .cells #[.int .i64 a0_1, .string a0_2, .int .i64 a0_3, .int .i64 a0_4, .int .i64 a0_5, .string a0_6, .int .i64 a0_7, .int .i64 a0_8] 45 (0, 0)) (by (with_reducible repeat (first | refine blk_drewN ?_ _ | refine blk_drew ?_ | refine blk_alloc ?_ _)); refine Go.Proofs.YtahfemlfdpbkkaaV.blk_all8 (show _ = some (Go.Obj.cells #[.int .i64 0, .string (⟨#[]⟩ : ByteArray), .int .i64 0, .int .i64 0, .int .i64 0, .string (⟨#[]⟩ : ByteArray), .int .i64 0, .int .i64 0] _ (0, 0)) from ?_); (with_reducible repeat (first | refine blk_drewN ?_ _ | refine blk_drew ?_ | refine blk_alloc ?_ _)); exact BK147.out) hb); replace HB := am_ (below_step (qB HB) hb); (try clear hb); (try clear hb2); (try clear hk); (try clear hi)))
    go_meet
    case rel => exact ⟨_, (true), eqq_, H', ⟨by first | omega | exact Nat.le_refl _⟩, ⟨qK BK146⟩, ⟨qK BK147⟩, ⟨qB HB⟩⟩
  case rest =>
   clear HC6
   try clear c1
   try clear c2
   try clear p2
   try clear c5
   try clear c5b0
   try clear c5b1
   try clear c7
   try clear c9
   try clear c12
   try clear c13
   try clear c13b0
   try clear c14
   try clear c18
   try clear c23
   try clear c25
   (try clear z10_0 z10_1 z10_2 z10_3 z10_4 z10_5 z10_6 z10_7)
   (try clear z15_0 z15_1 z15_2 z15_3 z15_4 z15_5 z15_6 z15_7)
   (try clear z17_0 z17_1 z17_10 z17_11 z17_12 z17_13 z17_14 z17_15 z17_2 z17_3 z17_4 z17_5 z17_6 z17_7 z17_8 z17_9)
   (try clear z19_0 z19_1 z19_2 z19_3 z19_4 z19_5 z19_6 z19_7)
   (try clear z21_0 z21_1 z21_10 z21_11 z21_12 z21_13 z21_14 z21_15 z21_2 z21_3 z21_4 z21_5 z21_6 z21_7 z21_8 z21_9)
   (try clear z22_0 z22_1 z22_2 z22_3 z22_4 z22_5 z22_6 z22_7)
   (try clear z24_0 z24_1 z24_2 z24_3 z24_4 z24_5 z24_6 z24_7)
   (try clear z4_0 z4_1 z4_10 z4_11 z4_12 z4_13 z4_14 z4_15 z4_2 z4_3 z4_4 z4_5 z4_6 z4_7 z4_8 z4_9)
   (try clear z7_0 z7_1 z7_10 z7_11 z7_12 z7_13 z7_14 z7_15 z7_2 z7_3 z7_4 z7_5 z7_6 z7_7 z7_8 z7_9)
   (try clear f10_0 f10_1 f10_2 f10_3 f10_4 f10_5 f10_6 f10_7)
   (try clear f15_0 f15_1 f15_2 f15_3 f15_4 f15_5 f15_6 f15_7)
   (try clear f17_0 f17_1 f17_10 f17_11 f17_12 f17_13 f17_14 f17_15 f17_2 f17_3 f17_4 f17_5 f17_6 f17_7 f17_8 f17_9)
   (try clear f19_0 f19_1 f19_2 f19_3 f19_4 f19_5 f19_6 f19_7)
   (try clear f21_0 f21_1 f21_10 f21_11 f21_12 f21_13 f21_14 f21_15 f21_2 f21_3 f21_4 f21_5 f21_6 f21_7 f21_8 f21_9)
   (try clear f22_0 f22_1 f22_2 f22_3 f22_4 f22_5 f22_6 f22_7)
   (try clear f24_0 f24_1 f24_2 f24_3 f24_4 f24_5 f24_6 f24_7)
   (try clear f4_0 f4_1 f4_10 f4_11 f4_12 f4_13 f4_14 f4_15 f4_2 f4_3 f4_4 f4_5 f4_6 f4_7 f4_8 f4_9)
   (try clear f7_0 f7_1 f7_10 f7_11 f7_12 f7_13 f7_14 f7_15 f7_2 f7_3 f7_4 f7_5 f7_6 f7_7 f7_8 f7_9)
   obtain ⟨kq, x25_5, rfl, HA, HJ5, BK146, BK147, HB⟩ := hcut
   cases kq with
   | zero => exact absurd HA.out (by simp [spec_PutItem.j0])
   | succ kj5 =>
    have H := HA.out
    clear HA
    simp only [spec_PutItem.j0] at H
    by_cases c26 : x25_5 = true
    ·
     subst c26
     rw [if_pos rfl] at H
     obtain ⟨y149, hy149⟩ : ∃ y_ : List Int, y_ = (([] : List Int)) := ⟨_, rfl⟩
     rw [← hy149] at H
     have Ny149 := Aside0.mk hy149
     clear hy149
     obtain rfl := Option.some.inj H
     go_wp2_with (first | ((with_reducible refine gate_dst (N := 26) rfl ?_); refine Kd.R_lit (Kd.int .u8) _ 5 ?hg (N := 26) ?hd (xs := ([] : List Int)) (inner := []) (ok := fun _ => True) (okp := fun _ => True) ?hr ?hp (fun _ hk => hk) trivial (Below.refl _ _) (Nat.le_refl _) (by simp) ?_; (case hd => rfl); (case hg => rfl); (case hr => first | (go_simp; done) | (go_simp; rfl)); (case hp => exact (Reps.none _ _)); intro v150 w27 ho28 hb hg_ hnew_; clear hg_ hnew_; (first | rw [← Ny149.out] at ho28 | (simp only [Int.reduceToNat] at ho28; rw [← Ny149.out] at ho28)); have HO151 := am_ (Kd.R_lower ho28 (below_size (qB HB))); replace BK146 := am_ (blk_below (qK BK146) hb); replace BK147 := am_ (blk_below (qK BK147) hb); replace HB := am_ (below_step (qB HB) hb); clear hb ho28))
     go_ret
     exact ⟨_, by first | rfl | (simp [errW_none, errW_some] <;> rfl) | (simp [*, errW_none, errW_some] <;> rfl), qR HO151, qB HB⟩
    ·
     replace c26 := Bool.eq_false_iff.mpr c26
     subst c26
     rw [if_neg (show ¬ (false = true) by decide)] at H
     obtain ⟨y152, hy152⟩ : ∃ y_ : List Int, y_ = (([1] : List Int)) := ⟨_, rfl⟩
     rw [← hy152] at H
     have Ny152 := Aside0.mk hy152
     clear hy152
     obtain ⟨t155, A29, H⟩ := bd_ H
     obtain ⟨y158, hy158⟩ : ∃ y_ : List Int, y_ = (([(a0_3) % 256] : List Int)) := ⟨_, rfl⟩
     replace H := mk_ H hy158
     (try dsimp only at H)
     have Ny158 := Aside0.mk hy158
     clear hy158
     by_cases c30 : t155.length + y158.length < 140737488355328
     ·
      rw [if_pos c30] at H
      have LMc30 := Aside0.mk c30
      clear c30
      obtain ⟨y161, hy161⟩ : ∃ y_ : List Int, y_ = (t155 ++ y158) := ⟨_, rfl⟩
      replace H : ((spec_PutText.f kj5 y161 a0_2).bind fun t164 => ((spec_PutWord.f t164 a0_4).bind fun t167 => ((spec_PutWord.f t167 (wrap64 (Int.tdiv a0_5 256))).bind fun t170 => ((some (([(Int.tmod a0_5 256) % 256] : List Int) : List Int)).bind fun y173 => (if t170.length + y173.length < 140737488355328 then ((spec_PutText.f kj5 (t170 ++ y173) a0_6).bind fun t179 => ((spec_PutWord.f t179 a0_7).bind fun t182 => ((spec_PutWord.f t182 a0_8).bind fun t185 => (some t185)))) else (none)))))) = some r := by first | (rw [hy161]; with_reducible exact H) | (have H2_ := (Option.bind_some _ _).symm.trans H; rw [hy161]; with_reducible exact H2_) | (have H2_ := (Option.bind_some _ _).symm.trans H; with_reducible exact H2_) | with_reducible exact H | (rw [hy161]; exact H) | exact H
      have Ny161 := Aside0.mk hy161
      clear hy161
      obtain ⟨t164, A31, H⟩ := bd_ H
      obtain ⟨t167, A32, H⟩ := bd_ H
      obtain ⟨t170, A33, H⟩ := bd_ H
      obtain ⟨y173, hy173⟩ : ∃ y_ : List Int, y_ = (([(Int.tmod a0_5 256) % 256] : List Int)) := ⟨_, rfl⟩
      replace H := mk_ H hy173
      (try dsimp only at H)
      have Ny173 := Aside0.mk hy173
      clear hy173
      by_cases c34 : t170.length + y173.length < 140737488355328
      ·
       rw [if_pos c34] at H
       have LMc34 := Aside0.mk c34
       clear c34
       obtain ⟨y176, hy176⟩ : ∃ y_ : List Int, y_ = (t170 ++ y173) := ⟨_, rfl⟩
       replace H : ((spec_PutText.f kj5 y176 a0_6).bind fun t179 => ((spec_PutWord.f t179 a0_7).bind fun t182 => ((spec_PutWord.f t182 a0_8).bind fun t185 => (some t185)))) = some r := by first | (rw [hy176]; with_reducible exact H) | (have H2_ := (Option.bind_some _ _).symm.trans H; rw [hy176]; with_reducible exact H2_) | (have H2_ := (Option.bind_some _ _).symm.trans H; with_reducible exact H2_) | with_reducible exact H | (rw [hy176]; exact H) | exact H
       have Ny176 := Aside0.mk hy176
       clear hy176
       obtain ⟨t179, A35, H⟩ := bd_ H
       obtain ⟨t182, A36, H⟩ := bd_ H
       obtain ⟨t185, A37, H⟩ := bd_ H
       obtain rfl := Option.some.inj H
       try go_wp2
       replace BK146 := am_ (blk_drew BK146.out)
       replace BK147 := am_ (blk_drew BK147.out)
       replace HB := am_ (below_drew1 HB.out)
       refine start_ (n := 13) (S := fun w' => w'.cell? ⟨gb147, 0, none⟩ = some (.int .i64 a0_1) ∧ w'.cell? ⟨gb147, 1, none⟩ = some (.string a0_2) ∧ w'.cell? ⟨gb147, 2, none⟩ = some (.int .i64 a0_3) ∧ w'.cell? ⟨gb147, 3, none⟩ = some (.int .i64 a0_4) ∧ w'.cell? ⟨gb147, 4, none⟩ = some (.int .i64 a0_5) ∧ w'.cell? ⟨gb147, 5, none⟩ = some (.string a0_6) ∧ w'.cell? ⟨gb147, 6, none⟩ = some (.int .i64 a0_7) ∧ w'.cell? ⟨gb147, 7, none⟩ = some (.int .i64 a0_8)) (ds := []) (rl [0,13]) (by kernel_rfl) rfl rfl (cz8 BK147.out) (fun hHeld => ?_); refine with_tabW spec_PutItem.tab5 spec_PutItem.bits5 (fun HT_ HW_ => ?_)
       generalize wc.drew = w38 at BK146 BK147 HB hHeld ⊢
       refine pz_ (i := 1) (N := some 28) HT_ (rl [0,1,1,11]) rfl rfl ?_
       refine pz_ (i := 4) (N := some 31) HT_ (rl [0,1,1,2,1,8]) rfl rfl ?_
       refine pz_ (i := 9) (N := some 36) HT_ (rl [0,1,1,2,1,4,1,3]) rfl rfl ?_
       refine take_ (i := 2) (N := some 29) (v := ?_) (a' := ?_) (rl [0,1,2,1,1,4,1,3]) rfl rfl (take_ofW HT_.out HW_.out (by kernel_rfl)) (fun _ _ _ h => h) (Or.inl ⟨by rfl, ?_⟩) hHeld ?_ ?_
       rotate_left
       ·
        rintro w' ⟨s0, s1, s2, s3, s4, s5, s6, s7⟩
        go_simp
        with_reducible rfl
       rotate_left
       ·
        exact ap_
       refine take_ (i := 5) (N := some 32) (v := ?_) (a' := ?_) (rl [0,1,2,1,2,3,1,3]) rfl rfl (take_ofW HT_.out HW_.out (by kernel_rfl)) (fun _ _ _ h => h) (Or.inl ⟨by rfl, ?_⟩) hHeld ?_ ?_
       rotate_left
       ·
        rintro w' ⟨s0, s1, s2, s3, s4, s5, s6, s7⟩
        go_simp
        with_reducible rfl
       rotate_left
       ·
        exact ap_
       refine pz_ (i := 6) (N := some 33) HT_ (rl [0,1,2,1,3,2,1,3]) rfl rfl ?_
       refine take_ (i := 10) (N := some 37) (v := ?_) (a' := ?_) (rl [0,1,2,1,3,2,2,2]) rfl rfl (take_ofW HT_.out HW_.out (by kernel_rfl)) (fun _ _ _ h => h) (Or.inl ⟨by rfl, ?_⟩) hHeld ?_ ?_
       rotate_left
       ·
        rintro w' ⟨s0, s1, s2, s3, s4, s5, s6, s7⟩
        go_simp
        with_reducible rfl
       rotate_left
       ·
        exact ap_
       refine join_ (σ := Value × Value × Value) 3 (rl [8,1,2,2]) (fun s_ => [(27, s_.1), (30, s_.2.1), (34, s_.2.2)]) (fun s_ w' => (w'.cell? ⟨gb147, 0, none⟩ = some (.int .i64 a0_1) ∧ w'.cell? ⟨gb147, 1, none⟩ = some (.string a0_2) ∧ w'.cell? ⟨gb147, 2, none⟩ = some (.int .i64 a0_3) ∧ w'.cell? ⟨gb147, 3, none⟩ = some (.int .i64 a0_4) ∧ w'.cell? ⟨gb147, 4, none⟩ = some (.int .i64 a0_5) ∧ w'.cell? ⟨gb147, 5, none⟩ = some (.string a0_6) ∧ w'.cell? ⟨gb147, 6, none⟩ = some (.int .i64 a0_7) ∧ w'.cell? ⟨gb147, 7, none⟩ = some (.int .i64 a0_8)) ∧ (Kd.R (Kd.int .u8) 5 w' w.heap.size (fun k_ => some k_ ≠ (s_.2.1 : Value).ownBlock ∧ some k_ ≠ (s_.2.2 : Value).ownBlock) s_.1 y152) ∧ (Kd.R (Kd.int .u8) 5 w' w.heap.size (fun k_ => some k_ ≠ (s_.1 : Value).ownBlock ∧ some k_ ≠ (s_.2.2 : Value).ownBlock) s_.2.1 t155) ∧ (Kd.R (Kd.int .u8) 5 w' w.heap.size (fun k_ => some k_ ≠ (s_.1 : Value).ownBlock ∧ some k_ ≠ (s_.2.1 : Value).ownBlock) s_.2.2 y158) ∧ (w'.heap[gb146]? = some (.cells #[.int .i64 a0_0, .int .i64 a0_1, .string a0_2, .int .i64 a0_3, .int .i64 a0_4, .int .i64 a0_5, .string a0_6, .int .i64 a0_7, .int .i64 a0_8, .int .i64 a0_9, .string a0_10, .int .i64 a0_11, .int .i64 a0_12, .int .i64 a0_13, .int .i64 a0_14, .int .i64 a0_15] 48 (0, 0))) ∧ (w'.heap[gb147]? = some (.cells #[.int .i64 a0_1, .string a0_2, .int .i64 a0_3, .int .i64 a0_4, .int .i64 a0_5, .string a0_6, .int .i64 a0_7, .int .i64 a0_8] 45 (0, 0))) ∧ (Below w.heap.size w w')) ?_ ?_
       rotate_left
       ·
        intro hCont
        refine two_ (i := 0) (j := 7) (Ni := some 27) (Nj := some 34) (rl [3,1,3,2,2,2]) (rl [0,1,2,1,4,1,2,2]) rfl rfl rfl rfl (two_of HT_.out (by kernel_rfl)) (by decide) (by decide) (fun K hK => ?_) (fun K hK => ?_)
        ·
         skip
         refine Kd.R_lit_step (Kd.int .u8) _ 5 ?hg (N := 27) ?hd (xs := ([1] : List Int)) (inner := [.int .u8 1]) (ok := fun _ => True) (okp := fun _ => True) ?hr ?hp (fun _ hk => hk) trivial (Below.refl _ _) (Nat.le_refl _) (by simp) ?_; (case hd => rfl); (case hg => rfl); (case hr => first | (go_simp; done) | (go_simp; rfl)); (case hp => exact (Reps.one (show Kd.M (Kd.int .u8) _ _ _ 1 [.int .u8 1] from rfl) (Reps.none _ _)))
         intro v153 w39 ho40 hb hg_ hnew_
         clear hg_ hnew_
         (first | rw [← Ny152.out] at ho40 | (simp only [Int.reduceToNat] at ho40; rw [← Ny152.out] at ho40))
         have HO154 := am_ (Kd.R_lower ho40 (below_size (qB HB)))
         replace BK146 := am_ (blk_below (qK BK146) hb)
         replace BK147 := am_ (blk_below (qK BK147) hb)
         replace HB := am_ (below_step (qB HB) hb)
         clear hb ho40
         obtain ⟨Ao41, co41, eo41⟩ := Kd.R_slice HO154.out
         (first | subst eo41 | (injection eo41 with f1_ f2_ f3_; have f4_ := f1_.symm; have f5_ := f3_.symm; clear f1_ f2_ f3_; subst f4_; subst f5_))
         refine hK.out _ _ (cz8 BK147.out) (fun hHeld => ?_)
         clear hK K
         refine norm_ (a' := ?_) ?_ ?_
         rotate_left
         ·
          show Act.put _ (some 27) _ = _
          exact ap_
         refine two_ (i := 3) (j := 7) (Ni := some 30) (Nj := some 34) (rl [7,2,2,2]) (rl [3,1,4,1,2,2]) rfl rfl rfl rfl (two_of HT_.out (by kernel_rfl)) (by decide) (by decide) (fun K hK => ?_) (fun K hK => ?_)
         ·
          skip
          refine goes_ Try.func75 (by kernel_rfl) rfl #[.slice Ao41 y152.length co41, .int .i64 a0_1] (by rfl) rfl rfl la_ ?_
          with_reducible refine (spec_PutWord.calls _ _ y152 a0_1 t155 _ ?side1 ?side2 A29.out).mono ?_
          (case side1 => exact qC ((Kd.R_reads' HO154.out).2.2))
          (case side2 => exact (Kd.R_reads' HO154.out).2.1)
          rintro e w42 ⟨v156, rfl, ho0, hb⟩
          refine ⟨_, rfl, ?_⟩
          have HO157 := am_ (Kd.R_lower (Kd.R_new' ho0 (Kd.R_lt (qR HO154))) (below_size (qB HB)))
          replace HO154 := am_ (eR HO154 ho0 hb)
          replace BK146 := am_ (blk_below (qK BK146) hb)
          replace BK147 := am_ (blk_below (qK BK147) hb)
          replace HB := am_ (below_step (qB HB) hb)
          (try clear hb ho0)
          refine hK.out _ _ (cz8 BK147.out) (fun hHeld => ?_)
          clear hK K
          refine norm_ (a' := ?_) ?_ ?_
          rotate_left
          ·
           show Act.put _ (some 30) _ = _
           exact ap_
          refine one_ (i := 7) (N := some 34) (rl [8,1,2,2]) rfl rfl (one_of HT_.out (by kernel_rfl)) (by decide) (fun K hK => ?_)
          refine Kd.R_lit_step (Kd.int .u8) _ 5 ?hg (N := 34) ?hd (xs := ([(a0_3) % 256] : List Int)) (inner := [.int .u8 ((a0_3) % 256)]) (ok := fun _ => True) (okp := fun _ => True) ?hr ?hp (fun _ hk => hk) trivial (Below.refl _ _) (Nat.le_refl _) (by simp) ?_; (case hd => rfl); (case hg => rfl); (case hr => first | (go_simp; done) | (go_simp; rfl)); (case hp => exact (Reps.one (show Kd.M (Kd.int .u8) _ _ _ ((a0_3) % 256) [.int .u8 ((a0_3) % 256)] from rfl) (Reps.none _ _)))
          intro v159 w43 ho44 hb hg_ hnew_
          clear hg_ hnew_
          (first | rw [← Ny158.out] at ho44 | (simp only [Int.reduceToNat] at ho44; rw [← Ny158.out] at ho44))
          have HO160 := am_ (Kd.R_lower (Kd.R_new' (Kd.R_new' ho44 (Kd.R_lt (qR HO154))) (Kd.R_lt (qR HO157))) (below_size (qB HB)))
          replace HO154 := am_ (eR HO154 ho44 hb)
          replace HO157 := am_ (eR HO157 ho44 hb)
          replace BK146 := am_ (blk_below (qK BK146) hb)
          replace BK147 := am_ (blk_below (qK BK147) hb)
          replace HB := am_ (below_step (qB HB) hb)
          clear hb ho44
          refine hK.out _ _ (cz8 BK147.out) (fun hHeld => ?_)
          clear hK K
          refine norm_ (a' := ?_) ?_ ?_
          rotate_left
          ·
           show Act.put _ (some 34) _ = _
           exact ap_
          exact norm_ (by simp only [putAll, Act.put, List.setIfInBounds_toArray, List.set_cons_zero, List.set_cons_succ]) (hCont (.slice Ao41 y152.length co41, v156, v159) _ ⟨hHeld, (tR (Kd.R_mono HO154.out (fun _ hk => ⟨hk.1.2, hk.2⟩))), (tR (Kd.R_mono HO157.out (fun _ hk => ⟨hk.1.2, hk.2⟩))), (tR (Kd.R_mono HO160.out (fun _ hk => ⟨hk.1.2, hk.2⟩))), (qK BK146), (qK BK147), (qB HB)⟩)
         ·
          skip
          refine Kd.R_lit_step (Kd.int .u8) _ 5 ?hg (N := 34) ?hd (xs := ([(a0_3) % 256] : List Int)) (inner := [.int .u8 ((a0_3) % 256)]) (ok := fun _ => True) (okp := fun _ => True) ?hr ?hp (fun _ hk => hk) trivial (Below.refl _ _) (Nat.le_refl _) (by simp) ?_; (case hd => rfl); (case hg => rfl); (case hr => first | (go_simp; done) | (go_simp; rfl)); (case hp => exact (Reps.one (show Kd.M (Kd.int .u8) _ _ _ ((a0_3) % 256) [.int .u8 ((a0_3) % 256)] from rfl) (Reps.none _ _)))
          intro v159 w41 ho42 hb hg_ hnew_
          clear hg_ hnew_
          (first | rw [← Ny158.out] at ho42 | (simp only [Int.reduceToNat] at ho42; rw [← Ny158.out] at ho42))
          have HO160 := am_ (Kd.R_lower (Kd.R_new' ho42 (Kd.R_lt (qR HO154))) (below_size (qB HB)))
          replace HO154 := am_ (eR HO154 ho42 hb)
          replace BK146 := am_ (blk_below (qK BK146) hb)
          replace BK147 := am_ (blk_below (qK BK147) hb)
          replace HB := am_ (below_step (qB HB) hb)
          clear hb ho42
          obtain ⟨Ao43, co43, eo43⟩ := Kd.R_slice HO154.out
          (first | subst eo43 | (injection eo43 with f1_ f2_ f3_; have f4_ := f1_.symm; have f5_ := f3_.symm; clear f1_ f2_ f3_; subst f4_; subst f5_))
          refine hK.out _ _ (cz8 BK147.out) (fun hHeld => ?_)
          clear hK K
          refine norm_ (a' := ?_) ?_ ?_
          rotate_left
          ·
           show Act.put _ (some 34) _ = _
           exact ap_
          refine one_ (i := 3) (N := some 30) (rl [8,1,2,2]) rfl rfl (one_of HT_.out (by kernel_rfl)) (by decide) (fun K hK => ?_)
          refine goes_ Try.func75 (by kernel_rfl) rfl #[.slice Ao43 y152.length co43, .int .i64 a0_1] (by rfl) rfl rfl la_ ?_
          with_reducible refine (spec_PutWord.calls _ _ y152 a0_1 t155 _ ?side1 ?side2 A29.out).mono ?_
          (case side1 => exact qC ((Kd.R_reads' HO154.out).2.2))
          (case side2 => exact (Kd.R_reads' HO154.out).2.1)
          rintro e w44 ⟨v156, rfl, ho0, hb⟩
          refine ⟨_, rfl, ?_⟩
          have HO157 := am_ (Kd.R_lower (Kd.R_new' (Kd.R_new' ho0 (Kd.R_lt (qR HO154))) (Kd.R_lt (qR HO160))) (below_size (qB HB)))
          replace HO154 := am_ (eR HO154 ho0 hb)
          replace HO160 := am_ (eR HO160 ho0 hb)
          replace BK146 := am_ (blk_below (qK BK146) hb)
          replace BK147 := am_ (blk_below (qK BK147) hb)
          replace HB := am_ (below_step (qB HB) hb)
          (try clear hb ho0)
          refine hK.out _ _ (cz8 BK147.out) (fun hHeld => ?_)
          clear hK K
          refine norm_ (a' := ?_) ?_ ?_
          rotate_left
          ·
           show Act.put _ (some 30) _ = _
           exact ap_
          exact norm_ (by simp only [putAll, Act.put, List.setIfInBounds_toArray, List.set_cons_zero, List.set_cons_succ]) (hCont (.slice Ao43 y152.length co43, v156, v159) _ ⟨hHeld, (tR (Kd.R_mono HO154.out (fun _ hk => ⟨hk.2, hk.1.2⟩))), (tR (Kd.R_mono HO157.out (fun _ hk => ⟨hk.1.2, hk.2⟩))), (tR (Kd.R_mono HO160.out (fun _ hk => ⟨hk.1.2, hk.2⟩))), (qK BK146), (qK BK147), (qB HB)⟩)
        ·
         skip
         refine Kd.R_lit_step (Kd.int .u8) _ 5 ?hg (N := 34) ?hd (xs := ([(a0_3) % 256] : List Int)) (inner := [.int .u8 ((a0_3) % 256)]) (ok := fun _ => True) (okp := fun _ => True) ?hr ?hp (fun _ hk => hk) trivial (Below.refl _ _) (Nat.le_refl _) (by simp) ?_; (case hd => rfl); (case hg => rfl); (case hr => first | (go_simp; done) | (go_simp; rfl)); (case hp => exact (Reps.one (show Kd.M (Kd.int .u8) _ _ _ ((a0_3) % 256) [.int .u8 ((a0_3) % 256)] from rfl) (Reps.none _ _)))
         intro v159 w39 ho40 hb hg_ hnew_
         clear hg_ hnew_
         (first | rw [← Ny158.out] at ho40 | (simp only [Int.reduceToNat] at ho40; rw [← Ny158.out] at ho40))
         have HO160 := am_ (Kd.R_lower ho40 (below_size (qB HB)))
         replace BK146 := am_ (blk_below (qK BK146) hb)
         replace BK147 := am_ (blk_below (qK BK147) hb)
         replace HB := am_ (below_step (qB HB) hb)
         clear hb ho40
         refine hK.out _ _ (cz8 BK147.out) (fun hHeld => ?_)
         clear hK K
         refine norm_ (a' := ?_) ?_ ?_
         rotate_left
         ·
          show Act.put _ (some 34) _ = _
          exact ap_
         refine one_ (i := 0) (N := some 27) (rl [3,1,4,1,2,2]) rfl rfl (one_of HT_.out (by kernel_rfl)) (by decide) (fun K hK => ?_)
         refine Kd.R_lit_step (Kd.int .u8) _ 5 ?hg (N := 27) ?hd (xs := ([1] : List Int)) (inner := [.int .u8 1]) (ok := fun _ => True) (okp := fun _ => True) ?hr ?hp (fun _ hk => hk) trivial (Below.refl _ _) (Nat.le_refl _) (by simp) ?_; (case hd => rfl); (case hg => rfl); (case hr => first | (go_simp; done) | (go_simp; rfl)); (case hp => exact (Reps.one (show Kd.M (Kd.int .u8) _ _ _ 1 [.int .u8 1] from rfl) (Reps.none _ _)))
         intro v153 w41 ho42 hb hg_ hnew_
         clear hg_ hnew_
         (first | rw [← Ny152.out] at ho42 | (simp only [Int.reduceToNat] at ho42; rw [← Ny152.out] at ho42))
         have HO154 := am_ (Kd.R_lower (Kd.R_new' ho42 (Kd.R_lt (qR HO160))) (below_size (qB HB)))
         replace HO160 := am_ (eR HO160 ho42 hb)
         replace BK146 := am_ (blk_below (qK BK146) hb)
         replace BK147 := am_ (blk_below (qK BK147) hb)
         replace HB := am_ (below_step (qB HB) hb)
         clear hb ho42
         obtain ⟨Ao43, co43, eo43⟩ := Kd.R_slice HO154.out
         (first | subst eo43 | (injection eo43 with f1_ f2_ f3_; have f4_ := f1_.symm; have f5_ := f3_.symm; clear f1_ f2_ f3_; subst f4_; subst f5_))
         refine hK.out _ _ (cz8 BK147.out) (fun hHeld => ?_)
         clear hK K
         refine norm_ (a' := ?_) ?_ ?_
         rotate_left
         ·
          show Act.put _ (some 27) _ = _
          exact ap_
         refine one_ (i := 3) (N := some 30) (rl [8,1,2,2]) rfl rfl (one_of HT_.out (by kernel_rfl)) (by decide) (fun K hK => ?_)
         refine goes_ Try.func75 (by kernel_rfl) rfl #[.slice Ao43 y152.length co43, .int .i64 a0_1] (by rfl) rfl rfl la_ ?_
         with_reducible refine (spec_PutWord.calls _ _ y152 a0_1 t155 _ ?side1 ?side2 A29.out).mono ?_
         (case side1 => exact qC ((Kd.R_reads' HO154.out).2.2))
         (case side2 => exact (Kd.R_reads' HO154.out).2.1)
         rintro e w44 ⟨v156, rfl, ho0, hb⟩
         refine ⟨_, rfl, ?_⟩
         have HO157 := am_ (Kd.R_lower (Kd.R_new' (Kd.R_new' ho0 (Kd.R_lt (qR HO160))) (Kd.R_lt (qR HO154))) (below_size (qB HB)))
         replace HO160 := am_ (eR HO160 ho0 hb)
         replace HO154 := am_ (eR HO154 ho0 hb)
         replace BK146 := am_ (blk_below (qK BK146) hb)
         replace BK147 := am_ (blk_below (qK BK147) hb)
         replace HB := am_ (below_step (qB HB) hb)
         (try clear hb ho0)
         refine hK.out _ _ (cz8 BK147.out) (fun hHeld => ?_)
         clear hK K
         refine norm_ (a' := ?_) ?_ ?_
         rotate_left
         ·
          show Act.put _ (some 30) _ = _
          exact ap_
         exact norm_ (by simp only [putAll, Act.put, List.setIfInBounds_toArray, List.set_cons_zero, List.set_cons_succ]) (hCont (.slice Ao43 y152.length co43, v156, v159) _ ⟨hHeld, (tR (Kd.R_mono HO154.out (fun _ hk => ⟨hk.2, hk.1.2⟩))), (tR (Kd.R_mono HO157.out (fun _ hk => ⟨hk.2, hk.1.2⟩))), (tR (Kd.R_mono HO160.out (fun _ hk => ⟨hk.1.2, hk.2⟩))), (qK BK146), (qK BK147), (qB HB)⟩)
       rintro ⟨v153, v156, v159⟩ w45 ⟨hS_, h0_, h1_, h2_, h3_, h4_, h5_⟩
       have n0_ : Aside0 (Kd.R (Kd.int .u8) 5 w45 w.heap.size (fun k_ => some k_ ≠ (v156 : Value).ownBlock ∧ some k_ ≠ (v159 : Value).ownBlock) v153 y152) := ⟨h0_⟩
       have n1_ : Aside0 (Kd.R (Kd.int .u8) 5 w45 w.heap.size (fun k_ => some k_ ≠ (v153 : Value).ownBlock ∧ some k_ ≠ (v159 : Value).ownBlock) v156 t155) := ⟨h1_⟩
       have n2_ : Aside0 (Kd.R (Kd.int .u8) 5 w45 w.heap.size (fun k_ => some k_ ≠ (v153 : Value).ownBlock ∧ some k_ ≠ (v156 : Value).ownBlock) v159 y158) := ⟨h2_⟩
       have n3_ : Aside0 (w45.heap[gb146]? = some (.cells #[.int .i64 a0_0, .int .i64 a0_1, .string a0_2, .int .i64 a0_3, .int .i64 a0_4, .int .i64 a0_5, .string a0_6, .int .i64 a0_7, .int .i64 a0_8, .int .i64 a0_9, .string a0_10, .int .i64 a0_11, .int .i64 a0_12, .int .i64 a0_13, .int .i64 a0_14, .int .i64 a0_15] 48 (0, 0))) := ⟨h3_⟩
       have n4_ : Aside0 (w45.heap[gb147]? = some (.cells #[.int .i64 a0_1, .string a0_2, .int .i64 a0_3, .int .i64 a0_4, .int .i64 a0_5, .string a0_6, .int .i64 a0_7, .int .i64 a0_8] 45 (0, 0))) := ⟨h4_⟩
       have n5_ : Aside0 (Below w.heap.size w w45) := ⟨h5_⟩
       clear BK146
       clear BK147
       clear HB
       clear h0_ h1_ h2_ h3_ h4_ h5_
       have HO154 := n0_
       have HO157 := n1_
       have HO160 := n2_
       have BK146 := n3_
       have BK147 := n4_
       have HB := n5_
       clear n0_ n1_ n2_ n3_ n4_ n5_
       have hHeld : w45.cell? ⟨gb147, 0, none⟩ = some (.int .i64 a0_1) ∧ w45.cell? ⟨gb147, 1, none⟩ = some (.string a0_2) ∧ w45.cell? ⟨gb147, 2, none⟩ = some (.int .i64 a0_3) ∧ w45.cell? ⟨gb147, 3, none⟩ = some (.int .i64 a0_4) ∧ w45.cell? ⟨gb147, 4, none⟩ = some (.int .i64 a0_5) ∧ w45.cell? ⟨gb147, 5, none⟩ = some (.string a0_6) ∧ w45.cell? ⟨gb147, 6, none⟩ = some (.int .i64 a0_7) ∧ w45.cell? ⟨gb147, 7, none⟩ = some (.int .i64 a0_8) := hS_
       obtain ⟨Ao47, co47, eo47⟩ := Kd.R_slice HO160.out
       (first | subst eo47 | (injection eo47 with f1_ f2_ f3_; have f4_ := f1_.symm; have f5_ := f3_.symm; clear f1_ f2_ f3_; subst f4_; subst f5_))
       refine norm_ (a' := ?_) ?_ ?_
       rotate_left
       ·
        simp only [putAll, Act.put, List.setIfInBounds_toArray, List.set_cons_zero, List.set_cons_succ]
        rfl
       refine one_ (i := 8) (N := some 35) (rl [11,2]) rfl rfl (one_of HT_.out (by kernel_rfl)) (by decide) (fun K hK => ?_)
       refine Kd.R_append_rows_step (Kd.int .u8) (w0 := w) w.heap.size (by rfl) (.tmp 30) (.tmp 34) 22 5 (.int .u8 0) 1 rfl Try.underlying22 info5 rfl (by decide) (by omega) v156 t155 y158 _ _ _ (fun k_ => some k_ ≠ (v153 : Value).ownBlock ∧ some k_ ≠ (.slice Ao47 y158.length co47 : Value).ownBlock) (fun _ => False) rfl rfl ?aO ?aR (fun _ _ h => h) (fun _ h => h.elim) ?aF ?aB ?aS ?aL ?_
       (case aR => exact qC ((Kd.R_reads' HO160.out).2.2))
       (case aB => exact (qB HB))
       (case aF => exact (fun k_ hk => ⟨Kd.fresh' (Kd.R_lt (qR HO154)) k_ hk, Kd.fresh' (Kd.R_lt (qR HO160)) k_ hk⟩))
       (case aO => exact (qR HO157))
       (case aS => exact (below_size (qB HB)))
       (case aL => have := LMc30.out; omega)
       intro v162 w46 ho hb hg hat
       rw [← Ny161.out] at ho
       replace BK146 := am_ (blk_grown (qK BK146) hg (Kd.R_ne HO157.out BK146.out (by decide)))
       replace BK147 := am_ (blk_grown (qK BK147) hg (Kd.R_ne HO157.out BK147.out (by decide)))
       replace HO154 := am_ (Kd.R_after (ok := (fun k_ => some k_ ≠ (.slice Ao47 y158.length co47 : Value).ownBlock)) (tR (Kd.R_mono HO154.out (fun _ hk => ⟨hk.2, hk.1⟩))) hg hat)
       replace HO160 := am_ (Kd.R_after (ok := (fun k_ => some k_ ≠ (v153 : Value).ownBlock)) (qR HO160) hg hat)
       replace HB := am_ (hb)
       have HO163 := am_ (ho)
       clear HO157
       clear ho hb hg hat
       obtain ⟨Ao48, co48, eo48⟩ := Kd.R_slice HO163.out
       (first | subst eo48 | (injection eo48 with f1_ f2_ f3_; have f4_ := f1_.symm; have f5_ := f3_.symm; clear f1_ f2_ f3_; subst f4_; subst f5_))
       refine hK.out _ _ (cz8 BK147.out) (fun hHeld => ?_)
       clear hK K
       refine norm_ (a' := ?_) ?_ ?_
       rotate_left
       ·
        show Act.put _ (some 35) _ = _
        exact ap_
       refine one_ (i := 11) (N := some 38) (rl [12,1]) rfl rfl (one_of HT_.out (by kernel_rfl)) (by decide) (fun K hK => ?_)
       refine goes_ Try.func74 (by kernel_rfl) rfl #[.slice Ao48 y161.length co48, .string a0_2] (by rfl) rfl rfl la_ ?_
       with_reducible refine (spec_PutText.calls kj5 _ _ y161 a0_2 t164 _ ?side1 ?side2 A31.out).mono ?_
       (case side1 => exact qC ((Kd.R_reads' HO163.out).2.2))
       (case side2 => exact (Kd.R_reads' HO163.out).2.1)
       rintro e w49 ⟨v165, rfl, ho0, hb⟩
       refine ⟨_, rfl, ?_⟩
       have HO166 := am_ (Kd.R_lower (Kd.R_new' (Kd.R_new' (Kd.R_new' ho0 (Kd.R_lt (qR HO154))) (Kd.R_lt (qR HO160))) (Kd.R_lt (qR HO163))) (below_size (qB HB)))
       replace HO154 := am_ (eR HO154 ho0 hb)
       replace HO160 := am_ (eR HO160 ho0 hb)
       replace HO163 := am_ (eR HO163 ho0 hb)
       replace BK146 := am_ (blk_below (qK BK146) hb)
       replace BK147 := am_ (blk_below (qK BK147) hb)
       replace HB := am_ (below_step (qB HB) hb)
       (try clear hb ho0)
       refine hK.out _ _ (cz8 BK147.out) (fun hHeld => ?_)
       clear hK K
       refine norm_ (a' := ?_) ?_ ?_
       rotate_left
       ·
        show Act.put _ (some 38) _ = _
        exact ap_
       refine pz_ (i := 12) (N := some 4) HT_ (rl [13]) rfl rfl ?_
       refine done_ (done_of HT_.out (by kernel_rfl)) ?_
       obtain ⟨Ao50, co50, eo50⟩ := Kd.R_slice HO166.out
       subst eo50
       try go_wp2
       replace HO154 := am_ (Kd.R_drew HO154.out)
       replace HO160 := am_ (Kd.R_drew HO160.out)
       replace HO163 := am_ (Kd.R_drew HO163.out)
       replace HO166 := am_ (Kd.R_drew HO166.out)
       replace BK146 := am_ (blk_drew BK146.out)
       replace BK147 := am_ (blk_drew BK147.out)
       replace HB := am_ (below_drew1 HB.out)
       refine start_ (n := 15) (S := fun w' => w'.cell? ⟨gb147, 0, none⟩ = some (.int .i64 a0_1) ∧ w'.cell? ⟨gb147, 1, none⟩ = some (.string a0_2) ∧ w'.cell? ⟨gb147, 2, none⟩ = some (.int .i64 a0_3) ∧ w'.cell? ⟨gb147, 3, none⟩ = some (.int .i64 a0_4) ∧ w'.cell? ⟨gb147, 4, none⟩ = some (.int .i64 a0_5) ∧ w'.cell? ⟨gb147, 5, none⟩ = some (.string a0_6) ∧ w'.cell? ⟨gb147, 6, none⟩ = some (.int .i64 a0_7) ∧ w'.cell? ⟨gb147, 7, none⟩ = some (.int .i64 a0_8)) (ds := []) (rl [0,15]) (by kernel_rfl) rfl rfl (cz8 BK147.out) (fun hHeld => ?_); refine with_tabW spec_PutItem.tab6 spec_PutItem.bits6 (fun HT_ HW_ => ?_)
       generalize w49.drew = w51 at HO154 HO160 HO163 HO166 BK146 BK147 HB hHeld ⊢
       refine pz_ (i := 0) (N := some 39) HT_ (rl [1,14]) rfl rfl ?_
       refine pz_ (i := 1) (N := some 40) HT_ (rl [2,13]) rfl rfl ?_
       refine pz_ (i := 4) (N := some 43) HT_ (rl [2,2,1,10]) rfl rfl ?_
       refine pz_ (i := 8) (N := some 47) HT_ (rl [2,2,1,3,1,6]) rfl rfl ?_
       refine take_ (i := 2) (N := some 41) (v := ?_) (a' := ?_) (rl [3,1,1,3,1,6]) rfl rfl (take_ofW HT_.out HW_.out (by kernel_rfl)) (fun _ _ _ h => h) (Or.inl ⟨by rfl, ?_⟩) hHeld ?_ ?_
       rotate_left
       ·
        rintro w' ⟨s0, s1, s2, s3, s4, s5, s6, s7⟩
        go_simp
        with_reducible rfl
       rotate_left
       ·
        exact ap_
       refine take_ (i := 5) (N := some 44) (v := ?_) (a' := ?_) (rl [3,1,2,2,1,6]) rfl rfl (take_ofW HT_.out HW_.out (by kernel_rfl)) (fun _ _ _ h => h) (Or.inl ⟨by rfl, ?_⟩) hHeld ?_ ?_
       rotate_left
       ·
        rintro w' ⟨s0, s1, s2, s3, s4, s5, s6, s7⟩
        go_simp
        with_reducible rfl
       rotate_left
       ·
        exact ap_
       refine pz_ (i := 6) (N := some 45) HT_ (rl [3,1,3,1,1,6]) rfl rfl ?_
       refine take_ (i := 9) (N := some 48) (v := ?_) (a' := ?_) (rl [3,1,3,1,2,5]) rfl rfl (take_ofW HT_.out HW_.out (by kernel_rfl)) (fun _ _ _ h => h) (Or.inl ⟨by rfl, ?_⟩) hHeld ?_ ?_
       rotate_left
       ·
        rintro w' ⟨s0, s1, s2, s3, s4, s5, s6, s7⟩
        go_simp
        with_reducible rfl
       rotate_left
       ·
        exact ap_
       refine pz_ (i := 10) (N := some 49) HT_ (rl [3,1,3,1,3,4]) rfl rfl ?_
       refine pz_ (i := 11) (N := some 50) HT_ (rl [3,1,3,1,4,3]) rfl rfl ?_
       refine join_ (σ := Value × Value × Value) 2 (rl [13,2]) (fun s_ => [(42, s_.1), (46, s_.2.1), (51, s_.2.2)]) (fun s_ w' => (w'.cell? ⟨gb147, 0, none⟩ = some (.int .i64 a0_1) ∧ w'.cell? ⟨gb147, 1, none⟩ = some (.string a0_2) ∧ w'.cell? ⟨gb147, 2, none⟩ = some (.int .i64 a0_3) ∧ w'.cell? ⟨gb147, 3, none⟩ = some (.int .i64 a0_4) ∧ w'.cell? ⟨gb147, 4, none⟩ = some (.int .i64 a0_5) ∧ w'.cell? ⟨gb147, 5, none⟩ = some (.string a0_6) ∧ w'.cell? ⟨gb147, 6, none⟩ = some (.int .i64 a0_7) ∧ w'.cell? ⟨gb147, 7, none⟩ = some (.int .i64 a0_8)) ∧ (Kd.R (Kd.int .u8) 5 w' w.heap.size (fun k_ => some k_ ≠ (.slice Ao47 y158.length co47 : Value).ownBlock ∧ some k_ ≠ (.slice Ao48 y161.length co48 : Value).ownBlock ∧ some k_ ≠ (.slice Ao50 t164.length co50 : Value).ownBlock ∧ some k_ ≠ (s_.1 : Value).ownBlock ∧ some k_ ≠ (s_.2.1 : Value).ownBlock ∧ some k_ ≠ (s_.2.2 : Value).ownBlock) v153 y152) ∧ (Kd.R (Kd.int .u8) 5 w' w.heap.size (fun k_ => some k_ ≠ (v153 : Value).ownBlock ∧ some k_ ≠ (.slice Ao48 y161.length co48 : Value).ownBlock ∧ some k_ ≠ (.slice Ao50 t164.length co50 : Value).ownBlock ∧ some k_ ≠ (s_.1 : Value).ownBlock ∧ some k_ ≠ (s_.2.1 : Value).ownBlock ∧ some k_ ≠ (s_.2.2 : Value).ownBlock) (.slice Ao47 y158.length co47) y158) ∧ (Kd.R (Kd.int .u8) 5 w' w.heap.size (fun k_ => some k_ ≠ (v153 : Value).ownBlock ∧ some k_ ≠ (.slice Ao47 y158.length co47 : Value).ownBlock ∧ some k_ ≠ (.slice Ao50 t164.length co50 : Value).ownBlock ∧ some k_ ≠ (s_.1 : Value).ownBlock ∧ some k_ ≠ (s_.2.1 : Value).ownBlock ∧ some k_ ≠ (s_.2.2 : Value).ownBlock) (.slice Ao48 y161.length co48) y161) ∧ (Kd.R (Kd.int .u8) 5 w' w.heap.size (fun k_ => some k_ ≠ (v153 : Value).ownBlock ∧ some k_ ≠ (.slice Ao47 y158.length co47 : Value).ownBlock ∧ some k_ ≠ (.slice Ao48 y161.length co48 : Value).ownBlock ∧ some k_ ≠ (s_.1 : Value).ownBlock ∧ some k_ ≠ (s_.2.1 : Value).ownBlock ∧ some k_ ≠ (s_.2.2 : Value).ownBlock) (.slice Ao50 t164.length co50) t164) ∧ (Kd.R (Kd.int .u8) 5 w' w.heap.size (fun k_ => some k_ ≠ (v153 : Value).ownBlock ∧ some k_ ≠ (.slice Ao47 y158.length co47 : Value).ownBlock ∧ some k_ ≠ (.slice Ao48 y161.length co48 : Value).ownBlock ∧ some k_ ≠ (.slice Ao50 t164.length co50 : Value).ownBlock ∧ some k_ ≠ (s_.2.1 : Value).ownBlock ∧ some k_ ≠ (s_.2.2 : Value).ownBlock) s_.1 t167) ∧ (Kd.R (Kd.int .u8) 5 w' w.heap.size (fun k_ => some k_ ≠ (v153 : Value).ownBlock ∧ some k_ ≠ (.slice Ao47 y158.length co47 : Value).ownBlock ∧ some k_ ≠ (.slice Ao48 y161.length co48 : Value).ownBlock ∧ some k_ ≠ (.slice Ao50 t164.length co50 : Value).ownBlock ∧ some k_ ≠ (s_.1 : Value).ownBlock ∧ some k_ ≠ (s_.2.2 : Value).ownBlock) s_.2.1 t170) ∧ (Kd.R (Kd.int .u8) 5 w' w.heap.size (fun k_ => some k_ ≠ (v153 : Value).ownBlock ∧ some k_ ≠ (.slice Ao47 y158.length co47 : Value).ownBlock ∧ some k_ ≠ (.slice Ao48 y161.length co48 : Value).ownBlock ∧ some k_ ≠ (.slice Ao50 t164.length co50 : Value).ownBlock ∧ some k_ ≠ (s_.1 : Value).ownBlock ∧ some k_ ≠ (s_.2.1 : Value).ownBlock) s_.2.2 y173) ∧ (w'.heap[gb146]? = some (.cells #[.int .i64 a0_0, .int .i64 a0_1, .string a0_2, .int .i64 a0_3, .int .i64 a0_4, .int .i64 a0_5, .string a0_6, .int .i64 a0_7, .int .i64 a0_8, .int .i64 a0_9, .string a0_10, .int .i64 a0_11, .int .i64 a0_12, .int .i64 a0_13, .int .i64 a0_14, .int .i64 a0_15] 48 (0, 0))) ∧ (w'.heap[gb147]? = some (.cells #[.int .i64 a0_1, .string a0_2, .int .i64 a0_3, .int .i64 a0_4, .int .i64 a0_5, .string a0_6, .int .i64 a0_7, .int .i64 a0_8] 45 (0, 0))) ∧ (Below w.heap.size w w')) ?_ ?_
       rotate_left
       ·
        intro hCont
        refine two_ (i := 3) (j := 12) (Ni := some 42) (Nj := some 51) (rl [7,1,4,3]) (rl [3,1,3,1,5,2]) rfl rfl rfl rfl (two_of HT_.out (by kernel_rfl)) (by decide) (by decide) (fun K hK => ?_) (fun K hK => ?_)
        ·
         skip
         refine goes_ Try.func75 (by kernel_rfl) rfl #[.slice Ao50 t164.length co50, .int .i64 a0_4] (by rfl) rfl rfl la_ ?_
         with_reducible refine (spec_PutWord.calls _ _ t164 a0_4 t167 _ ?side1 ?side2 A32.out).mono ?_
         (case side1 => exact qC ((Kd.R_reads' HO166.out).2.2))
         (case side2 => exact (Kd.R_reads' HO166.out).2.1)
         rintro e w52 ⟨v168, rfl, ho0, hb⟩
         refine ⟨_, rfl, ?_⟩
         have HO169 := am_ (Kd.R_lower (Kd.R_new' (Kd.R_new' (Kd.R_new' (Kd.R_new' ho0 (Kd.R_lt (qR HO154))) (Kd.R_lt (qR HO160))) (Kd.R_lt (qR HO163))) (Kd.R_lt (qR HO166))) (below_size (qB HB)))
         replace HO154 := am_ (eR HO154 ho0 hb)
         replace HO160 := am_ (eR HO160 ho0 hb)
         replace HO163 := am_ (eR HO163 ho0 hb)
         replace HO166 := am_ (eR HO166 ho0 hb)
         replace BK146 := am_ (blk_below (qK BK146) hb)
         replace BK147 := am_ (blk_below (qK BK147) hb)
         replace HB := am_ (below_step (qB HB) hb)
         (try clear hb ho0)
         obtain ⟨Ao53, co53, eo53⟩ := Kd.R_slice HO169.out
         (first | subst eo53 | (injection eo53 with f1_ f2_ f3_; have f4_ := f1_.symm; have f5_ := f3_.symm; clear f1_ f2_ f3_; subst f4_; subst f5_))
         refine hK.out _ _ (cz8 BK147.out) (fun hHeld => ?_)
         clear hK K
         refine norm_ (a' := ?_) ?_ ?_
         rotate_left
         ·
          show Act.put _ (some 42) _ = _
          exact ap_
         refine two_ (i := 7) (j := 12) (Ni := some 46) (Nj := some 51) (rl [12,3]) (rl [7,1,5,2]) rfl rfl rfl rfl (two_of HT_.out (by kernel_rfl)) (by decide) (by decide) (fun K hK => ?_) (fun K hK => ?_)
         ·
          skip
          refine goes_ Try.func75 (by kernel_rfl) rfl #[.slice Ao53 t167.length co53, .int .i64 (wrap64 (Int.tdiv a0_5 256))] (by rfl) rfl rfl la_ ?_
          with_reducible refine (spec_PutWord.calls _ _ t167 (wrap64 (Int.tdiv a0_5 256)) t170 _ ?side1 ?side2 A33.out).mono ?_
          (case side1 => exact qC ((Kd.R_reads' HO169.out).2.2))
          (case side2 => exact (Kd.R_reads' HO169.out).2.1)
          rintro e w54 ⟨v171, rfl, ho0, hb⟩
          refine ⟨_, rfl, ?_⟩
          have HO172 := am_ (Kd.R_lower (Kd.R_new' (Kd.R_new' (Kd.R_new' (Kd.R_new' (Kd.R_new' ho0 (Kd.R_lt (qR HO154))) (Kd.R_lt (qR HO160))) (Kd.R_lt (qR HO163))) (Kd.R_lt (qR HO166))) (Kd.R_lt (qR HO169))) (below_size (qB HB)))
          replace HO154 := am_ (eR HO154 ho0 hb)
          replace HO160 := am_ (eR HO160 ho0 hb)
          replace HO163 := am_ (eR HO163 ho0 hb)
          replace HO166 := am_ (eR HO166 ho0 hb)
          replace HO169 := am_ (eR HO169 ho0 hb)
          replace BK146 := am_ (blk_below (qK BK146) hb)
          replace BK147 := am_ (blk_below (qK BK147) hb)
          replace HB := am_ (below_step (qB HB) hb)
          (try clear hb ho0)
          refine hK.out _ _ (cz8 BK147.out) (fun hHeld => ?_)
          clear hK K
          refine norm_ (a' := ?_) ?_ ?_
          rotate_left
          ·
           show Act.put _ (some 46) _ = _
           exact ap_
          refine one_ (i := 12) (N := some 51) (rl [13,2]) rfl rfl (one_of HT_.out (by kernel_rfl)) (by decide) (fun K hK => ?_)
          refine Kd.R_lit_step (Kd.int .u8) _ 5 ?hg (N := 51) ?hd (xs := ([(Int.tmod a0_5 256) % 256] : List Int)) (inner := [.int .u8 ((Int.tmod a0_5 256) % 256)]) (ok := fun _ => True) (okp := fun _ => True) ?hr ?hp (fun _ hk => hk) trivial (Below.refl _ _) (Nat.le_refl _) (by simp) ?_; (case hd => rfl); (case hg => rfl); (case hr => first | (go_simp; done) | (go_simp; rfl)); (case hp => exact (Reps.one (show Kd.M (Kd.int .u8) _ _ _ ((Int.tmod a0_5 256) % 256) [.int .u8 ((Int.tmod a0_5 256) % 256)] from rfl) (Reps.none _ _)))
          intro v174 w55 ho56 hb hg_ hnew_
          clear hg_ hnew_
          (first | rw [← Ny173.out] at ho56 | (simp only [Int.reduceToNat] at ho56; rw [← Ny173.out] at ho56))
          have HO175 := am_ (Kd.R_lower (Kd.R_new' (Kd.R_new' (Kd.R_new' (Kd.R_new' (Kd.R_new' (Kd.R_new' ho56 (Kd.R_lt (qR HO154))) (Kd.R_lt (qR HO160))) (Kd.R_lt (qR HO163))) (Kd.R_lt (qR HO166))) (Kd.R_lt (qR HO169))) (Kd.R_lt (qR HO172))) (below_size (qB HB)))
          replace HO154 := am_ (eR HO154 ho56 hb)
          replace HO160 := am_ (eR HO160 ho56 hb)
          replace HO163 := am_ (eR HO163 ho56 hb)
          replace HO166 := am_ (eR HO166 ho56 hb)
          replace HO169 := am_ (eR HO169 ho56 hb)
          replace HO172 := am_ (eR HO172 ho56 hb)
          replace BK146 := am_ (blk_below (qK BK146) hb)
          replace BK147 := am_ (blk_below (qK BK147) hb)
          replace HB := am_ (below_step (qB HB) hb)
          clear hb ho56
          refine hK.out _ _ (cz8 BK147.out) (fun hHeld => ?_)
          clear hK K
          refine norm_ (a' := ?_) ?_ ?_
          rotate_left
          ·
           show Act.put _ (some 51) _ = _
           exact ap_
          exact norm_ (by simp only [putAll, Act.put, List.setIfInBounds_toArray, List.set_cons_zero, List.set_cons_succ]) (hCont (.slice Ao53 t167.length co53, v171, v174) _ ⟨hHeld, (tR (Kd.R_mono HO154.out (fun _ hk => ⟨hk.1.1.1.1.1, ⟨hk.1.1.1.1.2, ⟨hk.1.1.1.2, ⟨hk.1.1.2, ⟨hk.1.2, hk.2⟩⟩⟩⟩⟩))), (tR (Kd.R_mono HO160.out (fun _ hk => ⟨hk.1.1.1.1.1, ⟨hk.1.1.1.1.2, ⟨hk.1.1.1.2, ⟨hk.1.1.2, ⟨hk.1.2, hk.2⟩⟩⟩⟩⟩))), (tR (Kd.R_mono HO163.out (fun _ hk => ⟨hk.1.1.1.1.1, ⟨hk.1.1.1.1.2, ⟨hk.1.1.1.2, ⟨hk.1.1.2, ⟨hk.1.2, hk.2⟩⟩⟩⟩⟩))), (tR (Kd.R_mono HO166.out (fun _ hk => ⟨hk.1.1.1.1.1.2, ⟨hk.1.1.1.1.2, ⟨hk.1.1.1.2, ⟨hk.1.1.2, ⟨hk.1.2, hk.2⟩⟩⟩⟩⟩))), (tR (Kd.R_mono HO169.out (fun _ hk => ⟨hk.1.1.1.1.1.2, ⟨hk.1.1.1.1.2, ⟨hk.1.1.1.2, ⟨hk.1.1.2, ⟨hk.1.2, hk.2⟩⟩⟩⟩⟩))), (tR (Kd.R_mono HO172.out (fun _ hk => ⟨hk.1.1.1.1.1.2, ⟨hk.1.1.1.1.2, ⟨hk.1.1.1.2, ⟨hk.1.1.2, ⟨hk.1.2, hk.2⟩⟩⟩⟩⟩))), (tR (Kd.R_mono HO175.out (fun _ hk => ⟨hk.1.1.1.1.1.2, ⟨hk.1.1.1.1.2, ⟨hk.1.1.1.2, ⟨hk.1.1.2, ⟨hk.1.2, hk.2⟩⟩⟩⟩⟩))), (qK BK146), (qK BK147), (qB HB)⟩)
         ·
          skip
          refine Kd.R_lit_step (Kd.int .u8) _ 5 ?hg (N := 51) ?hd (xs := ([(Int.tmod a0_5 256) % 256] : List Int)) (inner := [.int .u8 ((Int.tmod a0_5 256) % 256)]) (ok := fun _ => True) (okp := fun _ => True) ?hr ?hp (fun _ hk => hk) trivial (Below.refl _ _) (Nat.le_refl _) (by simp) ?_; (case hd => rfl); (case hg => rfl); (case hr => first | (go_simp; done) | (go_simp; rfl)); (case hp => exact (Reps.one (show Kd.M (Kd.int .u8) _ _ _ ((Int.tmod a0_5 256) % 256) [.int .u8 ((Int.tmod a0_5 256) % 256)] from rfl) (Reps.none _ _)))
          intro v174 w53 ho54 hb hg_ hnew_
          clear hg_ hnew_
          (first | rw [← Ny173.out] at ho54 | (simp only [Int.reduceToNat] at ho54; rw [← Ny173.out] at ho54))
          have HO175 := am_ (Kd.R_lower (Kd.R_new' (Kd.R_new' (Kd.R_new' (Kd.R_new' (Kd.R_new' ho54 (Kd.R_lt (qR HO154))) (Kd.R_lt (qR HO160))) (Kd.R_lt (qR HO163))) (Kd.R_lt (qR HO166))) (Kd.R_lt (qR HO169))) (below_size (qB HB)))
          replace HO154 := am_ (eR HO154 ho54 hb)
          replace HO160 := am_ (eR HO160 ho54 hb)
          replace HO163 := am_ (eR HO163 ho54 hb)
          replace HO166 := am_ (eR HO166 ho54 hb)
          replace HO169 := am_ (eR HO169 ho54 hb)
          replace BK146 := am_ (blk_below (qK BK146) hb)
          replace BK147 := am_ (blk_below (qK BK147) hb)
          replace HB := am_ (below_step (qB HB) hb)
          clear hb ho54
          obtain ⟨Ao55, co55, eo55⟩ := Kd.R_slice HO169.out
          (first | subst eo55 | (injection eo55 with f1_ f2_ f3_; have f4_ := f1_.symm; have f5_ := f3_.symm; clear f1_ f2_ f3_; subst f4_; subst f5_))
          refine hK.out _ _ (cz8 BK147.out) (fun hHeld => ?_)
          clear hK K
          refine norm_ (a' := ?_) ?_ ?_
          rotate_left
          ·
           show Act.put _ (some 51) _ = _
           exact ap_
          refine one_ (i := 7) (N := some 46) (rl [13,2]) rfl rfl (one_of HT_.out (by kernel_rfl)) (by decide) (fun K hK => ?_)
          refine goes_ Try.func75 (by kernel_rfl) rfl #[.slice Ao55 t167.length co55, .int .i64 (wrap64 (Int.tdiv a0_5 256))] (by rfl) rfl rfl la_ ?_
          with_reducible refine (spec_PutWord.calls _ _ t167 (wrap64 (Int.tdiv a0_5 256)) t170 _ ?side1 ?side2 A33.out).mono ?_
          (case side1 => exact qC ((Kd.R_reads' HO169.out).2.2))
          (case side2 => exact (Kd.R_reads' HO169.out).2.1)
          rintro e w56 ⟨v171, rfl, ho0, hb⟩
          refine ⟨_, rfl, ?_⟩
          have HO172 := am_ (Kd.R_lower (Kd.R_new' (Kd.R_new' (Kd.R_new' (Kd.R_new' (Kd.R_new' (Kd.R_new' ho0 (Kd.R_lt (qR HO154))) (Kd.R_lt (qR HO160))) (Kd.R_lt (qR HO163))) (Kd.R_lt (qR HO166))) (Kd.R_lt (qR HO169))) (Kd.R_lt (qR HO175))) (below_size (qB HB)))
          replace HO154 := am_ (eR HO154 ho0 hb)
          replace HO160 := am_ (eR HO160 ho0 hb)
          replace HO163 := am_ (eR HO163 ho0 hb)
          replace HO166 := am_ (eR HO166 ho0 hb)
          replace HO169 := am_ (eR HO169 ho0 hb)
          replace HO175 := am_ (eR HO175 ho0 hb)
          replace BK146 := am_ (blk_below (qK BK146) hb)
          replace BK147 := am_ (blk_below (qK BK147) hb)
          replace HB := am_ (below_step (qB HB) hb)
          (try clear hb ho0)
          refine hK.out _ _ (cz8 BK147.out) (fun hHeld => ?_)
          clear hK K
          refine norm_ (a' := ?_) ?_ ?_
          rotate_left
          ·
           show Act.put _ (some 46) _ = _
           exact ap_
          exact norm_ (by simp only [putAll, Act.put, List.setIfInBounds_toArray, List.set_cons_zero, List.set_cons_succ]) (hCont (.slice Ao55 t167.length co55, v171, v174) _ ⟨hHeld, (tR (Kd.R_mono HO154.out (fun _ hk => ⟨hk.1.1.1.1.1, ⟨hk.1.1.1.1.2, ⟨hk.1.1.1.2, ⟨hk.1.1.2, ⟨hk.2, hk.1.2⟩⟩⟩⟩⟩))), (tR (Kd.R_mono HO160.out (fun _ hk => ⟨hk.1.1.1.1.1, ⟨hk.1.1.1.1.2, ⟨hk.1.1.1.2, ⟨hk.1.1.2, ⟨hk.2, hk.1.2⟩⟩⟩⟩⟩))), (tR (Kd.R_mono HO163.out (fun _ hk => ⟨hk.1.1.1.1.1, ⟨hk.1.1.1.1.2, ⟨hk.1.1.1.2, ⟨hk.1.1.2, ⟨hk.2, hk.1.2⟩⟩⟩⟩⟩))), (tR (Kd.R_mono HO166.out (fun _ hk => ⟨hk.1.1.1.1.1.2, ⟨hk.1.1.1.1.2, ⟨hk.1.1.1.2, ⟨hk.1.1.2, ⟨hk.2, hk.1.2⟩⟩⟩⟩⟩))), (tR (Kd.R_mono HO169.out (fun _ hk => ⟨hk.1.1.1.1.1.2, ⟨hk.1.1.1.1.2, ⟨hk.1.1.1.2, ⟨hk.1.1.2, ⟨hk.2, hk.1.2⟩⟩⟩⟩⟩))), (tR (Kd.R_mono HO172.out (fun _ hk => ⟨hk.1.1.1.1.1.2, ⟨hk.1.1.1.1.2, ⟨hk.1.1.1.2, ⟨hk.1.1.2, ⟨hk.1.2, hk.2⟩⟩⟩⟩⟩))), (tR (Kd.R_mono HO175.out (fun _ hk => ⟨hk.1.1.1.1.1.2, ⟨hk.1.1.1.1.2, ⟨hk.1.1.1.2, ⟨hk.1.1.2, ⟨hk.1.2, hk.2⟩⟩⟩⟩⟩))), (qK BK146), (qK BK147), (qB HB)⟩)
        ·
         skip
         refine Kd.R_lit_step (Kd.int .u8) _ 5 ?hg (N := 51) ?hd (xs := ([(Int.tmod a0_5 256) % 256] : List Int)) (inner := [.int .u8 ((Int.tmod a0_5 256) % 256)]) (ok := fun _ => True) (okp := fun _ => True) ?hr ?hp (fun _ hk => hk) trivial (Below.refl _ _) (Nat.le_refl _) (by simp) ?_; (case hd => rfl); (case hg => rfl); (case hr => first | (go_simp; done) | (go_simp; rfl)); (case hp => exact (Reps.one (show Kd.M (Kd.int .u8) _ _ _ ((Int.tmod a0_5 256) % 256) [.int .u8 ((Int.tmod a0_5 256) % 256)] from rfl) (Reps.none _ _)))
         intro v174 w52 ho53 hb hg_ hnew_
         clear hg_ hnew_
         (first | rw [← Ny173.out] at ho53 | (simp only [Int.reduceToNat] at ho53; rw [← Ny173.out] at ho53))
         have HO175 := am_ (Kd.R_lower (Kd.R_new' (Kd.R_new' (Kd.R_new' (Kd.R_new' ho53 (Kd.R_lt (qR HO154))) (Kd.R_lt (qR HO160))) (Kd.R_lt (qR HO163))) (Kd.R_lt (qR HO166))) (below_size (qB HB)))
         replace HO154 := am_ (eR HO154 ho53 hb)
         replace HO160 := am_ (eR HO160 ho53 hb)
         replace HO163 := am_ (eR HO163 ho53 hb)
         replace HO166 := am_ (eR HO166 ho53 hb)
         replace BK146 := am_ (blk_below (qK BK146) hb)
         replace BK147 := am_ (blk_below (qK BK147) hb)
         replace HB := am_ (below_step (qB HB) hb)
         clear hb ho53
         refine hK.out _ _ (cz8 BK147.out) (fun hHeld => ?_)
         clear hK K
         refine norm_ (a' := ?_) ?_ ?_
         rotate_left
         ·
          show Act.put _ (some 51) _ = _
          exact ap_
         refine one_ (i := 3) (N := some 42) (rl [7,1,5,2]) rfl rfl (one_of HT_.out (by kernel_rfl)) (by decide) (fun K hK => ?_)
         refine goes_ Try.func75 (by kernel_rfl) rfl #[.slice Ao50 t164.length co50, .int .i64 a0_4] (by rfl) rfl rfl la_ ?_
         with_reducible refine (spec_PutWord.calls _ _ t164 a0_4 t167 _ ?side1 ?side2 A32.out).mono ?_
         (case side1 => exact qC ((Kd.R_reads' HO166.out).2.2))
         (case side2 => exact (Kd.R_reads' HO166.out).2.1)
         rintro e w54 ⟨v168, rfl, ho0, hb⟩
         refine ⟨_, rfl, ?_⟩
         have HO169 := am_ (Kd.R_lower (Kd.R_new' (Kd.R_new' (Kd.R_new' (Kd.R_new' (Kd.R_new' ho0 (Kd.R_lt (qR HO154))) (Kd.R_lt (qR HO160))) (Kd.R_lt (qR HO163))) (Kd.R_lt (qR HO166))) (Kd.R_lt (qR HO175))) (below_size (qB HB)))
         replace HO154 := am_ (eR HO154 ho0 hb)
         replace HO160 := am_ (eR HO160 ho0 hb)
         replace HO163 := am_ (eR HO163 ho0 hb)
         replace HO166 := am_ (eR HO166 ho0 hb)
         replace HO175 := am_ (eR HO175 ho0 hb)
         replace BK146 := am_ (blk_below (qK BK146) hb)
         replace BK147 := am_ (blk_below (qK BK147) hb)
         replace HB := am_ (below_step (qB HB) hb)
         (try clear hb ho0)
         obtain ⟨Ao55, co55, eo55⟩ := Kd.R_slice HO169.out
         (first | subst eo55 | (injection eo55 with f1_ f2_ f3_; have f4_ := f1_.symm; have f5_ := f3_.symm; clear f1_ f2_ f3_; subst f4_; subst f5_))
         refine hK.out _ _ (cz8 BK147.out) (fun hHeld => ?_)
         clear hK K
         refine norm_ (a' := ?_) ?_ ?_
         rotate_left
         ·
          show Act.put _ (some 42) _ = _
          exact ap_
         refine one_ (i := 7) (N := some 46) (rl [13,2]) rfl rfl (one_of HT_.out (by kernel_rfl)) (by decide) (fun K hK => ?_)
         refine goes_ Try.func75 (by kernel_rfl) rfl #[.slice Ao55 t167.length co55, .int .i64 (wrap64 (Int.tdiv a0_5 256))] (by rfl) rfl rfl la_ ?_
         with_reducible refine (spec_PutWord.calls _ _ t167 (wrap64 (Int.tdiv a0_5 256)) t170 _ ?side1 ?side2 A33.out).mono ?_
         (case side1 => exact qC ((Kd.R_reads' HO169.out).2.2))
         (case side2 => exact (Kd.R_reads' HO169.out).2.1)
         rintro e w56 ⟨v171, rfl, ho0, hb⟩
         refine ⟨_, rfl, ?_⟩
         have HO172 := am_ (Kd.R_lower (Kd.R_new' (Kd.R_new' (Kd.R_new' (Kd.R_new' (Kd.R_new' (Kd.R_new' ho0 (Kd.R_lt (qR HO154))) (Kd.R_lt (qR HO160))) (Kd.R_lt (qR HO163))) (Kd.R_lt (qR HO166))) (Kd.R_lt (qR HO175))) (Kd.R_lt (qR HO169))) (below_size (qB HB)))
         replace HO154 := am_ (eR HO154 ho0 hb)
         replace HO160 := am_ (eR HO160 ho0 hb)
         replace HO163 := am_ (eR HO163 ho0 hb)
         replace HO166 := am_ (eR HO166 ho0 hb)
         replace HO175 := am_ (eR HO175 ho0 hb)
         replace HO169 := am_ (eR HO169 ho0 hb)
         replace BK146 := am_ (blk_below (qK BK146) hb)
         replace BK147 := am_ (blk_below (qK BK147) hb)
         replace HB := am_ (below_step (qB HB) hb)
         (try clear hb ho0)
         refine hK.out _ _ (cz8 BK147.out) (fun hHeld => ?_)
         clear hK K
         refine norm_ (a' := ?_) ?_ ?_
         rotate_left
         ·
          show Act.put _ (some 46) _ = _
          exact ap_
         exact norm_ (by simp only [putAll, Act.put, List.setIfInBounds_toArray, List.set_cons_zero, List.set_cons_succ]) (hCont (.slice Ao55 t167.length co55, v171, v174) _ ⟨hHeld, (tR (Kd.R_mono HO154.out (fun _ hk => ⟨hk.1.1.1.1.1, ⟨hk.1.1.1.1.2, ⟨hk.1.1.1.2, ⟨hk.1.2, ⟨hk.2, hk.1.1.2⟩⟩⟩⟩⟩))), (tR (Kd.R_mono HO160.out (fun _ hk => ⟨hk.1.1.1.1.1, ⟨hk.1.1.1.1.2, ⟨hk.1.1.1.2, ⟨hk.1.2, ⟨hk.2, hk.1.1.2⟩⟩⟩⟩⟩))), (tR (Kd.R_mono HO163.out (fun _ hk => ⟨hk.1.1.1.1.1, ⟨hk.1.1.1.1.2, ⟨hk.1.1.1.2, ⟨hk.1.2, ⟨hk.2, hk.1.1.2⟩⟩⟩⟩⟩))), (tR (Kd.R_mono HO166.out (fun _ hk => ⟨hk.1.1.1.1.1.2, ⟨hk.1.1.1.1.2, ⟨hk.1.1.1.2, ⟨hk.1.2, ⟨hk.2, hk.1.1.2⟩⟩⟩⟩⟩))), (tR (Kd.R_mono HO169.out (fun _ hk => ⟨hk.1.1.1.1.1.2, ⟨hk.1.1.1.1.2, ⟨hk.1.1.1.2, ⟨hk.1.1.2, ⟨hk.2, hk.1.2⟩⟩⟩⟩⟩))), (tR (Kd.R_mono HO172.out (fun _ hk => ⟨hk.1.1.1.1.1.2, ⟨hk.1.1.1.1.2, ⟨hk.1.1.1.2, ⟨hk.1.1.2, ⟨hk.2, hk.1.2⟩⟩⟩⟩⟩))), (tR (Kd.R_mono HO175.out (fun _ hk => ⟨hk.1.1.1.1.1.2, ⟨hk.1.1.1.1.2, ⟨hk.1.1.1.2, ⟨hk.1.1.2, ⟨hk.1.2, hk.2⟩⟩⟩⟩⟩))), (qK BK146), (qK BK147), (qB HB)⟩)
       rintro ⟨v168, v171, v174⟩ w57 ⟨hS_, h0_, h1_, h2_, h3_, h4_, h5_, h6_, h7_, h8_, h9_⟩
       have n0_ : Aside0 (Kd.R (Kd.int .u8) 5 w57 w.heap.size (fun k_ => some k_ ≠ (.slice Ao47 y158.length co47 : Value).ownBlock ∧ some k_ ≠ (.slice Ao48 y161.length co48 : Value).ownBlock ∧ some k_ ≠ (.slice Ao50 t164.length co50 : Value).ownBlock ∧ some k_ ≠ (v168 : Value).ownBlock ∧ some k_ ≠ (v171 : Value).ownBlock ∧ some k_ ≠ (v174 : Value).ownBlock) v153 y152) := ⟨h0_⟩
       have n1_ : Aside0 (Kd.R (Kd.int .u8) 5 w57 w.heap.size (fun k_ => some k_ ≠ (v153 : Value).ownBlock ∧ some k_ ≠ (.slice Ao48 y161.length co48 : Value).ownBlock ∧ some k_ ≠ (.slice Ao50 t164.length co50 : Value).ownBlock ∧ some k_ ≠ (v168 : Value).ownBlock ∧ some k_ ≠ (v171 : Value).ownBlock ∧ some k_ ≠ (v174 : Value).ownBlock) (.slice Ao47 y158.length co47) y158) := ⟨h1_⟩
       have n2_ : Aside0 (Kd.R (Kd.int .u8) 5 w57 w.heap.size (fun k_ => some k_ ≠ (v153 : Value).ownBlock ∧ some k_ ≠ (.slice Ao47 y158.length co47 : Value).ownBlock ∧ some k_ ≠ (.slice Ao50 t164.length co50 : Value).ownBlock ∧ some k_ ≠ (v168 : Value).ownBlock ∧ some k_ ≠ (v171 : Value).ownBlock ∧ some k_ ≠ (v174 : Value).ownBlock) (.slice Ao48 y161.length co48) y161) := ⟨h2_⟩
       have n3_ : Aside0 (Kd.R (Kd.int .u8) 5 w57 w.heap.size (fun k_ => some k_ ≠ (v153 : Value).ownBlock ∧ some k_ ≠ (.slice Ao47 y158.length co47 : Value).ownBlock ∧ some k_ ≠ (.slice Ao48 y161.length co48 : Value).ownBlock ∧ some k_ ≠ (v168 : Value).ownBlock ∧ some k_ ≠ (v171 : Value).ownBlock ∧ some k_ ≠ (v174 : Value).ownBlock) (.slice Ao50 t164.length co50) t164) := ⟨h3_⟩
       have n4_ : Aside0 (Kd.R (Kd.int .u8) 5 w57 w.heap.size (fun k_ => some k_ ≠ (v153 : Value).ownBlock ∧ some k_ ≠ (.slice Ao47 y158.length co47 : Value).ownBlock ∧ some k_ ≠ (.slice Ao48 y161.length co48 : Value).ownBlock ∧ some k_ ≠ (.slice Ao50 t164.length co50 : Value).ownBlock ∧ some k_ ≠ (v171 : Value).ownBlock ∧ some k_ ≠ (v174 : Value).ownBlock) v168 t167) := ⟨h4_⟩
       have n5_ : Aside0 (Kd.R (Kd.int .u8) 5 w57 w.heap.size (fun k_ => some k_ ≠ (v153 : Value).ownBlock ∧ some k_ ≠ (.slice Ao47 y158.length co47 : Value).ownBlock ∧ some k_ ≠ (.slice Ao48 y161.length co48 : Value).ownBlock ∧ some k_ ≠ (.slice Ao50 t164.length co50 : Value).ownBlock ∧ some k_ ≠ (v168 : Value).ownBlock ∧ some k_ ≠ (v174 : Value).ownBlock) v171 t170) := ⟨h5_⟩
       have n6_ : Aside0 (Kd.R (Kd.int .u8) 5 w57 w.heap.size (fun k_ => some k_ ≠ (v153 : Value).ownBlock ∧ some k_ ≠ (.slice Ao47 y158.length co47 : Value).ownBlock ∧ some k_ ≠ (.slice Ao48 y161.length co48 : Value).ownBlock ∧ some k_ ≠ (.slice Ao50 t164.length co50 : Value).ownBlock ∧ some k_ ≠ (v168 : Value).ownBlock ∧ some k_ ≠ (v171 : Value).ownBlock) v174 y173) := ⟨h6_⟩
       have n7_ : Aside0 (w57.heap[gb146]? = some (.cells #[.int .i64 a0_0, .int .i64 a0_1, .string a0_2, .int .i64 a0_3, .int .i64 a0_4, .int .i64 a0_5, .string a0_6, .int .i64 a0_7, .int .i64 a0_8, .int .i64 a0_9, .string a0_10, .int .i64 a0_11, .int .i64 a0_12, .int .i64 a0_13, .int .i64 a0_14, .int .i64 a0_15] 48 (0, 0))) := ⟨h7_⟩
       have n8_ : Aside0 (w57.heap[gb147]? = some (.cells #[.int .i64 a0_1, .string a0_2, .int .i64 a0_3, .int .i64 a0_4, .int .i64 a0_5, .string a0_6, .int .i64 a0_7, .int .i64 a0_8] 45 (0, 0))) := ⟨h8_⟩
       have n9_ : Aside0 (Below w.heap.size w w57) := ⟨h9_⟩
       clear HO154
       clear HO160
       clear HO163
       clear HO166
       clear BK146
       clear BK147
       clear HB
       clear h0_ h1_ h2_ h3_ h4_ h5_ h6_ h7_ h8_ h9_
       have HO154 := n0_
       have HO160 := n1_
       have HO163 := n2_
       have HO166 := n3_
       have HO169 := n4_
       have HO172 := n5_
       have HO175 := n6_
       have BK146 := n7_
       have BK147 := n8_
       have HB := n9_
       clear n0_ n1_ n2_ n3_ n4_ n5_ n6_ n7_ n8_ n9_
       have hHeld : w57.cell? ⟨gb147, 0, none⟩ = some (.int .i64 a0_1) ∧ w57.cell? ⟨gb147, 1, none⟩ = some (.string a0_2) ∧ w57.cell? ⟨gb147, 2, none⟩ = some (.int .i64 a0_3) ∧ w57.cell? ⟨gb147, 3, none⟩ = some (.int .i64 a0_4) ∧ w57.cell? ⟨gb147, 4, none⟩ = some (.int .i64 a0_5) ∧ w57.cell? ⟨gb147, 5, none⟩ = some (.string a0_6) ∧ w57.cell? ⟨gb147, 6, none⟩ = some (.int .i64 a0_7) ∧ w57.cell? ⟨gb147, 7, none⟩ = some (.int .i64 a0_8) := hS_
       obtain ⟨Ao59, co59, eo59⟩ := Kd.R_slice HO175.out
       (first | subst eo59 | (injection eo59 with f1_ f2_ f3_; have f4_ := f1_.symm; have f5_ := f3_.symm; clear f1_ f2_ f3_; subst f4_; subst f5_))
       refine norm_ (a' := ?_) ?_ ?_
       rotate_left
       ·
        simp only [putAll, Act.put, List.setIfInBounds_toArray, List.set_cons_zero, List.set_cons_succ]
        rfl
       refine one_ (i := 13) (N := some 52) (rl [14,1]) rfl rfl (one_of HT_.out (by kernel_rfl)) (by decide) (fun K hK => ?_)
       refine Kd.R_append_rows_step (Kd.int .u8) (w0 := w) w.heap.size (by rfl) (.tmp 46) (.tmp 51) 22 5 (.int .u8 0) 1 rfl Try.underlying22 info5 rfl (by decide) (by omega) v171 t170 y173 _ _ _ (fun k_ => some k_ ≠ (v153 : Value).ownBlock ∧ some k_ ≠ (.slice Ao47 y158.length co47 : Value).ownBlock ∧ some k_ ≠ (.slice Ao48 y161.length co48 : Value).ownBlock ∧ some k_ ≠ (.slice Ao50 t164.length co50 : Value).ownBlock ∧ some k_ ≠ (v168 : Value).ownBlock ∧ some k_ ≠ (.slice Ao59 y173.length co59 : Value).ownBlock) (fun _ => False) rfl rfl ?aO ?aR (fun _ _ h => h) (fun _ h => h.elim) ?aF ?aB ?aS ?aL ?_
       (case aR => exact qC ((Kd.R_reads' HO175.out).2.2))
       (case aB => exact (qB HB))
       (case aF => exact (fun k_ hk => ⟨Kd.fresh' (Kd.R_lt (qR HO154)) k_ hk, Kd.fresh' (Kd.R_lt (qR HO160)) k_ hk, Kd.fresh' (Kd.R_lt (qR HO163)) k_ hk, Kd.fresh' (Kd.R_lt (qR HO166)) k_ hk, Kd.fresh' (Kd.R_lt (qR HO169)) k_ hk, Kd.fresh' (Kd.R_lt (qR HO175)) k_ hk⟩))
       (case aO => exact (qR HO172))
       (case aS => exact (below_size (qB HB)))
       (case aL => have := LMc34.out; omega)
       intro v177 w58 ho hb hg hat
       rw [← Ny176.out] at ho
       replace BK146 := am_ (blk_grown (qK BK146) hg (Kd.R_ne HO172.out BK146.out (by decide)))
       replace BK147 := am_ (blk_grown (qK BK147) hg (Kd.R_ne HO172.out BK147.out (by decide)))
       replace HO154 := am_ (Kd.R_after (ok := (fun k_ => some k_ ≠ (.slice Ao47 y158.length co47 : Value).ownBlock ∧ some k_ ≠ (.slice Ao48 y161.length co48 : Value).ownBlock ∧ some k_ ≠ (.slice Ao50 t164.length co50 : Value).ownBlock ∧ some k_ ≠ (v168 : Value).ownBlock ∧ some k_ ≠ (.slice Ao59 y173.length co59 : Value).ownBlock)) (tR (Kd.R_mono HO154.out (fun _ hk => ⟨⟨hk.1, ⟨hk.2.1, ⟨hk.2.2.1, ⟨hk.2.2.2.1, hk.2.2.2.2.2⟩⟩⟩⟩, hk.2.2.2.2.1⟩))) hg hat)
       replace HO160 := am_ (Kd.R_after (ok := (fun k_ => some k_ ≠ (v153 : Value).ownBlock ∧ some k_ ≠ (.slice Ao48 y161.length co48 : Value).ownBlock ∧ some k_ ≠ (.slice Ao50 t164.length co50 : Value).ownBlock ∧ some k_ ≠ (v168 : Value).ownBlock ∧ some k_ ≠ (.slice Ao59 y173.length co59 : Value).ownBlock)) (tR (Kd.R_mono HO160.out (fun _ hk => ⟨⟨hk.1, ⟨hk.2.1, ⟨hk.2.2.1, ⟨hk.2.2.2.1, hk.2.2.2.2.2⟩⟩⟩⟩, hk.2.2.2.2.1⟩))) hg hat)
       replace HO163 := am_ (Kd.R_after (ok := (fun k_ => some k_ ≠ (v153 : Value).ownBlock ∧ some k_ ≠ (.slice Ao47 y158.length co47 : Value).ownBlock ∧ some k_ ≠ (.slice Ao50 t164.length co50 : Value).ownBlock ∧ some k_ ≠ (v168 : Value).ownBlock ∧ some k_ ≠ (.slice Ao59 y173.length co59 : Value).ownBlock)) (tR (Kd.R_mono HO163.out (fun _ hk => ⟨⟨hk.1, ⟨hk.2.1, ⟨hk.2.2.1, ⟨hk.2.2.2.1, hk.2.2.2.2.2⟩⟩⟩⟩, hk.2.2.2.2.1⟩))) hg hat)
       replace HO166 := am_ (Kd.R_after (ok := (fun k_ => some k_ ≠ (v153 : Value).ownBlock ∧ some k_ ≠ (.slice Ao47 y158.length co47 : Value).ownBlock ∧ some k_ ≠ (.slice Ao48 y161.length co48 : Value).ownBlock ∧ some k_ ≠ (v168 : Value).ownBlock ∧ some k_ ≠ (.slice Ao59 y173.length co59 : Value).ownBlock)) (tR (Kd.R_mono HO166.out (fun _ hk => ⟨⟨hk.1, ⟨hk.2.1, ⟨hk.2.2.1, ⟨hk.2.2.2.1, hk.2.2.2.2.2⟩⟩⟩⟩, hk.2.2.2.2.1⟩))) hg hat)
       replace HO169 := am_ (Kd.R_after (ok := (fun k_ => some k_ ≠ (v153 : Value).ownBlock ∧ some k_ ≠ (.slice Ao47 y158.length co47 : Value).ownBlock ∧ some k_ ≠ (.slice Ao48 y161.length co48 : Value).ownBlock ∧ some k_ ≠ (.slice Ao50 t164.length co50 : Value).ownBlock ∧ some k_ ≠ (.slice Ao59 y173.length co59 : Value).ownBlock)) (tR (Kd.R_mono HO169.out (fun _ hk => ⟨⟨hk.1, ⟨hk.2.1, ⟨hk.2.2.1, ⟨hk.2.2.2.1, hk.2.2.2.2.2⟩⟩⟩⟩, hk.2.2.2.2.1⟩))) hg hat)
       replace HO175 := am_ (Kd.R_after (ok := (fun k_ => some k_ ≠ (v153 : Value).ownBlock ∧ some k_ ≠ (.slice Ao47 y158.length co47 : Value).ownBlock ∧ some k_ ≠ (.slice Ao48 y161.length co48 : Value).ownBlock ∧ some k_ ≠ (.slice Ao50 t164.length co50 : Value).ownBlock ∧ some k_ ≠ (v168 : Value).ownBlock)) (tR (Kd.R_mono HO175.out (fun _ hk => ⟨⟨hk.1, ⟨hk.2.1, ⟨hk.2.2.1, ⟨hk.2.2.2.1, hk.2.2.2.2.1⟩⟩⟩⟩, hk.2.2.2.2.2⟩))) hg hat)
       replace HB := am_ (hb)
       have HO178 := am_ (ho)
       clear HO172
       clear ho hb hg hat
       refine hK.out _ _ (cz8 BK147.out) (fun hHeld => ?_)
       clear hK K
       refine norm_ (a' := ?_) ?_ ?_
       rotate_left
       ·
        show Act.put _ (some 52) _ = _
        exact ap_
       refine pz_ (i := 14) (N := some 4) HT_ (rl [15]) rfl rfl ?_
       refine done_ (done_of HT_.out (by kernel_rfl)) ?_
       try go_wp2
       replace HO154 := am_ (Kd.R_drew HO154.out)
       replace HO160 := am_ (Kd.R_drew HO160.out)
       replace HO163 := am_ (Kd.R_drew HO163.out)
       replace HO166 := am_ (Kd.R_drew HO166.out)
       replace HO169 := am_ (Kd.R_drew HO169.out)
       replace HO175 := am_ (Kd.R_drew HO175.out)
       replace HO178 := am_ (Kd.R_drew HO178.out)
       replace BK146 := am_ (blk_drew BK146.out)
       replace BK147 := am_ (blk_drew BK147.out)
       replace HB := am_ (below_drew1 HB.out)
       obtain ⟨Ao61, co61, eo61⟩ := Kd.R_slice HO178.out
       (first | subst eo61 | (injection eo61 with f1_ f2_ f3_; have f4_ := f1_.symm; have f5_ := f3_.symm; clear f1_ f2_ f3_; subst f4_; subst f5_))
       refine start_ (n := 11) (S := fun w' => w'.cell? ⟨gb147, 0, none⟩ = some (.int .i64 a0_1) ∧ w'.cell? ⟨gb147, 1, none⟩ = some (.string a0_2) ∧ w'.cell? ⟨gb147, 2, none⟩ = some (.int .i64 a0_3) ∧ w'.cell? ⟨gb147, 3, none⟩ = some (.int .i64 a0_4) ∧ w'.cell? ⟨gb147, 4, none⟩ = some (.int .i64 a0_5) ∧ w'.cell? ⟨gb147, 5, none⟩ = some (.string a0_6) ∧ w'.cell? ⟨gb147, 6, none⟩ = some (.int .i64 a0_7) ∧ w'.cell? ⟨gb147, 7, none⟩ = some (.int .i64 a0_8)) (ds := []) #[oo,oo,oo,oo,oo,oo,oo,oo,oo,oo,oo] (by kernel_rfl) rfl rfl (cz8 BK147.out) (fun hHeld => ?_); refine with_tabW spec_PutItem.tab7 spec_PutItem.bits7 (fun HT_ HW_ => ?_)
       generalize w58.drew = w60 at HO154 HO160 HO163 HO166 HO169 HO175 HO178 BK146 BK147 HB hHeld ⊢
       refine pz_ (i := 0) (N := some 53) HT_ #[ii,oo,oo,oo,oo,oo,oo,oo,oo,oo,oo] rfl rfl ?_
       refine pz_ (i := 1) (N := some 54) HT_ #[ii,ii,oo,oo,oo,oo,oo,oo,oo,oo,oo] rfl rfl ?_
       refine pz_ (i := 4) (N := some 57) HT_ #[ii,ii,oo,oo,ii,oo,oo,oo,oo,oo,oo] rfl rfl ?_
       refine pz_ (i := 7) (N := some 60) HT_ #[ii,ii,oo,oo,ii,oo,oo,ii,oo,oo,oo] rfl rfl ?_
       refine take_ (i := 2) (N := some 55) (v := ?_) (a' := ?_) #[ii,ii,ii,oo,ii,oo,oo,ii,oo,oo,oo] rfl rfl (take_ofW HT_.out HW_.out (by kernel_rfl)) (fun _ _ _ h => h) (Or.inl ⟨by rfl, ?_⟩) hHeld ?_ ?_
       rotate_left
       ·
        rintro w' ⟨s0, s1, s2, s3, s4, s5, s6, s7⟩
        go_simp
        with_reducible rfl
       rotate_left
       ·
        exact ap_
       refine take_ (i := 5) (N := some 58) (v := ?_) (a' := ?_) #[ii,ii,ii,oo,ii,ii,oo,ii,oo,oo,oo] rfl rfl (take_ofW HT_.out HW_.out (by kernel_rfl)) (fun _ _ _ h => h) (Or.inl ⟨by rfl, ?_⟩) hHeld ?_ ?_
       rotate_left
       ·
        rintro w' ⟨s0, s1, s2, s3, s4, s5, s6, s7⟩
        go_simp
        with_reducible rfl
       rotate_left
       ·
        exact ap_
       refine take_ (i := 8) (N := some 61) (v := ?_) (a' := ?_) #[ii,ii,ii,oo,ii,ii,oo,ii,ii,oo,oo] rfl rfl (take_ofW HT_.out HW_.out (by kernel_rfl)) (fun _ _ _ h => h) (Or.inl ⟨by rfl, ?_⟩) hHeld ?_ ?_
       rotate_left
       ·
        rintro w' ⟨s0, s1, s2, s3, s4, s5, s6, s7⟩
        go_simp
        with_reducible rfl
       rotate_left
       ·
        exact ap_
       refine one_ (i := 3) (N := some 56) #[ii,ii,ii,ii,ii,ii,oo,ii,ii,oo,oo] rfl rfl (one_of HT_.out (by kernel_rfl)) (by decide) (fun K hK => ?_)
       refine goes_ Try.func74 (by kernel_rfl) rfl #[.slice Ao61 y176.length co61, .string a0_6] (by rfl) rfl rfl la_ ?_
       with_reducible refine (spec_PutText.calls kj5 _ _ y176 a0_6 t179 _ ?side1 ?side2 A35.out).mono ?_
       (case side1 => exact qC ((Kd.R_reads' HO178.out).2.2))
       (case side2 => exact (Kd.R_reads' HO178.out).2.1)
       rintro e w62 ⟨v180, rfl, ho0, hb⟩
       refine ⟨_, rfl, ?_⟩
       have HO181 := am_ (Kd.R_lower (Kd.R_new' (Kd.R_new' (Kd.R_new' (Kd.R_new' (Kd.R_new' (Kd.R_new' (Kd.R_new' ho0 (Kd.R_lt (qR HO154))) (Kd.R_lt (qR HO160))) (Kd.R_lt (qR HO163))) (Kd.R_lt (qR HO166))) (Kd.R_lt (qR HO169))) (Kd.R_lt (qR HO175))) (Kd.R_lt (qR HO178))) (below_size (qB HB)))
       replace HO154 := am_ (eR HO154 ho0 hb)
       replace HO160 := am_ (eR HO160 ho0 hb)
       replace HO163 := am_ (eR HO163 ho0 hb)
       replace HO166 := am_ (eR HO166 ho0 hb)
       replace HO169 := am_ (eR HO169 ho0 hb)
       replace HO175 := am_ (eR HO175 ho0 hb)
       replace HO178 := am_ (eR HO178 ho0 hb)
       replace BK146 := am_ (blk_below (qK BK146) hb)
       replace BK147 := am_ (blk_below (qK BK147) hb)
       replace HB := am_ (below_step (qB HB) hb)
       (try clear hb ho0)
       obtain ⟨Ao63, co63, eo63⟩ := Kd.R_slice HO181.out
       (first | subst eo63 | (injection eo63 with f1_ f2_ f3_; have f4_ := f1_.symm; have f5_ := f3_.symm; clear f1_ f2_ f3_; subst f4_; subst f5_))
       refine hK.out _ _ (cz8 BK147.out) (fun hHeld => ?_)
       clear hK K
       refine norm_ (a' := ?_) ?_ ?_
       rotate_left
       ·
        show Act.put _ (some 56) _ = _
        exact ap_
       refine one_ (i := 6) (N := some 59) #[ii,ii,ii,ii,ii,ii,ii,ii,ii,oo,oo] rfl rfl (one_of HT_.out (by kernel_rfl)) (by decide) (fun K hK => ?_)
       refine goes_ Try.func75 (by kernel_rfl) rfl #[.slice Ao63 t179.length co63, .int .i64 a0_7] (by rfl) rfl rfl la_ ?_
       with_reducible refine (spec_PutWord.calls _ _ t179 a0_7 t182 _ ?side1 ?side2 A36.out).mono ?_
       (case side1 => exact qC ((Kd.R_reads' HO181.out).2.2))
       (case side2 => exact (Kd.R_reads' HO181.out).2.1)
       rintro e w64 ⟨v183, rfl, ho0, hb⟩
       refine ⟨_, rfl, ?_⟩
       have HO184 := am_ (Kd.R_lower (Kd.R_new' (Kd.R_new' (Kd.R_new' (Kd.R_new' (Kd.R_new' (Kd.R_new' (Kd.R_new' (Kd.R_new' ho0 (Kd.R_lt (qR HO154))) (Kd.R_lt (qR HO160))) (Kd.R_lt (qR HO163))) (Kd.R_lt (qR HO166))) (Kd.R_lt (qR HO169))) (Kd.R_lt (qR HO175))) (Kd.R_lt (qR HO178))) (Kd.R_lt (qR HO181))) (below_size (qB HB)))
       replace HO154 := am_ (eR HO154 ho0 hb)
       replace HO160 := am_ (eR HO160 ho0 hb)
       replace HO163 := am_ (eR HO163 ho0 hb)
       replace HO166 := am_ (eR HO166 ho0 hb)
       replace HO169 := am_ (eR HO169 ho0 hb)
       replace HO175 := am_ (eR HO175 ho0 hb)
       replace HO178 := am_ (eR HO178 ho0 hb)
       replace HO181 := am_ (eR HO181 ho0 hb)
       replace BK146 := am_ (blk_below (qK BK146) hb)
       replace BK147 := am_ (blk_below (qK BK147) hb)
       replace HB := am_ (below_step (qB HB) hb)
       (try clear hb ho0)
       obtain ⟨Ao65, co65, eo65⟩ := Kd.R_slice HO184.out
       (first | subst eo65 | (injection eo65 with f1_ f2_ f3_; have f4_ := f1_.symm; have f5_ := f3_.symm; clear f1_ f2_ f3_; subst f4_; subst f5_))
       refine hK.out _ _ (cz8 BK147.out) (fun hHeld => ?_)
       clear hK K
       refine norm_ (a' := ?_) ?_ ?_
       rotate_left
       ·
        show Act.put _ (some 59) _ = _
        exact ap_
       refine one_ (i := 9) (N := some 62) #[ii,ii,ii,ii,ii,ii,ii,ii,ii,ii,oo] rfl rfl (one_of HT_.out (by kernel_rfl)) (by decide) (fun K hK => ?_)
       refine goes_ Try.func75 (by kernel_rfl) rfl #[.slice Ao65 t182.length co65, .int .i64 a0_8] (by rfl) rfl rfl la_ ?_
       with_reducible refine (spec_PutWord.calls _ _ t182 a0_8 t185 _ ?side1 ?side2 A37.out).mono ?_
       (case side1 => exact qC ((Kd.R_reads' HO184.out).2.2))
       (case side2 => exact (Kd.R_reads' HO184.out).2.1)
       rintro e w66 ⟨v186, rfl, ho0, hb⟩
       refine ⟨_, rfl, ?_⟩
       have HO187 := am_ (Kd.R_lower (Kd.R_new' (Kd.R_new' (Kd.R_new' (Kd.R_new' (Kd.R_new' (Kd.R_new' (Kd.R_new' (Kd.R_new' (Kd.R_new' ho0 (Kd.R_lt (qR HO154))) (Kd.R_lt (qR HO160))) (Kd.R_lt (qR HO163))) (Kd.R_lt (qR HO166))) (Kd.R_lt (qR HO169))) (Kd.R_lt (qR HO175))) (Kd.R_lt (qR HO178))) (Kd.R_lt (qR HO181))) (Kd.R_lt (qR HO184))) (below_size (qB HB)))
       replace HO154 := am_ (eR HO154 ho0 hb)
       replace HO160 := am_ (eR HO160 ho0 hb)
       replace HO163 := am_ (eR HO163 ho0 hb)
       replace HO166 := am_ (eR HO166 ho0 hb)
       replace HO169 := am_ (eR HO169 ho0 hb)
       replace HO175 := am_ (eR HO175 ho0 hb)
       replace HO178 := am_ (eR HO178 ho0 hb)
       replace HO181 := am_ (eR HO181 ho0 hb)
       replace HO184 := am_ (eR HO184 ho0 hb)
       replace BK146 := am_ (blk_below (qK BK146) hb)
       replace BK147 := am_ (blk_below (qK BK147) hb)
       replace HB := am_ (below_step (qB HB) hb)
       (try clear hb ho0)
       refine hK.out _ _ (cz8 BK147.out) (fun hHeld => ?_)
       clear hK K
       refine norm_ (a' := ?_) ?_ ?_
       rotate_left
       ·
        show Act.put _ (some 62) _ = _
        exact ap_
       refine pz_ (i := 10) (N := some 2) HT_ #[ii,ii,ii,ii,ii,ii,ii,ii,ii,ii,ii] rfl rfl ?_
       refine done_ (done_of HT_.out (by kernel_rfl)) ?_
       try go_wp2
       go_ret
       exact ⟨_, by first | rfl | (simp [errW_none, errW_some] <;> rfl) | (simp [*, errW_none, errW_some] <;> rfl), by (with_reducible repeat (first | apply Kd.R_alloc | apply Kd.R_drewN | apply Kd.R_drew)); exact Kd.R_mono HO187.out (fun _ hk => trivial), qB HB⟩
      ·
       rw [if_neg c34] at H
       exact absurd H (by simp)
     ·
      rw [if_neg c30] at H
      exact absurd H (by simp)
 ·
  rw [if_neg c5] at H
  have c5b0 : (a0_0 == 1) = false := beq_eq_false_iff_ne.mpr c5
  have c5b1 : (a0_0 != 1) = true := bne_iff_ne.mpr c5
  (first | rw [c5b0] | rw [c5b1] | (simp only [i64_w, i32_w]; rw [c5b0]) | skip)
  have HC67 := Aside0.mk H
  clear H
  obtain ⟨z68_0, z68_1, z68_2, z68_3, z68_4, z68_5, z68_6, z68_7, z68_8, z68_9, z68_10, z68_11, z68_12, z68_13, z68_14, z68_15⟩ := cz16 BK146.out
  obtain ⟨f68_0, f68_1, f68_2, f68_3, f68_4, f68_5, f68_6, f68_7, f68_8, f68_9, f68_10, f68_11, f68_12, f68_13, f68_14, f68_15⟩ := fz16 BK146.out
  go_upto_region 9 with (first | ((with_reducible refine gate_dst (N := 5) rfl ?_); refine box_event ?hg (N := 5) ?hd (cs := #[.int .i64 0, .string (⟨#[]⟩ : ByteArray), .int .i64 0, .int .i64 0, .int .i64 0, .int .i64 0, .int .i64 0]) (t := 46) ?hr ?_; (case hd => rfl); (case hg => rfl); (case hr => first | (go_simp; done) | (go_simp; rfl)); intro gb188 hg w69 hbox hb; have BK188 := am_ (hbox); have GW188 := am_ ((gG_ hg (qB HB))); have IGW188 := gI_ GW188; have GE188 := am_ ((gG_ hg (qB HB))); have IGE188 := gI_ GE188; replace HB := am_ (below_step (qB HB) hb); have NB146_188 := am_ ((gN_ hg (qK BK146))); have NB188_146 := am_ ((gM_ hg (qK BK146))); replace BK146 := am_ (blk_below (qK BK146) hb); clear hb hbox hg; have hnb70 := NB188_146.out; have hnc70 := NB146_188.out; obtain ⟨z71_0, z71_1, z71_2, z71_3, z71_4, z71_5, z71_6⟩ := cz7 BK188.out; obtain ⟨f71_0, f71_1, f71_2, f71_3, f71_4, f71_5, f71_6⟩ := fz7 BK188.out))
  (try simp only [Act.put, List.setIfInBounds_toArray, List.set_cons_zero, List.set_cons_succ])
  go_cut [83] (fun v83 wc => ∃ (kq : Nat) (x83_66 : Bool), v83 = .bool x83_66 ∧ Aside0 (spec_PutItem.j1 kq x83_66 a0_9 a0_10 a0_11 a0_12 a0_13 a0_14 a0_15 = some r) ∧ Aside0 (kq ≤ k) ∧ Aside0 (wc.heap[gb146]? = some (.cells #[.int .i64 a0_0, .int .i64 a0_1, .string a0_2, .int .i64 a0_3, .int .i64 a0_4, .int .i64 a0_5, .string a0_6, .int .i64 a0_7, .int .i64 a0_8, .int .i64 a0_9, .string a0_10, .int .i64 a0_11, .int .i64 a0_12, .int .i64 a0_13, .int .i64 a0_14, .int .i64 a0_15] 48 (0, 0))) ∧ Aside0 (wc.heap[gb188]? = some (.cells #[.int .i64 a0_9, .string a0_10, .int .i64 a0_11, .int .i64 a0_12, .int .i64 a0_13, .int .i64 a0_14, .int .i64 a0_15] 46 (0, 0))) ∧ Aside0 (Below w.heap.size w wc))
  case first =>
   have H := HC67.out
   clear HC67
   by_cases c72 : a0_0 = 2
   ·
    rw [if_pos c72] at H
    have c72b0 : (a0_0 == 2) = true := beq_iff_eq.mpr c72
    have c72b1 : (a0_0 != 2) = false := bne_eq_false_iff_eq.mpr c72
    clear c72
    (first | rw [c72b0] | rw [c72b1] | (simp only [i64_w, i32_w]; rw [c72b0]) | skip)
    obtain ⟨t189, A73, H⟩ := bd_ H
    by_cases c74 : t189 = true
    ·
     subst c74
     rw [if_pos rfl] at H
     by_cases c75 : (!(a0_1 == 0) || (!(a0_2.toList == ([] : List UInt8)) || (!(a0_3 == 0) || (!(a0_4 == 0) || (!(a0_5 == 0) || (!(a0_6.toList == ([] : List UInt8)) || (!(a0_7 == 0) || (!(a0_8 == 0))))))))) = true
     ·
      rw [if_pos c75] at H
      have c75b0 : (!(a0_1 == 0) || (!(a0_2.toList == ([] : List UInt8)) || (!(a0_3 == 0) || (!(a0_4 == 0) || (!(a0_5 == 0) || (!(a0_6.toList == ([] : List UInt8)) || (!(a0_7 == 0) || (!(a0_8 == 0))))))))) = true := c75
      (try (have c75b0e := c75b0; simp only [Go.Proofs.YtahfemlfdpbkkaaV.beq_nil, Go.Proofs.YtahfemlfdpbkkaaV.bne_nil] at c75b0e))
      clear c75
      have H' := Aside0.mk H
      clear H
      have hnb76 := NB146_188.out
      have hnc76 := NB188_146.out
      obtain ⟨z77_0, z77_1, z77_2, z77_3, z77_4, z77_5, z77_6, z77_7, z77_8, z77_9, z77_10, z77_11, z77_12, z77_13, z77_14, z77_15⟩ := cz16 BK146.out
      obtain ⟨f77_0, f77_1, f77_2, f77_3, f77_4, f77_5, f77_6, f77_7, f77_8, f77_9, f77_10, f77_11, f77_12, f77_13, f77_14, f77_15⟩ := fz16 BK146.out
      obtain ⟨z78_0, z78_1, z78_2, z78_3, z78_4, z78_5, z78_6⟩ := cz7 BK188.out
      obtain ⟨f78_0, f78_1, f78_2, f78_3, f78_4, f78_5, f78_6⟩ := fz7 BK188.out
      go_wp2_with (first | (go_at_call 76; (with_reducible refine (spec_LineOk.calls k a0_9 a0_10 a0_11 a0_12 a0_13 a0_14 a0_15 true _ A73.out).mono ?_); rintro e w79 ⟨rfl, hb⟩; replace BK146 := am_ (blk_below (g := gb146) (o := .cells #[.int .i64 a0_0, .int .i64 a0_1, .string a0_2, .int .i64 a0_3, .int .i64 a0_4, .int .i64 a0_5, .string a0_6, .int .i64 a0_7, .int .i64 a0_8, .int .i64 a0_9, .string a0_10, .int .i64 a0_11, .int .i64 a0_12, .int .i64 a0_13, .int .i64 a0_14, .int .i64 a0_15] 48 (0, 0)) (by (with_reducible repeat (first | refine blk_drewN ?_ _ | refine blk_drew ?_ | refine blk_alloc ?_ _)); refine Go.Proofs.YtahfemlfdpbkkaaV.blk_far7 ?_ NB146_188.out; (with_reducible repeat (first | refine blk_drewN ?_ _ | refine blk_drew ?_ | refine blk_alloc ?_ _)); exact BK146.out) hb); replace BK188 := am_ (blk_below (g := gb188) (o := .cells #[.int .i64 a0_9, .string a0_10, .int .i64 a0_11, .int .i64 a0_12, .int .i64 a0_13, .int .i64 a0_14, .int .i64 a0_15] 46 (0, 0)) (by (with_reducible repeat (first | refine blk_drewN ?_ _ | refine blk_drew ?_ | refine blk_alloc ?_ _)); refine Go.Proofs.YtahfemlfdpbkkaaV.blk_all7 (show _ = some (Go.Obj.cells #[.int .i64 0, .string (⟨#[]⟩ : ByteArray), .int .i64 0, .int .i64 0, .int .i64 0, .int .i64 0, .int .i64 0] _ (0, 0)) from ?_); (with_reducible repeat (first | refine blk_drewN ?_ _ | refine blk_drew ?_ | refine blk_alloc ?_ _)); exact BK188.out) hb); replace HB := am_ (below_step (qB HB) hb); (try clear hb); (try clear hb2); (try clear hk); (try clear hi); obtain ⟨z80_0, z80_1, z80_2, z80_3, z80_4, z80_5, z80_6, z80_7, z80_8, z80_9, z80_10, z80_11, z80_12, z80_13, z80_14, z80_15⟩ := cz16 BK146.out; obtain ⟨f80_0, f80_1, f80_2, f80_3, f80_4, f80_5, f80_6, f80_7, f80_8, f80_9, f80_10, f80_11, f80_12, f80_13, f80_14, f80_15⟩ := fz16 BK146.out))
      go_meet
      case rel => exact ⟨_, (true), eqq_, H', ⟨by first | omega | exact Nat.le_refl _⟩, ⟨qK BK146⟩, ⟨qK BK188⟩, ⟨qB HB⟩⟩
     ·
      rw [if_neg c75] at H
      have c75b0 : (!(a0_1 == 0) || (!(a0_2.toList == ([] : List UInt8)) || (!(a0_3 == 0) || (!(a0_4 == 0) || (!(a0_5 == 0) || (!(a0_6.toList == ([] : List UInt8)) || (!(a0_7 == 0) || (!(a0_8 == 0))))))))) = false := by simpa using c75
      (try (have c75b0e := c75b0; simp only [Go.Proofs.YtahfemlfdpbkkaaV.beq_nil, Go.Proofs.YtahfemlfdpbkkaaV.bne_nil] at c75b0e))
      clear c75
      have H' := Aside0.mk H
      clear H
      have hnb81 := NB146_188.out
      have hnc81 := NB188_146.out
      obtain ⟨z82_0, z82_1, z82_2, z82_3, z82_4, z82_5, z82_6, z82_7, z82_8, z82_9, z82_10, z82_11, z82_12, z82_13, z82_14, z82_15⟩ := cz16 BK146.out
      obtain ⟨f82_0, f82_1, f82_2, f82_3, f82_4, f82_5, f82_6, f82_7, f82_8, f82_9, f82_10, f82_11, f82_12, f82_13, f82_14, f82_15⟩ := fz16 BK146.out
      obtain ⟨z83_0, z83_1, z83_2, z83_3, z83_4, z83_5, z83_6⟩ := cz7 BK188.out
      obtain ⟨f83_0, f83_1, f83_2, f83_3, f83_4, f83_5, f83_6⟩ := fz7 BK188.out
      go_wp2_with (first | (go_at_call 76; (with_reducible refine (spec_LineOk.calls k a0_9 a0_10 a0_11 a0_12 a0_13 a0_14 a0_15 true _ A73.out).mono ?_); rintro e w84 ⟨rfl, hb⟩; replace BK146 := am_ (blk_below (g := gb146) (o := .cells #[.int .i64 a0_0, .int .i64 a0_1, .string a0_2, .int .i64 a0_3, .int .i64 a0_4, .int .i64 a0_5, .string a0_6, .int .i64 a0_7, .int .i64 a0_8, .int .i64 a0_9, .string a0_10, .int .i64 a0_11, .int .i64 a0_12, .int .i64 a0_13, .int .i64 a0_14, .int .i64 a0_15] 48 (0, 0)) (by (with_reducible repeat (first | refine blk_drewN ?_ _ | refine blk_drew ?_ | refine blk_alloc ?_ _)); refine Go.Proofs.YtahfemlfdpbkkaaV.blk_far7 ?_ NB146_188.out; (with_reducible repeat (first | refine blk_drewN ?_ _ | refine blk_drew ?_ | refine blk_alloc ?_ _)); exact BK146.out) hb); replace BK188 := am_ (blk_below (g := gb188) (o := .cells #[.int .i64 a0_9, .string a0_10, .int .i64 a0_11, .int .i64 a0_12, .int .i64 a0_13, .int .i64 a0_14, .int .i64 a0_15] 46 (0, 0)) (by (with_reducible repeat (first | refine blk_drewN ?_ _ | refine blk_drew ?_ | refine blk_alloc ?_ _)); refine Go.Proofs.YtahfemlfdpbkkaaV.blk_all7 (show _ = some (Go.Obj.cells #[.int .i64 0, .string (⟨#[]⟩ : ByteArray), .int .i64 0, .int .i64 0, .int .i64 0, .int .i64 0, .int .i64 0] _ (0, 0)) from ?_); (with_reducible repeat (first | refine blk_drewN ?_ _ | refine blk_drew ?_ | refine blk_alloc ?_ _)); exact BK188.out) hb); replace HB := am_ (below_step (qB HB) hb); (try clear hb); (try clear hb2); (try clear hk); (try clear hi); obtain ⟨z85_0, z85_1, z85_2, z85_3, z85_4, z85_5, z85_6, z85_7, z85_8, z85_9, z85_10, z85_11, z85_12, z85_13, z85_14, z85_15⟩ := cz16 BK146.out; obtain ⟨f85_0, f85_1, f85_2, f85_3, f85_4, f85_5, f85_6, f85_7, f85_8, f85_9, f85_10, f85_11, f85_12, f85_13, f85_14, f85_15⟩ := fz16 BK146.out; obtain ⟨z86_0, z86_1, z86_2, z86_3, z86_4, z86_5, z86_6⟩ := cz7 BK188.out; obtain ⟨f86_0, f86_1, f86_2, f86_3, f86_4, f86_5, f86_6⟩ := fz7 BK188.out))
      go_meet
      case rel => exact ⟨_, (decide (a0_15 > 65535)), eqq_, H', ⟨by first | omega | exact Nat.le_refl _⟩, ⟨qK BK146⟩, ⟨qK BK188⟩, ⟨qB HB⟩⟩
    ·
     replace c74 := Bool.eq_false_iff.mpr c74
     subst c74
     rw [if_neg (show ¬ (false = true) by decide)] at H
     have H' := Aside0.mk H
     clear H
     have hnb87 := NB146_188.out
     have hnc87 := NB188_146.out
     obtain ⟨z88_0, z88_1, z88_2, z88_3, z88_4, z88_5, z88_6, z88_7, z88_8, z88_9, z88_10, z88_11, z88_12, z88_13, z88_14, z88_15⟩ := cz16 BK146.out
     obtain ⟨f88_0, f88_1, f88_2, f88_3, f88_4, f88_5, f88_6, f88_7, f88_8, f88_9, f88_10, f88_11, f88_12, f88_13, f88_14, f88_15⟩ := fz16 BK146.out
     obtain ⟨z89_0, z89_1, z89_2, z89_3, z89_4, z89_5, z89_6⟩ := cz7 BK188.out
     obtain ⟨f89_0, f89_1, f89_2, f89_3, f89_4, f89_5, f89_6⟩ := fz7 BK188.out
     go_wp2_with (first | (go_at_call 76; (with_reducible refine (spec_LineOk.calls k a0_9 a0_10 a0_11 a0_12 a0_13 a0_14 a0_15 false _ A73.out).mono ?_); rintro e w90 ⟨rfl, hb⟩; replace BK146 := am_ (blk_below (g := gb146) (o := .cells #[.int .i64 a0_0, .int .i64 a0_1, .string a0_2, .int .i64 a0_3, .int .i64 a0_4, .int .i64 a0_5, .string a0_6, .int .i64 a0_7, .int .i64 a0_8, .int .i64 a0_9, .string a0_10, .int .i64 a0_11, .int .i64 a0_12, .int .i64 a0_13, .int .i64 a0_14, .int .i64 a0_15] 48 (0, 0)) (by (with_reducible repeat (first | refine blk_drewN ?_ _ | refine blk_drew ?_ | refine blk_alloc ?_ _)); refine Go.Proofs.YtahfemlfdpbkkaaV.blk_far7 ?_ NB146_188.out; (with_reducible repeat (first | refine blk_drewN ?_ _ | refine blk_drew ?_ | refine blk_alloc ?_ _)); exact BK146.out) hb); replace BK188 := am_ (blk_below (g := gb188) (o := .cells #[.int .i64 a0_9, .string a0_10, .int .i64 a0_11, .int .i64 a0_12, .int .i64 a0_13, .int .i64 a0_14, .int .i64 a0_15] 46 (0, 0)) (by (with_reducible repeat (first | refine blk_drewN ?_ _ | refine blk_drew ?_ | refine blk_alloc ?_ _)); refine Go.Proofs.YtahfemlfdpbkkaaV.blk_all7 (show _ = some (Go.Obj.cells #[.int .i64 0, .string (⟨#[]⟩ : ByteArray), .int .i64 0, .int .i64 0, .int .i64 0, .int .i64 0, .int .i64 0] _ (0, 0)) from ?_); (with_reducible repeat (first | refine blk_drewN ?_ _ | refine blk_drew ?_ | refine blk_alloc ?_ _)); exact BK188.out) hb); replace HB := am_ (below_step (qB HB) hb); (try clear hb); (try clear hb2); (try clear hk); (try clear hi)))
     go_meet
     case rel => exact ⟨_, (true), eqq_, H', ⟨by first | omega | exact Nat.le_refl _⟩, ⟨qK BK146⟩, ⟨qK BK188⟩, ⟨qB HB⟩⟩
   ·
    rw [if_neg c72] at H
    have c72b0 : (a0_0 == 2) = false := beq_eq_false_iff_ne.mpr c72
    have c72b1 : (a0_0 != 2) = true := bne_iff_ne.mpr c72
    (first | rw [c72b0] | rw [c72b1] | (simp only [i64_w, i32_w]; rw [c72b0]) | skip)
    have H' := Aside0.mk H
    clear H
    have hnb91 := NB146_188.out
    have hnc91 := NB188_146.out
    obtain ⟨z92_0, z92_1, z92_2, z92_3, z92_4, z92_5, z92_6, z92_7, z92_8, z92_9, z92_10, z92_11, z92_12, z92_13, z92_14, z92_15⟩ := cz16 BK146.out
    obtain ⟨f92_0, f92_1, f92_2, f92_3, f92_4, f92_5, f92_6, f92_7, f92_8, f92_9, f92_10, f92_11, f92_12, f92_13, f92_14, f92_15⟩ := fz16 BK146.out
    go_wp2
    go_meet
    case rel => exact ⟨_, (true), eqq_, H', ⟨by first | omega | exact Nat.le_refl _⟩, ⟨by (with_reducible repeat (first | refine blk_drewN ?_ _ | refine blk_drew ?_ | refine blk_alloc ?_ _)); refine Go.Proofs.YtahfemlfdpbkkaaV.blk_far7 ?_ NB146_188.out; (with_reducible repeat (first | refine blk_drewN ?_ _ | refine blk_drew ?_ | refine blk_alloc ?_ _)); exact BK146.out⟩, ⟨by (with_reducible repeat (first | refine blk_drewN ?_ _ | refine blk_drew ?_ | refine blk_alloc ?_ _)); refine Go.Proofs.YtahfemlfdpbkkaaV.blk_all7 (show _ = some (Go.Obj.cells #[.int .i64 0, .string (⟨#[]⟩ : ByteArray), .int .i64 0, .int .i64 0, .int .i64 0, .int .i64 0, .int .i64 0] _ (0, 0)) from ?_); (with_reducible repeat (first | refine blk_drewN ?_ _ | refine blk_drew ?_ | refine blk_alloc ?_ _)); exact BK188.out⟩, ⟨qB HB⟩⟩
  case rest =>
   clear HC67
   try clear p2
   try clear c3
   try clear c5
   try clear c5b0
   try clear c5b1
   try clear c7
   try clear c8
   try clear c9
   try clear c30
   try clear c34
   try clear c70
   try clear c72
   try clear c72b0
   try clear c72b1
   try clear c74
   try clear c75
   try clear c75b0
   try clear c76
   try clear c81
   try clear c87
   try clear c91
   (try clear z68_0 z68_1 z68_10 z68_11 z68_12 z68_13 z68_14 z68_15 z68_2 z68_3 z68_4 z68_5 z68_6 z68_7 z68_8 z68_9)
   (try clear z71_0 z71_1 z71_2 z71_3 z71_4 z71_5 z71_6)
   (try clear z77_0 z77_1 z77_10 z77_11 z77_12 z77_13 z77_14 z77_15 z77_2 z77_3 z77_4 z77_5 z77_6 z77_7 z77_8 z77_9)
   (try clear z78_0 z78_1 z78_2 z78_3 z78_4 z78_5 z78_6)
   (try clear z80_0 z80_1 z80_10 z80_11 z80_12 z80_13 z80_14 z80_15 z80_2 z80_3 z80_4 z80_5 z80_6 z80_7 z80_8 z80_9)
   (try clear z82_0 z82_1 z82_10 z82_11 z82_12 z82_13 z82_14 z82_15 z82_2 z82_3 z82_4 z82_5 z82_6 z82_7 z82_8 z82_9)
   (try clear z83_0 z83_1 z83_2 z83_3 z83_4 z83_5 z83_6)
   (try clear z85_0 z85_1 z85_10 z85_11 z85_12 z85_13 z85_14 z85_15 z85_2 z85_3 z85_4 z85_5 z85_6 z85_7 z85_8 z85_9)
   (try clear z86_0 z86_1 z86_2 z86_3 z86_4 z86_5 z86_6)
   (try clear z88_0 z88_1 z88_10 z88_11 z88_12 z88_13 z88_14 z88_15 z88_2 z88_3 z88_4 z88_5 z88_6 z88_7 z88_8 z88_9)
   (try clear z89_0 z89_1 z89_2 z89_3 z89_4 z89_5 z89_6)
   (try clear z92_0 z92_1 z92_10 z92_11 z92_12 z92_13 z92_14 z92_15 z92_2 z92_3 z92_4 z92_5 z92_6 z92_7 z92_8 z92_9)
   (try clear f68_0 f68_1 f68_10 f68_11 f68_12 f68_13 f68_14 f68_15 f68_2 f68_3 f68_4 f68_5 f68_6 f68_7 f68_8 f68_9)
   (try clear f71_0 f71_1 f71_2 f71_3 f71_4 f71_5 f71_6)
   (try clear f77_0 f77_1 f77_10 f77_11 f77_12 f77_13 f77_14 f77_15 f77_2 f77_3 f77_4 f77_5 f77_6 f77_7 f77_8 f77_9)
   (try clear f78_0 f78_1 f78_2 f78_3 f78_4 f78_5 f78_6)
   (try clear f80_0 f80_1 f80_10 f80_11 f80_12 f80_13 f80_14 f80_15 f80_2 f80_3 f80_4 f80_5 f80_6 f80_7 f80_8 f80_9)
   (try clear f82_0 f82_1 f82_10 f82_11 f82_12 f82_13 f82_14 f82_15 f82_2 f82_3 f82_4 f82_5 f82_6 f82_7 f82_8 f82_9)
   (try clear f83_0 f83_1 f83_2 f83_3 f83_4 f83_5 f83_6)
   (try clear f85_0 f85_1 f85_10 f85_11 f85_12 f85_13 f85_14 f85_15 f85_2 f85_3 f85_4 f85_5 f85_6 f85_7 f85_8 f85_9)
   (try clear f86_0 f86_1 f86_2 f86_3 f86_4 f86_5 f86_6)
   (try clear f88_0 f88_1 f88_10 f88_11 f88_12 f88_13 f88_14 f88_15 f88_2 f88_3 f88_4 f88_5 f88_6 f88_7 f88_8 f88_9)
   (try clear f89_0 f89_1 f89_2 f89_3 f89_4 f89_5 f89_6)
   (try clear f92_0 f92_1 f92_10 f92_11 f92_12 f92_13 f92_14 f92_15 f92_2 f92_3 f92_4 f92_5 f92_6 f92_7 f92_8 f92_9)
   obtain ⟨kq, x83_66, rfl, HA, HJ66, BK146, BK188, HB⟩ := hcut
   cases kq with
   | zero => exact absurd HA.out (by simp [spec_PutItem.j1])
   | succ kj66 =>
    have H := HA.out
    clear HA
    simp only [spec_PutItem.j1] at H
    by_cases c93 : x83_66 = true
    ·
     subst c93
     rw [if_pos rfl] at H
     obtain ⟨y190, hy190⟩ : ∃ y_ : List Int, y_ = (([] : List Int)) := ⟨_, rfl⟩
     rw [← hy190] at H
     have Ny190 := Aside0.mk hy190
     clear hy190
     obtain rfl := Option.some.inj H
     go_wp2_with (first | ((with_reducible refine gate_dst (N := 84) rfl ?_); refine Kd.R_lit (Kd.int .u8) _ 5 ?hg (N := 84) ?hd (xs := ([] : List Int)) (inner := []) (ok := fun _ => True) (okp := fun _ => True) ?hr ?hp (fun _ hk => hk) trivial (Below.refl _ _) (Nat.le_refl _) (by simp) ?_; (case hd => rfl); (case hg => rfl); (case hr => first | (go_simp; done) | (go_simp; rfl)); (case hp => exact (Reps.none _ _)); intro v191 w94 ho95 hb hg_ hnew_; clear hg_ hnew_; (first | rw [← Ny190.out] at ho95 | (simp only [Int.reduceToNat] at ho95; rw [← Ny190.out] at ho95)); have HO192 := am_ (Kd.R_lower ho95 (below_size (qB HB))); replace BK146 := am_ (blk_below (qK BK146) hb); replace BK188 := am_ (blk_below (qK BK188) hb); replace HB := am_ (below_step (qB HB) hb); clear hb ho95))
     go_ret
     exact ⟨_, by first | rfl | (simp [errW_none, errW_some] <;> rfl) | (simp [*, errW_none, errW_some] <;> rfl), qR HO192, qB HB⟩
    ·
     replace c93 := Bool.eq_false_iff.mpr c93
     subst c93
     rw [if_neg (show ¬ (false = true) by decide)] at H
     obtain ⟨y193, hy193⟩ : ∃ y_ : List Int, y_ = (([2] : List Int)) := ⟨_, rfl⟩
     rw [← hy193] at H
     have Ny193 := Aside0.mk hy193
     clear hy193
     obtain ⟨t196, A96, H⟩ := bd_ H
     obtain ⟨y199, hy199⟩ : ∃ y_ : List Int, y_ = (([(a0_12) % 256] : List Int)) := ⟨_, rfl⟩
     replace H := mk_ H hy199
     (try dsimp only at H)
     have Ny199 := Aside0.mk hy199
     clear hy199
     by_cases c97 : t196.length + y199.length < 140737488355328
     ·
      rw [if_pos c97] at H
      have LMc97 := Aside0.mk c97
      clear c97
      obtain ⟨y202, hy202⟩ : ∃ y_ : List Int, y_ = (t196 ++ y199) := ⟨_, rfl⟩
      replace H : ((spec_PutText.f kj66 y202 a0_10).bind fun t205 => ((spec_PutWord.f t205 a0_11).bind fun t208 => ((spec_PutWord.f t208 (wrap64 (Int.tdiv a0_13 256))).bind fun t211 => ((some (([(Int.tmod a0_13 256) % 256] : List Int) : List Int)).bind fun y214 => (if t211.length + y214.length < 140737488355328 then ((spec_PutWord.f (t211 ++ y214) a0_14).bind fun t220 => ((spec_PutWord.f t220 a0_15).bind fun t223 => (some t223))) else (none)))))) = some r := by first | (rw [hy202]; with_reducible exact H) | (have H2_ := (Option.bind_some _ _).symm.trans H; rw [hy202]; with_reducible exact H2_) | (have H2_ := (Option.bind_some _ _).symm.trans H; with_reducible exact H2_) | with_reducible exact H | (rw [hy202]; exact H) | exact H
      have Ny202 := Aside0.mk hy202
      clear hy202
      obtain ⟨t205, A98, H⟩ := bd_ H
      obtain ⟨t208, A99, H⟩ := bd_ H
      obtain ⟨t211, A100, H⟩ := bd_ H
      obtain ⟨y214, hy214⟩ : ∃ y_ : List Int, y_ = (([(Int.tmod a0_13 256) % 256] : List Int)) := ⟨_, rfl⟩
      replace H := mk_ H hy214
      (try dsimp only at H)
      have Ny214 := Aside0.mk hy214
      clear hy214
      by_cases c101 : t211.length + y214.length < 140737488355328
      ·
       rw [if_pos c101] at H
       have LMc101 := Aside0.mk c101
       clear c101
       obtain ⟨y217, hy217⟩ : ∃ y_ : List Int, y_ = (t211 ++ y214) := ⟨_, rfl⟩
       replace H : ((spec_PutWord.f y217 a0_14).bind fun t220 => ((spec_PutWord.f t220 a0_15).bind fun t223 => (some t223))) = some r := by first | (rw [hy217]; with_reducible exact H) | (have H2_ := (Option.bind_some _ _).symm.trans H; rw [hy217]; with_reducible exact H2_) | (have H2_ := (Option.bind_some _ _).symm.trans H; with_reducible exact H2_) | with_reducible exact H | (rw [hy217]; exact H) | exact H
       have Ny217 := Aside0.mk hy217
       clear hy217
       obtain ⟨t220, A102, H⟩ := bd_ H
       obtain ⟨t223, A103, H⟩ := bd_ H
       obtain rfl := Option.some.inj H
       try go_wp2
       replace BK146 := am_ (blk_drew BK146.out)
       replace BK188 := am_ (blk_drew BK188.out)
       replace HB := am_ (below_drew1 HB.out)
       refine start_ (n := 16) (S := fun w' => w'.cell? ⟨gb188, 0, none⟩ = some (.int .i64 a0_9) ∧ w'.cell? ⟨gb188, 1, none⟩ = some (.string a0_10) ∧ w'.cell? ⟨gb188, 2, none⟩ = some (.int .i64 a0_11) ∧ w'.cell? ⟨gb188, 3, none⟩ = some (.int .i64 a0_12) ∧ w'.cell? ⟨gb188, 4, none⟩ = some (.int .i64 a0_13) ∧ w'.cell? ⟨gb188, 5, none⟩ = some (.int .i64 a0_14) ∧ w'.cell? ⟨gb188, 6, none⟩ = some (.int .i64 a0_15)) (ds := []) (rl [0,16]) (by kernel_rfl) rfl rfl (cz7 BK188.out) (fun hHeld => ?_); refine with_tabW spec_PutItem.tab11 spec_PutItem.bits11 (fun HT_ HW_ => ?_)
       generalize wc.drew = w104 at BK146 BK188 HB hHeld ⊢
       refine pz_ (i := 1) (N := some 86) HT_ (rl [0,1,1,14]) rfl rfl ?_
       refine pz_ (i := 4) (N := some 89) HT_ (rl [0,1,1,2,1,11]) rfl rfl ?_
       refine pz_ (i := 9) (N := some 94) HT_ (rl [0,1,1,2,1,4,1,6]) rfl rfl ?_
       refine pz_ (i := 12) (N := some 97) HT_ (rl [0,1,1,2,1,4,1,2,1,3]) rfl rfl ?_
       refine take_ (i := 2) (N := some 87) (v := ?_) (a' := ?_) (rl [0,1,2,1,1,4,1,2,1,3]) rfl rfl (take_ofW HT_.out HW_.out (by kernel_rfl)) (fun _ _ _ h => h) (Or.inl ⟨by rfl, ?_⟩) hHeld ?_ ?_
       rotate_left
       ·
        rintro w' ⟨s0, s1, s2, s3, s4, s5, s6⟩
        go_simp
        with_reducible rfl
       rotate_left
       ·
        exact ap_
       refine take_ (i := 5) (N := some 90) (v := ?_) (a' := ?_) (rl [0,1,2,1,2,3,1,2,1,3]) rfl rfl (take_ofW HT_.out HW_.out (by kernel_rfl)) (fun _ _ _ h => h) (Or.inl ⟨by rfl, ?_⟩) hHeld ?_ ?_
       rotate_left
       ·
        rintro w' ⟨s0, s1, s2, s3, s4, s5, s6⟩
        go_simp
        with_reducible rfl
       rotate_left
       ·
        exact ap_
       refine pz_ (i := 6) (N := some 91) HT_ (rl [0,1,2,1,3,2,1,2,1,3]) rfl rfl ?_
       refine take_ (i := 10) (N := some 95) (v := ?_) (a' := ?_) (rl [0,1,2,1,3,2,2,1,1,3]) rfl rfl (take_ofW HT_.out HW_.out (by kernel_rfl)) (fun _ _ _ h => h) (Or.inl ⟨by rfl, ?_⟩) hHeld ?_ ?_
       rotate_left
       ·
        rintro w' ⟨s0, s1, s2, s3, s4, s5, s6⟩
        go_simp
        with_reducible rfl
       rotate_left
       ·
        exact ap_
       refine take_ (i := 13) (N := some 98) (v := ?_) (a' := ?_) (rl [0,1,2,1,3,2,2,1,2,2]) rfl rfl (take_ofW HT_.out HW_.out (by kernel_rfl)) (fun _ _ _ h => h) (Or.inl ⟨by rfl, ?_⟩) hHeld ?_ ?_
       rotate_left
       ·
        rintro w' ⟨s0, s1, s2, s3, s4, s5, s6⟩
        go_simp
        with_reducible rfl
       rotate_left
       ·
        exact ap_
       refine join_ (σ := Value × Value × Value) 4 (rl [8,1,2,1,2,2]) (fun s_ => [(85, s_.1), (88, s_.2.1), (92, s_.2.2)]) (fun s_ w' => (w'.cell? ⟨gb188, 0, none⟩ = some (.int .i64 a0_9) ∧ w'.cell? ⟨gb188, 1, none⟩ = some (.string a0_10) ∧ w'.cell? ⟨gb188, 2, none⟩ = some (.int .i64 a0_11) ∧ w'.cell? ⟨gb188, 3, none⟩ = some (.int .i64 a0_12) ∧ w'.cell? ⟨gb188, 4, none⟩ = some (.int .i64 a0_13) ∧ w'.cell? ⟨gb188, 5, none⟩ = some (.int .i64 a0_14) ∧ w'.cell? ⟨gb188, 6, none⟩ = some (.int .i64 a0_15)) ∧ (Kd.R (Kd.int .u8) 5 w' w.heap.size (fun k_ => some k_ ≠ (s_.2.1 : Value).ownBlock ∧ some k_ ≠ (s_.2.2 : Value).ownBlock) s_.1 y193) ∧ (Kd.R (Kd.int .u8) 5 w' w.heap.size (fun k_ => some k_ ≠ (s_.1 : Value).ownBlock ∧ some k_ ≠ (s_.2.2 : Value).ownBlock) s_.2.1 t196) ∧ (Kd.R (Kd.int .u8) 5 w' w.heap.size (fun k_ => some k_ ≠ (s_.1 : Value).ownBlock ∧ some k_ ≠ (s_.2.1 : Value).ownBlock) s_.2.2 y199) ∧ (w'.heap[gb146]? = some (.cells #[.int .i64 a0_0, .int .i64 a0_1, .string a0_2, .int .i64 a0_3, .int .i64 a0_4, .int .i64 a0_5, .string a0_6, .int .i64 a0_7, .int .i64 a0_8, .int .i64 a0_9, .string a0_10, .int .i64 a0_11, .int .i64 a0_12, .int .i64 a0_13, .int .i64 a0_14, .int .i64 a0_15] 48 (0, 0))) ∧ (w'.heap[gb188]? = some (.cells #[.int .i64 a0_9, .string a0_10, .int .i64 a0_11, .int .i64 a0_12, .int .i64 a0_13, .int .i64 a0_14, .int .i64 a0_15] 46 (0, 0))) ∧ (Below w.heap.size w w')) ?_ ?_
       rotate_left
       ·
        intro hCont
        refine two_ (i := 0) (j := 7) (Ni := some 85) (Nj := some 92) (rl [3,1,3,2,2,1,2,2]) (rl [0,1,2,1,4,1,2,1,2,2]) rfl rfl rfl rfl (two_of HT_.out (by kernel_rfl)) (by decide) (by decide) (fun K hK => ?_) (fun K hK => ?_)
        ·
         skip
         refine Kd.R_lit_step (Kd.int .u8) _ 5 ?hg (N := 85) ?hd (xs := ([2] : List Int)) (inner := [.int .u8 2]) (ok := fun _ => True) (okp := fun _ => True) ?hr ?hp (fun _ hk => hk) trivial (Below.refl _ _) (Nat.le_refl _) (by simp) ?_; (case hd => rfl); (case hg => rfl); (case hr => first | (go_simp; done) | (go_simp; rfl)); (case hp => exact (Reps.one (show Kd.M (Kd.int .u8) _ _ _ 2 [.int .u8 2] from rfl) (Reps.none _ _)))
         intro v194 w105 ho106 hb hg_ hnew_
         clear hg_ hnew_
         (first | rw [← Ny193.out] at ho106 | (simp only [Int.reduceToNat] at ho106; rw [← Ny193.out] at ho106))
         have HO195 := am_ (Kd.R_lower ho106 (below_size (qB HB)))
         replace BK146 := am_ (blk_below (qK BK146) hb)
         replace BK188 := am_ (blk_below (qK BK188) hb)
         replace HB := am_ (below_step (qB HB) hb)
         clear hb ho106
         obtain ⟨Ao107, co107, eo107⟩ := Kd.R_slice HO195.out
         (first | subst eo107 | (injection eo107 with f1_ f2_ f3_; have f4_ := f1_.symm; have f5_ := f3_.symm; clear f1_ f2_ f3_; subst f4_; subst f5_))
         refine hK.out _ _ (cz7 BK188.out) (fun hHeld => ?_)
         clear hK K
         refine norm_ (a' := ?_) ?_ ?_
         rotate_left
         ·
          show Act.put _ (some 85) _ = _
          exact ap_
         refine two_ (i := 3) (j := 7) (Ni := some 88) (Nj := some 92) (rl [7,2,2,1,2,2]) (rl [3,1,4,1,2,1,2,2]) rfl rfl rfl rfl (two_of HT_.out (by kernel_rfl)) (by decide) (by decide) (fun K hK => ?_) (fun K hK => ?_)
         ·
          skip
          refine goes_ Try.func75 (by kernel_rfl) rfl #[.slice Ao107 y193.length co107, .int .i64 a0_9] (by rfl) rfl rfl la_ ?_
          with_reducible refine (spec_PutWord.calls _ _ y193 a0_9 t196 _ ?side1 ?side2 A96.out).mono ?_
          (case side1 => exact qC ((Kd.R_reads' HO195.out).2.2))
          (case side2 => exact (Kd.R_reads' HO195.out).2.1)
          rintro e w108 ⟨v197, rfl, ho0, hb⟩
          refine ⟨_, rfl, ?_⟩
          have HO198 := am_ (Kd.R_lower (Kd.R_new' ho0 (Kd.R_lt (qR HO195))) (below_size (qB HB)))
          replace HO195 := am_ (eR HO195 ho0 hb)
          replace BK146 := am_ (blk_below (qK BK146) hb)
          replace BK188 := am_ (blk_below (qK BK188) hb)
          replace HB := am_ (below_step (qB HB) hb)
          (try clear hb ho0)
          refine hK.out _ _ (cz7 BK188.out) (fun hHeld => ?_)
          clear hK K
          refine norm_ (a' := ?_) ?_ ?_
          rotate_left
          ·
           show Act.put _ (some 88) _ = _
           exact ap_
          refine one_ (i := 7) (N := some 92) (rl [8,1,2,1,2,2]) rfl rfl (one_of HT_.out (by kernel_rfl)) (by decide) (fun K hK => ?_)
          refine Kd.R_lit_step (Kd.int .u8) _ 5 ?hg (N := 92) ?hd (xs := ([(a0_12) % 256] : List Int)) (inner := [.int .u8 ((a0_12) % 256)]) (ok := fun _ => True) (okp := fun _ => True) ?hr ?hp (fun _ hk => hk) trivial (Below.refl _ _) (Nat.le_refl _) (by simp) ?_; (case hd => rfl); (case hg => rfl); (case hr => first | (go_simp; done) | (go_simp; rfl)); (case hp => exact (Reps.one (show Kd.M (Kd.int .u8) _ _ _ ((a0_12) % 256) [.int .u8 ((a0_12) % 256)] from rfl) (Reps.none _ _)))
          intro v200 w109 ho110 hb hg_ hnew_
          clear hg_ hnew_
          (first | rw [← Ny199.out] at ho110 | (simp only [Int.reduceToNat] at ho110; rw [← Ny199.out] at ho110))
          have HO201 := am_ (Kd.R_lower (Kd.R_new' (Kd.R_new' ho110 (Kd.R_lt (qR HO195))) (Kd.R_lt (qR HO198))) (below_size (qB HB)))
          replace HO195 := am_ (eR HO195 ho110 hb)
          replace HO198 := am_ (eR HO198 ho110 hb)
          replace BK146 := am_ (blk_below (qK BK146) hb)
          replace BK188 := am_ (blk_below (qK BK188) hb)
          replace HB := am_ (below_step (qB HB) hb)
          clear hb ho110
          refine hK.out _ _ (cz7 BK188.out) (fun hHeld => ?_)
          clear hK K
          refine norm_ (a' := ?_) ?_ ?_
          rotate_left
          ·
           show Act.put _ (some 92) _ = _
           exact ap_
          exact norm_ (by simp only [putAll, Act.put, List.setIfInBounds_toArray, List.set_cons_zero, List.set_cons_succ]) (hCont (.slice Ao107 y193.length co107, v197, v200) _ ⟨hHeld, (tR (Kd.R_mono HO195.out (fun _ hk => ⟨hk.1.2, hk.2⟩))), (tR (Kd.R_mono HO198.out (fun _ hk => ⟨hk.1.2, hk.2⟩))), (tR (Kd.R_mono HO201.out (fun _ hk => ⟨hk.1.2, hk.2⟩))), (qK BK146), (qK BK188), (qB HB)⟩)
         ·
          skip
          refine Kd.R_lit_step (Kd.int .u8) _ 5 ?hg (N := 92) ?hd (xs := ([(a0_12) % 256] : List Int)) (inner := [.int .u8 ((a0_12) % 256)]) (ok := fun _ => True) (okp := fun _ => True) ?hr ?hp (fun _ hk => hk) trivial (Below.refl _ _) (Nat.le_refl _) (by simp) ?_; (case hd => rfl); (case hg => rfl); (case hr => first | (go_simp; done) | (go_simp; rfl)); (case hp => exact (Reps.one (show Kd.M (Kd.int .u8) _ _ _ ((a0_12) % 256) [.int .u8 ((a0_12) % 256)] from rfl) (Reps.none _ _)))
          intro v200 w107 ho108 hb hg_ hnew_
          clear hg_ hnew_
          (first | rw [← Ny199.out] at ho108 | (simp only [Int.reduceToNat] at ho108; rw [← Ny199.out] at ho108))
          have HO201 := am_ (Kd.R_lower (Kd.R_new' ho108 (Kd.R_lt (qR HO195))) (below_size (qB HB)))
          replace HO195 := am_ (eR HO195 ho108 hb)
          replace BK146 := am_ (blk_below (qK BK146) hb)
          replace BK188 := am_ (blk_below (qK BK188) hb)
          replace HB := am_ (below_step (qB HB) hb)
          clear hb ho108
          obtain ⟨Ao109, co109, eo109⟩ := Kd.R_slice HO195.out
          (first | subst eo109 | (injection eo109 with f1_ f2_ f3_; have f4_ := f1_.symm; have f5_ := f3_.symm; clear f1_ f2_ f3_; subst f4_; subst f5_))
          refine hK.out _ _ (cz7 BK188.out) (fun hHeld => ?_)
          clear hK K
          refine norm_ (a' := ?_) ?_ ?_
          rotate_left
          ·
           show Act.put _ (some 92) _ = _
           exact ap_
          refine one_ (i := 3) (N := some 88) (rl [8,1,2,1,2,2]) rfl rfl (one_of HT_.out (by kernel_rfl)) (by decide) (fun K hK => ?_)
          refine goes_ Try.func75 (by kernel_rfl) rfl #[.slice Ao109 y193.length co109, .int .i64 a0_9] (by rfl) rfl rfl la_ ?_
          with_reducible refine (spec_PutWord.calls _ _ y193 a0_9 t196 _ ?side1 ?side2 A96.out).mono ?_
          (case side1 => exact qC ((Kd.R_reads' HO195.out).2.2))
          (case side2 => exact (Kd.R_reads' HO195.out).2.1)
          rintro e w110 ⟨v197, rfl, ho0, hb⟩
          refine ⟨_, rfl, ?_⟩
          have HO198 := am_ (Kd.R_lower (Kd.R_new' (Kd.R_new' ho0 (Kd.R_lt (qR HO195))) (Kd.R_lt (qR HO201))) (below_size (qB HB)))
          replace HO195 := am_ (eR HO195 ho0 hb)
          replace HO201 := am_ (eR HO201 ho0 hb)
          replace BK146 := am_ (blk_below (qK BK146) hb)
          replace BK188 := am_ (blk_below (qK BK188) hb)
          replace HB := am_ (below_step (qB HB) hb)
          (try clear hb ho0)
          refine hK.out _ _ (cz7 BK188.out) (fun hHeld => ?_)
          clear hK K
          refine norm_ (a' := ?_) ?_ ?_
          rotate_left
          ·
           show Act.put _ (some 88) _ = _
           exact ap_
          exact norm_ (by simp only [putAll, Act.put, List.setIfInBounds_toArray, List.set_cons_zero, List.set_cons_succ]) (hCont (.slice Ao109 y193.length co109, v197, v200) _ ⟨hHeld, (tR (Kd.R_mono HO195.out (fun _ hk => ⟨hk.2, hk.1.2⟩))), (tR (Kd.R_mono HO198.out (fun _ hk => ⟨hk.1.2, hk.2⟩))), (tR (Kd.R_mono HO201.out (fun _ hk => ⟨hk.1.2, hk.2⟩))), (qK BK146), (qK BK188), (qB HB)⟩)
        ·
         skip
         refine Kd.R_lit_step (Kd.int .u8) _ 5 ?hg (N := 92) ?hd (xs := ([(a0_12) % 256] : List Int)) (inner := [.int .u8 ((a0_12) % 256)]) (ok := fun _ => True) (okp := fun _ => True) ?hr ?hp (fun _ hk => hk) trivial (Below.refl _ _) (Nat.le_refl _) (by simp) ?_; (case hd => rfl); (case hg => rfl); (case hr => first | (go_simp; done) | (go_simp; rfl)); (case hp => exact (Reps.one (show Kd.M (Kd.int .u8) _ _ _ ((a0_12) % 256) [.int .u8 ((a0_12) % 256)] from rfl) (Reps.none _ _)))
         intro v200 w105 ho106 hb hg_ hnew_
         clear hg_ hnew_
         (first | rw [← Ny199.out] at ho106 | (simp only [Int.reduceToNat] at ho106; rw [← Ny199.out] at ho106))
         have HO201 := am_ (Kd.R_lower ho106 (below_size (qB HB)))
         replace BK146 := am_ (blk_below (qK BK146) hb)
         replace BK188 := am_ (blk_below (qK BK188) hb)
         replace HB := am_ (below_step (qB HB) hb)
         clear hb ho106
         refine hK.out _ _ (cz7 BK188.out) (fun hHeld => ?_)
         clear hK K
         refine norm_ (a' := ?_) ?_ ?_
         rotate_left
         ·
          show Act.put _ (some 92) _ = _
          exact ap_
         refine one_ (i := 0) (N := some 85) (rl [3,1,4,1,2,1,2,2]) rfl rfl (one_of HT_.out (by kernel_rfl)) (by decide) (fun K hK => ?_)
         refine Kd.R_lit_step (Kd.int .u8) _ 5 ?hg (N := 85) ?hd (xs := ([2] : List Int)) (inner := [.int .u8 2]) (ok := fun _ => True) (okp := fun _ => True) ?hr ?hp (fun _ hk => hk) trivial (Below.refl _ _) (Nat.le_refl _) (by simp) ?_; (case hd => rfl); (case hg => rfl); (case hr => first | (go_simp; done) | (go_simp; rfl)); (case hp => exact (Reps.one (show Kd.M (Kd.int .u8) _ _ _ 2 [.int .u8 2] from rfl) (Reps.none _ _)))
         intro v194 w107 ho108 hb hg_ hnew_
         clear hg_ hnew_
         (first | rw [← Ny193.out] at ho108 | (simp only [Int.reduceToNat] at ho108; rw [← Ny193.out] at ho108))
         have HO195 := am_ (Kd.R_lower (Kd.R_new' ho108 (Kd.R_lt (qR HO201))) (below_size (qB HB)))
         replace HO201 := am_ (eR HO201 ho108 hb)
         replace BK146 := am_ (blk_below (qK BK146) hb)
         replace BK188 := am_ (blk_below (qK BK188) hb)
         replace HB := am_ (below_step (qB HB) hb)
         clear hb ho108
         obtain ⟨Ao109, co109, eo109⟩ := Kd.R_slice HO195.out
         (first | subst eo109 | (injection eo109 with f1_ f2_ f3_; have f4_ := f1_.symm; have f5_ := f3_.symm; clear f1_ f2_ f3_; subst f4_; subst f5_))
         refine hK.out _ _ (cz7 BK188.out) (fun hHeld => ?_)
         clear hK K
         refine norm_ (a' := ?_) ?_ ?_
         rotate_left
         ·
          show Act.put _ (some 85) _ = _
          exact ap_
         refine one_ (i := 3) (N := some 88) (rl [8,1,2,1,2,2]) rfl rfl (one_of HT_.out (by kernel_rfl)) (by decide) (fun K hK => ?_)
         refine goes_ Try.func75 (by kernel_rfl) rfl #[.slice Ao109 y193.length co109, .int .i64 a0_9] (by rfl) rfl rfl la_ ?_
         with_reducible refine (spec_PutWord.calls _ _ y193 a0_9 t196 _ ?side1 ?side2 A96.out).mono ?_
         (case side1 => exact qC ((Kd.R_reads' HO195.out).2.2))
         (case side2 => exact (Kd.R_reads' HO195.out).2.1)
         rintro e w110 ⟨v197, rfl, ho0, hb⟩
         refine ⟨_, rfl, ?_⟩
         have HO198 := am_ (Kd.R_lower (Kd.R_new' (Kd.R_new' ho0 (Kd.R_lt (qR HO201))) (Kd.R_lt (qR HO195))) (below_size (qB HB)))
         replace HO201 := am_ (eR HO201 ho0 hb)
         replace HO195 := am_ (eR HO195 ho0 hb)
         replace BK146 := am_ (blk_below (qK BK146) hb)
         replace BK188 := am_ (blk_below (qK BK188) hb)
         replace HB := am_ (below_step (qB HB) hb)
         (try clear hb ho0)
         refine hK.out _ _ (cz7 BK188.out) (fun hHeld => ?_)
         clear hK K
         refine norm_ (a' := ?_) ?_ ?_
         rotate_left
         ·
          show Act.put _ (some 88) _ = _
          exact ap_
         exact norm_ (by simp only [putAll, Act.put, List.setIfInBounds_toArray, List.set_cons_zero, List.set_cons_succ]) (hCont (.slice Ao109 y193.length co109, v197, v200) _ ⟨hHeld, (tR (Kd.R_mono HO195.out (fun _ hk => ⟨hk.2, hk.1.2⟩))), (tR (Kd.R_mono HO198.out (fun _ hk => ⟨hk.2, hk.1.2⟩))), (tR (Kd.R_mono HO201.out (fun _ hk => ⟨hk.1.2, hk.2⟩))), (qK BK146), (qK BK188), (qB HB)⟩)
       rintro ⟨v194, v197, v200⟩ w111 ⟨hS_, h0_, h1_, h2_, h3_, h4_, h5_⟩
       have n0_ : Aside0 (Kd.R (Kd.int .u8) 5 w111 w.heap.size (fun k_ => some k_ ≠ (v197 : Value).ownBlock ∧ some k_ ≠ (v200 : Value).ownBlock) v194 y193) := ⟨h0_⟩
       have n1_ : Aside0 (Kd.R (Kd.int .u8) 5 w111 w.heap.size (fun k_ => some k_ ≠ (v194 : Value).ownBlock ∧ some k_ ≠ (v200 : Value).ownBlock) v197 t196) := ⟨h1_⟩
       have n2_ : Aside0 (Kd.R (Kd.int .u8) 5 w111 w.heap.size (fun k_ => some k_ ≠ (v194 : Value).ownBlock ∧ some k_ ≠ (v197 : Value).ownBlock) v200 y199) := ⟨h2_⟩
       have n3_ : Aside0 (w111.heap[gb146]? = some (.cells #[.int .i64 a0_0, .int .i64 a0_1, .string a0_2, .int .i64 a0_3, .int .i64 a0_4, .int .i64 a0_5, .string a0_6, .int .i64 a0_7, .int .i64 a0_8, .int .i64 a0_9, .string a0_10, .int .i64 a0_11, .int .i64 a0_12, .int .i64 a0_13, .int .i64 a0_14, .int .i64 a0_15] 48 (0, 0))) := ⟨h3_⟩
       have n4_ : Aside0 (w111.heap[gb188]? = some (.cells #[.int .i64 a0_9, .string a0_10, .int .i64 a0_11, .int .i64 a0_12, .int .i64 a0_13, .int .i64 a0_14, .int .i64 a0_15] 46 (0, 0))) := ⟨h4_⟩
       have n5_ : Aside0 (Below w.heap.size w w111) := ⟨h5_⟩
       clear BK146
       clear BK188
       clear HB
       clear h0_ h1_ h2_ h3_ h4_ h5_
       have HO195 := n0_
       have HO198 := n1_
       have HO201 := n2_
       have BK146 := n3_
       have BK188 := n4_
       have HB := n5_
       clear n0_ n1_ n2_ n3_ n4_ n5_
       have hHeld : w111.cell? ⟨gb188, 0, none⟩ = some (.int .i64 a0_9) ∧ w111.cell? ⟨gb188, 1, none⟩ = some (.string a0_10) ∧ w111.cell? ⟨gb188, 2, none⟩ = some (.int .i64 a0_11) ∧ w111.cell? ⟨gb188, 3, none⟩ = some (.int .i64 a0_12) ∧ w111.cell? ⟨gb188, 4, none⟩ = some (.int .i64 a0_13) ∧ w111.cell? ⟨gb188, 5, none⟩ = some (.int .i64 a0_14) ∧ w111.cell? ⟨gb188, 6, none⟩ = some (.int .i64 a0_15) := hS_
       obtain ⟨Ao113, co113, eo113⟩ := Kd.R_slice HO201.out
       (first | subst eo113 | (injection eo113 with f1_ f2_ f3_; have f4_ := f1_.symm; have f5_ := f3_.symm; clear f1_ f2_ f3_; subst f4_; subst f5_))
       refine norm_ (a' := ?_) ?_ ?_
       rotate_left
       ·
        simp only [putAll, Act.put, List.setIfInBounds_toArray, List.set_cons_zero, List.set_cons_succ]
        rfl
       refine one_ (i := 8) (N := some 93) (rl [11,1,2,2]) rfl rfl (one_of HT_.out (by kernel_rfl)) (by decide) (fun K hK => ?_)
       refine Kd.R_append_rows_step (Kd.int .u8) (w0 := w) w.heap.size (by rfl) (.tmp 88) (.tmp 92) 22 5 (.int .u8 0) 1 rfl Try.underlying22 info5 rfl (by decide) (by omega) v197 t196 y199 _ _ _ (fun k_ => some k_ ≠ (v194 : Value).ownBlock ∧ some k_ ≠ (.slice Ao113 y199.length co113 : Value).ownBlock) (fun _ => False) rfl rfl ?aO ?aR (fun _ _ h => h) (fun _ h => h.elim) ?aF ?aB ?aS ?aL ?_
       (case aR => exact qC ((Kd.R_reads' HO201.out).2.2))
       (case aB => exact (qB HB))
       (case aF => exact (fun k_ hk => ⟨Kd.fresh' (Kd.R_lt (qR HO195)) k_ hk, Kd.fresh' (Kd.R_lt (qR HO201)) k_ hk⟩))
       (case aO => exact (qR HO198))
       (case aS => exact (below_size (qB HB)))
       (case aL => have := LMc97.out; omega)
       intro v203 w112 ho hb hg hat
       rw [← Ny202.out] at ho
       replace BK146 := am_ (blk_grown (qK BK146) hg (Kd.R_ne HO198.out BK146.out (by decide)))
       replace BK188 := am_ (blk_grown (qK BK188) hg (Kd.R_ne HO198.out BK188.out (by decide)))
       replace HO195 := am_ (Kd.R_after (ok := (fun k_ => some k_ ≠ (.slice Ao113 y199.length co113 : Value).ownBlock)) (tR (Kd.R_mono HO195.out (fun _ hk => ⟨hk.2, hk.1⟩))) hg hat)
       replace HO201 := am_ (Kd.R_after (ok := (fun k_ => some k_ ≠ (v194 : Value).ownBlock)) (qR HO201) hg hat)
       replace HB := am_ (hb)
       have HO204 := am_ (ho)
       clear HO198
       clear ho hb hg hat
       obtain ⟨Ao114, co114, eo114⟩ := Kd.R_slice HO204.out
       (first | subst eo114 | (injection eo114 with f1_ f2_ f3_; have f4_ := f1_.symm; have f5_ := f3_.symm; clear f1_ f2_ f3_; subst f4_; subst f5_))
       refine hK.out _ _ (cz7 BK188.out) (fun hHeld => ?_)
       clear hK K
       refine norm_ (a' := ?_) ?_ ?_
       rotate_left
       ·
        show Act.put _ (some 93) _ = _
        exact ap_
       refine one_ (i := 11) (N := some 96) (rl [14,2]) rfl rfl (one_of HT_.out (by kernel_rfl)) (by decide) (fun K hK => ?_)
       refine goes_ Try.func74 (by kernel_rfl) rfl #[.slice Ao114 y202.length co114, .string a0_10] (by rfl) rfl rfl la_ ?_
       with_reducible refine (spec_PutText.calls kj66 _ _ y202 a0_10 t205 _ ?side1 ?side2 A98.out).mono ?_
       (case side1 => exact qC ((Kd.R_reads' HO204.out).2.2))
       (case side2 => exact (Kd.R_reads' HO204.out).2.1)
       rintro e w115 ⟨v206, rfl, ho0, hb⟩
       refine ⟨_, rfl, ?_⟩
       have HO207 := am_ (Kd.R_lower (Kd.R_new' (Kd.R_new' (Kd.R_new' ho0 (Kd.R_lt (qR HO195))) (Kd.R_lt (qR HO201))) (Kd.R_lt (qR HO204))) (below_size (qB HB)))
       replace HO195 := am_ (eR HO195 ho0 hb)
       replace HO201 := am_ (eR HO201 ho0 hb)
       replace HO204 := am_ (eR HO204 ho0 hb)
       replace BK146 := am_ (blk_below (qK BK146) hb)
       replace BK188 := am_ (blk_below (qK BK188) hb)
       replace HB := am_ (below_step (qB HB) hb)
       (try clear hb ho0)
       obtain ⟨Ao116, co116, eo116⟩ := Kd.R_slice HO207.out
       (first | subst eo116 | (injection eo116 with f1_ f2_ f3_; have f4_ := f1_.symm; have f5_ := f3_.symm; clear f1_ f2_ f3_; subst f4_; subst f5_))
       refine hK.out _ _ (cz7 BK188.out) (fun hHeld => ?_)
       clear hK K
       refine norm_ (a' := ?_) ?_ ?_
       rotate_left
       ·
        show Act.put _ (some 96) _ = _
        exact ap_
       refine one_ (i := 14) (N := some 99) (rl [15,1]) rfl rfl (one_of HT_.out (by kernel_rfl)) (by decide) (fun K hK => ?_)
       refine goes_ Try.func75 (by kernel_rfl) rfl #[.slice Ao116 t205.length co116, .int .i64 a0_11] (by rfl) rfl rfl la_ ?_
       with_reducible refine (spec_PutWord.calls _ _ t205 a0_11 t208 _ ?side1 ?side2 A99.out).mono ?_
       (case side1 => exact qC ((Kd.R_reads' HO207.out).2.2))
       (case side2 => exact (Kd.R_reads' HO207.out).2.1)
       rintro e w117 ⟨v209, rfl, ho0, hb⟩
       refine ⟨_, rfl, ?_⟩
       have HO210 := am_ (Kd.R_lower (Kd.R_new' (Kd.R_new' (Kd.R_new' (Kd.R_new' ho0 (Kd.R_lt (qR HO195))) (Kd.R_lt (qR HO201))) (Kd.R_lt (qR HO204))) (Kd.R_lt (qR HO207))) (below_size (qB HB)))
       replace HO195 := am_ (eR HO195 ho0 hb)
       replace HO201 := am_ (eR HO201 ho0 hb)
       replace HO204 := am_ (eR HO204 ho0 hb)
       replace HO207 := am_ (eR HO207 ho0 hb)
       replace BK146 := am_ (blk_below (qK BK146) hb)
       replace BK188 := am_ (blk_below (qK BK188) hb)
       replace HB := am_ (below_step (qB HB) hb)
       (try clear hb ho0)
       refine hK.out _ _ (cz7 BK188.out) (fun hHeld => ?_)
       clear hK K
       refine norm_ (a' := ?_) ?_ ?_
       rotate_left
       ·
        show Act.put _ (some 99) _ = _
        exact ap_
       refine pz_ (i := 15) (N := some 6) HT_ (rl [16]) rfl rfl ?_
       refine done_ (done_of HT_.out (by kernel_rfl)) ?_
       obtain ⟨Ao118, co118, eo118⟩ := Kd.R_slice HO210.out
       subst eo118
       try go_wp2
       replace HO195 := am_ (Kd.R_drew HO195.out)
       replace HO201 := am_ (Kd.R_drew HO201.out)
       replace HO204 := am_ (Kd.R_drew HO204.out)
       replace HO207 := am_ (Kd.R_drew HO207.out)
       replace HO210 := am_ (Kd.R_drew HO210.out)
       replace BK146 := am_ (blk_drew BK146.out)
       replace BK188 := am_ (blk_drew BK188.out)
       replace HB := am_ (below_drew1 HB.out)
       refine start_ (n := 18) (S := fun w' => w'.cell? ⟨gb188, 0, none⟩ = some (.int .i64 a0_9) ∧ w'.cell? ⟨gb188, 1, none⟩ = some (.string a0_10) ∧ w'.cell? ⟨gb188, 2, none⟩ = some (.int .i64 a0_11) ∧ w'.cell? ⟨gb188, 3, none⟩ = some (.int .i64 a0_12) ∧ w'.cell? ⟨gb188, 4, none⟩ = some (.int .i64 a0_13) ∧ w'.cell? ⟨gb188, 5, none⟩ = some (.int .i64 a0_14) ∧ w'.cell? ⟨gb188, 6, none⟩ = some (.int .i64 a0_15)) (ds := []) (rl [0,18]) (by kernel_rfl) rfl rfl (cz7 BK188.out) (fun hHeld => ?_); refine with_tabW spec_PutItem.tab12 spec_PutItem.bits12 (fun HT_ HW_ => ?_)
       generalize w117.drew = w119 at HO195 HO201 HO204 HO207 HO210 BK146 BK188 HB hHeld ⊢
       refine pz_ (i := 0) (N := some 100) HT_ (rl [1,17]) rfl rfl ?_
       refine pz_ (i := 1) (N := some 101) HT_ (rl [2,16]) rfl rfl ?_
       refine pz_ (i := 5) (N := some 105) HT_ (rl [2,3,1,12]) rfl rfl ?_
       refine pz_ (i := 11) (N := some 111) HT_ (rl [2,3,1,5,1,6]) rfl rfl ?_
       refine pz_ (i := 14) (N := some 114) HT_ (rl [2,3,1,5,1,2,1,3]) rfl rfl ?_
       refine take_ (i := 2) (N := some 102) (v := ?_) (a' := ?_) (rl [3,2,1,5,1,2,1,3]) rfl rfl (take_ofW HT_.out HW_.out (by kernel_rfl)) (fun _ _ _ h => h) (Or.inl ⟨by rfl, ?_⟩) hHeld ?_ ?_
       rotate_left
       ·
        rintro w' ⟨s0, s1, s2, s3, s4, s5, s6⟩
        go_simp
        with_reducible rfl
       rotate_left
       ·
        exact ap_
       refine pz_ (i := 3) (N := some 103) HT_ (rl [4,1,1,5,1,2,1,3]) rfl rfl ?_
       refine take_ (i := 6) (N := some 106) (v := ?_) (a' := ?_) (rl [4,1,2,4,1,2,1,3]) rfl rfl (take_ofW HT_.out HW_.out (by kernel_rfl)) (fun _ _ _ h => h) (Or.inl ⟨by rfl, ?_⟩) hHeld ?_ ?_
       rotate_left
       ·
        rintro w' ⟨s0, s1, s2, s3, s4, s5, s6⟩
        go_simp
        with_reducible rfl
       rotate_left
       ·
        exact ap_
       refine pz_ (i := 7) (N := some 107) HT_ (rl [4,1,3,3,1,2,1,3]) rfl rfl ?_
       refine pz_ (i := 8) (N := some 108) HT_ (rl [4,1,4,2,1,2,1,3]) rfl rfl ?_
       refine take_ (i := 12) (N := some 112) (v := ?_) (a' := ?_) (rl [4,1,4,2,2,1,1,3]) rfl rfl (take_ofW HT_.out HW_.out (by kernel_rfl)) (fun _ _ _ h => h) (Or.inl ⟨by rfl, ?_⟩) hHeld ?_ ?_
       rotate_left
       ·
        rintro w' ⟨s0, s1, s2, s3, s4, s5, s6⟩
        go_simp
        with_reducible rfl
       rotate_left
       ·
        exact ap_
       refine take_ (i := 15) (N := some 115) (v := ?_) (a' := ?_) (rl [4,1,4,2,2,1,2,2]) rfl rfl (take_ofW HT_.out HW_.out (by kernel_rfl)) (fun _ _ _ h => h) (Or.inl ⟨by rfl, ?_⟩) hHeld ?_ ?_
       rotate_left
       ·
        rintro w' ⟨s0, s1, s2, s3, s4, s5, s6⟩
        go_simp
        with_reducible rfl
       rotate_left
       ·
        exact ap_
       refine join_ (σ := Value × Value) 4 (rl [10,1,2,1,2,2]) (fun s_ => [(104, s_.1), (109, s_.2)]) (fun s_ w' => (w'.cell? ⟨gb188, 0, none⟩ = some (.int .i64 a0_9) ∧ w'.cell? ⟨gb188, 1, none⟩ = some (.string a0_10) ∧ w'.cell? ⟨gb188, 2, none⟩ = some (.int .i64 a0_11) ∧ w'.cell? ⟨gb188, 3, none⟩ = some (.int .i64 a0_12) ∧ w'.cell? ⟨gb188, 4, none⟩ = some (.int .i64 a0_13) ∧ w'.cell? ⟨gb188, 5, none⟩ = some (.int .i64 a0_14) ∧ w'.cell? ⟨gb188, 6, none⟩ = some (.int .i64 a0_15)) ∧ (Kd.R (Kd.int .u8) 5 w' w.heap.size (fun k_ => some k_ ≠ (.slice Ao113 y199.length co113 : Value).ownBlock ∧ some k_ ≠ (.slice Ao114 y202.length co114 : Value).ownBlock ∧ some k_ ≠ (.slice Ao116 t205.length co116 : Value).ownBlock ∧ some k_ ≠ (.slice Ao118 t208.length co118 : Value).ownBlock ∧ some k_ ≠ (s_.1 : Value).ownBlock ∧ some k_ ≠ (s_.2 : Value).ownBlock) v194 y193) ∧ (Kd.R (Kd.int .u8) 5 w' w.heap.size (fun k_ => some k_ ≠ (v194 : Value).ownBlock ∧ some k_ ≠ (.slice Ao114 y202.length co114 : Value).ownBlock ∧ some k_ ≠ (.slice Ao116 t205.length co116 : Value).ownBlock ∧ some k_ ≠ (.slice Ao118 t208.length co118 : Value).ownBlock ∧ some k_ ≠ (s_.1 : Value).ownBlock ∧ some k_ ≠ (s_.2 : Value).ownBlock) (.slice Ao113 y199.length co113) y199) ∧ (Kd.R (Kd.int .u8) 5 w' w.heap.size (fun k_ => some k_ ≠ (v194 : Value).ownBlock ∧ some k_ ≠ (.slice Ao113 y199.length co113 : Value).ownBlock ∧ some k_ ≠ (.slice Ao116 t205.length co116 : Value).ownBlock ∧ some k_ ≠ (.slice Ao118 t208.length co118 : Value).ownBlock ∧ some k_ ≠ (s_.1 : Value).ownBlock ∧ some k_ ≠ (s_.2 : Value).ownBlock) (.slice Ao114 y202.length co114) y202) ∧ (Kd.R (Kd.int .u8) 5 w' w.heap.size (fun k_ => some k_ ≠ (v194 : Value).ownBlock ∧ some k_ ≠ (.slice Ao113 y199.length co113 : Value).ownBlock ∧ some k_ ≠ (.slice Ao114 y202.length co114 : Value).ownBlock ∧ some k_ ≠ (.slice Ao118 t208.length co118 : Value).ownBlock ∧ some k_ ≠ (s_.1 : Value).ownBlock ∧ some k_ ≠ (s_.2 : Value).ownBlock) (.slice Ao116 t205.length co116) t205) ∧ (Kd.R (Kd.int .u8) 5 w' w.heap.size (fun k_ => some k_ ≠ (v194 : Value).ownBlock ∧ some k_ ≠ (.slice Ao113 y199.length co113 : Value).ownBlock ∧ some k_ ≠ (.slice Ao114 y202.length co114 : Value).ownBlock ∧ some k_ ≠ (.slice Ao116 t205.length co116 : Value).ownBlock ∧ some k_ ≠ (s_.1 : Value).ownBlock ∧ some k_ ≠ (s_.2 : Value).ownBlock) (.slice Ao118 t208.length co118) t208) ∧ (Kd.R (Kd.int .u8) 5 w' w.heap.size (fun k_ => some k_ ≠ (v194 : Value).ownBlock ∧ some k_ ≠ (.slice Ao113 y199.length co113 : Value).ownBlock ∧ some k_ ≠ (.slice Ao114 y202.length co114 : Value).ownBlock ∧ some k_ ≠ (.slice Ao116 t205.length co116 : Value).ownBlock ∧ some k_ ≠ (.slice Ao118 t208.length co118 : Value).ownBlock ∧ some k_ ≠ (s_.2 : Value).ownBlock) s_.1 t211) ∧ (Kd.R (Kd.int .u8) 5 w' w.heap.size (fun k_ => some k_ ≠ (v194 : Value).ownBlock ∧ some k_ ≠ (.slice Ao113 y199.length co113 : Value).ownBlock ∧ some k_ ≠ (.slice Ao114 y202.length co114 : Value).ownBlock ∧ some k_ ≠ (.slice Ao116 t205.length co116 : Value).ownBlock ∧ some k_ ≠ (.slice Ao118 t208.length co118 : Value).ownBlock ∧ some k_ ≠ (s_.1 : Value).ownBlock) s_.2 y214) ∧ (w'.heap[gb146]? = some (.cells #[.int .i64 a0_0, .int .i64 a0_1, .string a0_2, .int .i64 a0_3, .int .i64 a0_4, .int .i64 a0_5, .string a0_6, .int .i64 a0_7, .int .i64 a0_8, .int .i64 a0_9, .string a0_10, .int .i64 a0_11, .int .i64 a0_12, .int .i64 a0_13, .int .i64 a0_14, .int .i64 a0_15] 48 (0, 0))) ∧ (w'.heap[gb188]? = some (.cells #[.int .i64 a0_9, .string a0_10, .int .i64 a0_11, .int .i64 a0_12, .int .i64 a0_13, .int .i64 a0_14, .int .i64 a0_15] 46 (0, 0))) ∧ (Below w.heap.size w w')) ?_ ?_
       rotate_left
       ·
        intro hCont
        refine two_ (i := 4) (j := 9) (Ni := some 104) (Nj := some 109) (rl [9,2,2,1,2,2]) (rl [4,1,5,1,2,1,2,2]) rfl rfl rfl rfl (two_of HT_.out (by kernel_rfl)) (by decide) (by decide) (fun K hK => ?_) (fun K hK => ?_)
        ·
         skip
         refine goes_ Try.func75 (by kernel_rfl) rfl #[.slice Ao118 t208.length co118, .int .i64 (wrap64 (Int.tdiv a0_13 256))] (by rfl) rfl rfl la_ ?_
         with_reducible refine (spec_PutWord.calls _ _ t208 (wrap64 (Int.tdiv a0_13 256)) t211 _ ?side1 ?side2 A100.out).mono ?_
         (case side1 => exact qC ((Kd.R_reads' HO210.out).2.2))
         (case side2 => exact (Kd.R_reads' HO210.out).2.1)
         rintro e w120 ⟨v212, rfl, ho0, hb⟩
         refine ⟨_, rfl, ?_⟩
         have HO213 := am_ (Kd.R_lower (Kd.R_new' (Kd.R_new' (Kd.R_new' (Kd.R_new' (Kd.R_new' ho0 (Kd.R_lt (qR HO195))) (Kd.R_lt (qR HO201))) (Kd.R_lt (qR HO204))) (Kd.R_lt (qR HO207))) (Kd.R_lt (qR HO210))) (below_size (qB HB)))
         replace HO195 := am_ (eR HO195 ho0 hb)
         replace HO201 := am_ (eR HO201 ho0 hb)
         replace HO204 := am_ (eR HO204 ho0 hb)
         replace HO207 := am_ (eR HO207 ho0 hb)
         replace HO210 := am_ (eR HO210 ho0 hb)
         replace BK146 := am_ (blk_below (qK BK146) hb)
         replace BK188 := am_ (blk_below (qK BK188) hb)
         replace HB := am_ (below_step (qB HB) hb)
         (try clear hb ho0)
         refine hK.out _ _ (cz7 BK188.out) (fun hHeld => ?_)
         clear hK K
         refine norm_ (a' := ?_) ?_ ?_
         rotate_left
         ·
          show Act.put _ (some 104) _ = _
          exact ap_
         refine one_ (i := 9) (N := some 109) (rl [10,1,2,1,2,2]) rfl rfl (one_of HT_.out (by kernel_rfl)) (by decide) (fun K hK => ?_)
         refine Kd.R_lit_step (Kd.int .u8) _ 5 ?hg (N := 109) ?hd (xs := ([(Int.tmod a0_13 256) % 256] : List Int)) (inner := [.int .u8 ((Int.tmod a0_13 256) % 256)]) (ok := fun _ => True) (okp := fun _ => True) ?hr ?hp (fun _ hk => hk) trivial (Below.refl _ _) (Nat.le_refl _) (by simp) ?_; (case hd => rfl); (case hg => rfl); (case hr => first | (go_simp; done) | (go_simp; rfl)); (case hp => exact (Reps.one (show Kd.M (Kd.int .u8) _ _ _ ((Int.tmod a0_13 256) % 256) [.int .u8 ((Int.tmod a0_13 256) % 256)] from rfl) (Reps.none _ _)))
         intro v215 w121 ho122 hb hg_ hnew_
         clear hg_ hnew_
         (first | rw [← Ny214.out] at ho122 | (simp only [Int.reduceToNat] at ho122; rw [← Ny214.out] at ho122))
         have HO216 := am_ (Kd.R_lower (Kd.R_new' (Kd.R_new' (Kd.R_new' (Kd.R_new' (Kd.R_new' (Kd.R_new' ho122 (Kd.R_lt (qR HO195))) (Kd.R_lt (qR HO201))) (Kd.R_lt (qR HO204))) (Kd.R_lt (qR HO207))) (Kd.R_lt (qR HO210))) (Kd.R_lt (qR HO213))) (below_size (qB HB)))
         replace HO195 := am_ (eR HO195 ho122 hb)
         replace HO201 := am_ (eR HO201 ho122 hb)
         replace HO204 := am_ (eR HO204 ho122 hb)
         replace HO207 := am_ (eR HO207 ho122 hb)
         replace HO210 := am_ (eR HO210 ho122 hb)
         replace HO213 := am_ (eR HO213 ho122 hb)
         replace BK146 := am_ (blk_below (qK BK146) hb)
         replace BK188 := am_ (blk_below (qK BK188) hb)
         replace HB := am_ (below_step (qB HB) hb)
         clear hb ho122
         refine hK.out _ _ (cz7 BK188.out) (fun hHeld => ?_)
         clear hK K
         refine norm_ (a' := ?_) ?_ ?_
         rotate_left
         ·
          show Act.put _ (some 109) _ = _
          exact ap_
         exact norm_ (by simp only [putAll, Act.put, List.setIfInBounds_toArray, List.set_cons_zero, List.set_cons_succ]) (hCont (v212, v215) _ ⟨hHeld, (tR (Kd.R_mono HO195.out (fun _ hk => ⟨hk.1.1.1.1.1, ⟨hk.1.1.1.1.2, ⟨hk.1.1.1.2, ⟨hk.1.1.2, ⟨hk.1.2, hk.2⟩⟩⟩⟩⟩))), (tR (Kd.R_mono HO201.out (fun _ hk => ⟨hk.1.1.1.1.1, ⟨hk.1.1.1.1.2, ⟨hk.1.1.1.2, ⟨hk.1.1.2, ⟨hk.1.2, hk.2⟩⟩⟩⟩⟩))), (tR (Kd.R_mono HO204.out (fun _ hk => ⟨hk.1.1.1.1.1, ⟨hk.1.1.1.1.2, ⟨hk.1.1.1.2, ⟨hk.1.1.2, ⟨hk.1.2, hk.2⟩⟩⟩⟩⟩))), (tR (Kd.R_mono HO207.out (fun _ hk => ⟨hk.1.1.1.1.1.2, ⟨hk.1.1.1.1.2, ⟨hk.1.1.1.2, ⟨hk.1.1.2, ⟨hk.1.2, hk.2⟩⟩⟩⟩⟩))), (tR (Kd.R_mono HO210.out (fun _ hk => ⟨hk.1.1.1.1.1.2, ⟨hk.1.1.1.1.2, ⟨hk.1.1.1.2, ⟨hk.1.1.2, ⟨hk.1.2, hk.2⟩⟩⟩⟩⟩))), (tR (Kd.R_mono HO213.out (fun _ hk => ⟨hk.1.1.1.1.1.2, ⟨hk.1.1.1.1.2, ⟨hk.1.1.1.2, ⟨hk.1.1.2, ⟨hk.1.2, hk.2⟩⟩⟩⟩⟩))), (tR (Kd.R_mono HO216.out (fun _ hk => ⟨hk.1.1.1.1.1.2, ⟨hk.1.1.1.1.2, ⟨hk.1.1.1.2, ⟨hk.1.1.2, ⟨hk.1.2, hk.2⟩⟩⟩⟩⟩))), (qK BK146), (qK BK188), (qB HB)⟩)
        ·
         skip
         refine Kd.R_lit_step (Kd.int .u8) _ 5 ?hg (N := 109) ?hd (xs := ([(Int.tmod a0_13 256) % 256] : List Int)) (inner := [.int .u8 ((Int.tmod a0_13 256) % 256)]) (ok := fun _ => True) (okp := fun _ => True) ?hr ?hp (fun _ hk => hk) trivial (Below.refl _ _) (Nat.le_refl _) (by simp) ?_; (case hd => rfl); (case hg => rfl); (case hr => first | (go_simp; done) | (go_simp; rfl)); (case hp => exact (Reps.one (show Kd.M (Kd.int .u8) _ _ _ ((Int.tmod a0_13 256) % 256) [.int .u8 ((Int.tmod a0_13 256) % 256)] from rfl) (Reps.none _ _)))
         intro v215 w120 ho121 hb hg_ hnew_
         clear hg_ hnew_
         (first | rw [← Ny214.out] at ho121 | (simp only [Int.reduceToNat] at ho121; rw [← Ny214.out] at ho121))
         have HO216 := am_ (Kd.R_lower (Kd.R_new' (Kd.R_new' (Kd.R_new' (Kd.R_new' (Kd.R_new' ho121 (Kd.R_lt (qR HO195))) (Kd.R_lt (qR HO201))) (Kd.R_lt (qR HO204))) (Kd.R_lt (qR HO207))) (Kd.R_lt (qR HO210))) (below_size (qB HB)))
         replace HO195 := am_ (eR HO195 ho121 hb)
         replace HO201 := am_ (eR HO201 ho121 hb)
         replace HO204 := am_ (eR HO204 ho121 hb)
         replace HO207 := am_ (eR HO207 ho121 hb)
         replace HO210 := am_ (eR HO210 ho121 hb)
         replace BK146 := am_ (blk_below (qK BK146) hb)
         replace BK188 := am_ (blk_below (qK BK188) hb)
         replace HB := am_ (below_step (qB HB) hb)
         clear hb ho121
         refine hK.out _ _ (cz7 BK188.out) (fun hHeld => ?_)
         clear hK K
         refine norm_ (a' := ?_) ?_ ?_
         rotate_left
         ·
          show Act.put _ (some 109) _ = _
          exact ap_
         refine one_ (i := 4) (N := some 104) (rl [10,1,2,1,2,2]) rfl rfl (one_of HT_.out (by kernel_rfl)) (by decide) (fun K hK => ?_)
         refine goes_ Try.func75 (by kernel_rfl) rfl #[.slice Ao118 t208.length co118, .int .i64 (wrap64 (Int.tdiv a0_13 256))] (by rfl) rfl rfl la_ ?_
         with_reducible refine (spec_PutWord.calls _ _ t208 (wrap64 (Int.tdiv a0_13 256)) t211 _ ?side1 ?side2 A100.out).mono ?_
         (case side1 => exact qC ((Kd.R_reads' HO210.out).2.2))
         (case side2 => exact (Kd.R_reads' HO210.out).2.1)
         rintro e w122 ⟨v212, rfl, ho0, hb⟩
         refine ⟨_, rfl, ?_⟩
         have HO213 := am_ (Kd.R_lower (Kd.R_new' (Kd.R_new' (Kd.R_new' (Kd.R_new' (Kd.R_new' (Kd.R_new' ho0 (Kd.R_lt (qR HO195))) (Kd.R_lt (qR HO201))) (Kd.R_lt (qR HO204))) (Kd.R_lt (qR HO207))) (Kd.R_lt (qR HO210))) (Kd.R_lt (qR HO216))) (below_size (qB HB)))
         replace HO195 := am_ (eR HO195 ho0 hb)
         replace HO201 := am_ (eR HO201 ho0 hb)
         replace HO204 := am_ (eR HO204 ho0 hb)
         replace HO207 := am_ (eR HO207 ho0 hb)
         replace HO210 := am_ (eR HO210 ho0 hb)
         replace HO216 := am_ (eR HO216 ho0 hb)
         replace BK146 := am_ (blk_below (qK BK146) hb)
         replace BK188 := am_ (blk_below (qK BK188) hb)
         replace HB := am_ (below_step (qB HB) hb)
         (try clear hb ho0)
         refine hK.out _ _ (cz7 BK188.out) (fun hHeld => ?_)
         clear hK K
         refine norm_ (a' := ?_) ?_ ?_
         rotate_left
         ·
          show Act.put _ (some 104) _ = _
          exact ap_
         exact norm_ (by simp only [putAll, Act.put, List.setIfInBounds_toArray, List.set_cons_zero, List.set_cons_succ]) (hCont (v212, v215) _ ⟨hHeld, (tR (Kd.R_mono HO195.out (fun _ hk => ⟨hk.1.1.1.1.1, ⟨hk.1.1.1.1.2, ⟨hk.1.1.1.2, ⟨hk.1.1.2, ⟨hk.2, hk.1.2⟩⟩⟩⟩⟩))), (tR (Kd.R_mono HO201.out (fun _ hk => ⟨hk.1.1.1.1.1, ⟨hk.1.1.1.1.2, ⟨hk.1.1.1.2, ⟨hk.1.1.2, ⟨hk.2, hk.1.2⟩⟩⟩⟩⟩))), (tR (Kd.R_mono HO204.out (fun _ hk => ⟨hk.1.1.1.1.1, ⟨hk.1.1.1.1.2, ⟨hk.1.1.1.2, ⟨hk.1.1.2, ⟨hk.2, hk.1.2⟩⟩⟩⟩⟩))), (tR (Kd.R_mono HO207.out (fun _ hk => ⟨hk.1.1.1.1.1.2, ⟨hk.1.1.1.1.2, ⟨hk.1.1.1.2, ⟨hk.1.1.2, ⟨hk.2, hk.1.2⟩⟩⟩⟩⟩))), (tR (Kd.R_mono HO210.out (fun _ hk => ⟨hk.1.1.1.1.1.2, ⟨hk.1.1.1.1.2, ⟨hk.1.1.1.2, ⟨hk.1.1.2, ⟨hk.2, hk.1.2⟩⟩⟩⟩⟩))), (tR (Kd.R_mono HO213.out (fun _ hk => ⟨hk.1.1.1.1.1.2, ⟨hk.1.1.1.1.2, ⟨hk.1.1.1.2, ⟨hk.1.1.2, ⟨hk.1.2, hk.2⟩⟩⟩⟩⟩))), (tR (Kd.R_mono HO216.out (fun _ hk => ⟨hk.1.1.1.1.1.2, ⟨hk.1.1.1.1.2, ⟨hk.1.1.1.2, ⟨hk.1.1.2, ⟨hk.1.2, hk.2⟩⟩⟩⟩⟩))), (qK BK146), (qK BK188), (qB HB)⟩)
       rintro ⟨v212, v215⟩ w123 ⟨hS_, h0_, h1_, h2_, h3_, h4_, h5_, h6_, h7_, h8_, h9_⟩
       have n0_ : Aside0 (Kd.R (Kd.int .u8) 5 w123 w.heap.size (fun k_ => some k_ ≠ (.slice Ao113 y199.length co113 : Value).ownBlock ∧ some k_ ≠ (.slice Ao114 y202.length co114 : Value).ownBlock ∧ some k_ ≠ (.slice Ao116 t205.length co116 : Value).ownBlock ∧ some k_ ≠ (.slice Ao118 t208.length co118 : Value).ownBlock ∧ some k_ ≠ (v212 : Value).ownBlock ∧ some k_ ≠ (v215 : Value).ownBlock) v194 y193) := ⟨h0_⟩
       have n1_ : Aside0 (Kd.R (Kd.int .u8) 5 w123 w.heap.size (fun k_ => some k_ ≠ (v194 : Value).ownBlock ∧ some k_ ≠ (.slice Ao114 y202.length co114 : Value).ownBlock ∧ some k_ ≠ (.slice Ao116 t205.length co116 : Value).ownBlock ∧ some k_ ≠ (.slice Ao118 t208.length co118 : Value).ownBlock ∧ some k_ ≠ (v212 : Value).ownBlock ∧ some k_ ≠ (v215 : Value).ownBlock) (.slice Ao113 y199.length co113) y199) := ⟨h1_⟩
       have n2_ : Aside0 (Kd.R (Kd.int .u8) 5 w123 w.heap.size (fun k_ => some k_ ≠ (v194 : Value).ownBlock ∧ some k_ ≠ (.slice Ao113 y199.length co113 : Value).ownBlock ∧ some k_ ≠ (.slice Ao116 t205.length co116 : Value).ownBlock ∧ some k_ ≠ (.slice Ao118 t208.length co118 : Value).ownBlock ∧ some k_ ≠ (v212 : Value).ownBlock ∧ some k_ ≠ (v215 : Value).ownBlock) (.slice Ao114 y202.length co114) y202) := ⟨h2_⟩
       have n3_ : Aside0 (Kd.R (Kd.int .u8) 5 w123 w.heap.size (fun k_ => some k_ ≠ (v194 : Value).ownBlock ∧ some k_ ≠ (.slice Ao113 y199.length co113 : Value).ownBlock ∧ some k_ ≠ (.slice Ao114 y202.length co114 : Value).ownBlock ∧ some k_ ≠ (.slice Ao118 t208.length co118 : Value).ownBlock ∧ some k_ ≠ (v212 : Value).ownBlock ∧ some k_ ≠ (v215 : Value).ownBlock) (.slice Ao116 t205.length co116) t205) := ⟨h3_⟩
       have n4_ : Aside0 (Kd.R (Kd.int .u8) 5 w123 w.heap.size (fun k_ => some k_ ≠ (v194 : Value).ownBlock ∧ some k_ ≠ (.slice Ao113 y199.length co113 : Value).ownBlock ∧ some k_ ≠ (.slice Ao114 y202.length co114 : Value).ownBlock ∧ some k_ ≠ (.slice Ao116 t205.length co116 : Value).ownBlock ∧ some k_ ≠ (v212 : Value).ownBlock ∧ some k_ ≠ (v215 : Value).ownBlock) (.slice Ao118 t208.length co118) t208) := ⟨h4_⟩
       have n5_ : Aside0 (Kd.R (Kd.int .u8) 5 w123 w.heap.size (fun k_ => some k_ ≠ (v194 : Value).ownBlock ∧ some k_ ≠ (.slice Ao113 y199.length co113 : Value).ownBlock ∧ some k_ ≠ (.slice Ao114 y202.length co114 : Value).ownBlock ∧ some k_ ≠ (.slice Ao116 t205.length co116 : Value).ownBlock ∧ some k_ ≠ (.slice Ao118 t208.length co118 : Value).ownBlock ∧ some k_ ≠ (v215 : Value).ownBlock) v212 t211) := ⟨h5_⟩
       have n6_ : Aside0 (Kd.R (Kd.int .u8) 5 w123 w.heap.size (fun k_ => some k_ ≠ (v194 : Value).ownBlock ∧ some k_ ≠ (.slice Ao113 y199.length co113 : Value).ownBlock ∧ some k_ ≠ (.slice Ao114 y202.length co114 : Value).ownBlock ∧ some k_ ≠ (.slice Ao116 t205.length co116 : Value).ownBlock ∧ some k_ ≠ (.slice Ao118 t208.length co118 : Value).ownBlock ∧ some k_ ≠ (v212 : Value).ownBlock) v215 y214) := ⟨h6_⟩
       have n7_ : Aside0 (w123.heap[gb146]? = some (.cells #[.int .i64 a0_0, .int .i64 a0_1, .string a0_2, .int .i64 a0_3, .int .i64 a0_4, .int .i64 a0_5, .string a0_6, .int .i64 a0_7, .int .i64 a0_8, .int .i64 a0_9, .string a0_10, .int .i64 a0_11, .int .i64 a0_12, .int .i64 a0_13, .int .i64 a0_14, .int .i64 a0_15] 48 (0, 0))) := ⟨h7_⟩
       have n8_ : Aside0 (w123.heap[gb188]? = some (.cells #[.int .i64 a0_9, .string a0_10, .int .i64 a0_11, .int .i64 a0_12, .int .i64 a0_13, .int .i64 a0_14, .int .i64 a0_15] 46 (0, 0))) := ⟨h8_⟩
       have n9_ : Aside0 (Below w.heap.size w w123) := ⟨h9_⟩
       clear HO195
       clear HO201
       clear HO204
       clear HO207
       clear HO210
       clear BK146
       clear BK188
       clear HB
       clear h0_ h1_ h2_ h3_ h4_ h5_ h6_ h7_ h8_ h9_
       have HO195 := n0_
       have HO201 := n1_
       have HO204 := n2_
       have HO207 := n3_
       have HO210 := n4_
       have HO213 := n5_
       have HO216 := n6_
       have BK146 := n7_
       have BK188 := n8_
       have HB := n9_
       clear n0_ n1_ n2_ n3_ n4_ n5_ n6_ n7_ n8_ n9_
       have hHeld : w123.cell? ⟨gb188, 0, none⟩ = some (.int .i64 a0_9) ∧ w123.cell? ⟨gb188, 1, none⟩ = some (.string a0_10) ∧ w123.cell? ⟨gb188, 2, none⟩ = some (.int .i64 a0_11) ∧ w123.cell? ⟨gb188, 3, none⟩ = some (.int .i64 a0_12) ∧ w123.cell? ⟨gb188, 4, none⟩ = some (.int .i64 a0_13) ∧ w123.cell? ⟨gb188, 5, none⟩ = some (.int .i64 a0_14) ∧ w123.cell? ⟨gb188, 6, none⟩ = some (.int .i64 a0_15) := hS_
       obtain ⟨Ao125, co125, eo125⟩ := Kd.R_slice HO216.out
       (first | subst eo125 | (injection eo125 with f1_ f2_ f3_; have f4_ := f1_.symm; have f5_ := f3_.symm; clear f1_ f2_ f3_; subst f4_; subst f5_))
       refine norm_ (a' := ?_) ?_ ?_
       rotate_left
       ·
        simp only [putAll, Act.put, List.setIfInBounds_toArray, List.set_cons_zero, List.set_cons_succ]
        rfl
       refine one_ (i := 10) (N := some 110) (rl [13,1,2,2]) rfl rfl (one_of HT_.out (by kernel_rfl)) (by decide) (fun K hK => ?_)
       refine Kd.R_append_rows_step (Kd.int .u8) (w0 := w) w.heap.size (by rfl) (.tmp 104) (.tmp 109) 22 5 (.int .u8 0) 1 rfl Try.underlying22 info5 rfl (by decide) (by omega) v212 t211 y214 _ _ _ (fun k_ => some k_ ≠ (v194 : Value).ownBlock ∧ some k_ ≠ (.slice Ao113 y199.length co113 : Value).ownBlock ∧ some k_ ≠ (.slice Ao114 y202.length co114 : Value).ownBlock ∧ some k_ ≠ (.slice Ao116 t205.length co116 : Value).ownBlock ∧ some k_ ≠ (.slice Ao118 t208.length co118 : Value).ownBlock ∧ some k_ ≠ (.slice Ao125 y214.length co125 : Value).ownBlock) (fun _ => False) rfl rfl ?aO ?aR (fun _ _ h => h) (fun _ h => h.elim) ?aF ?aB ?aS ?aL ?_
       (case aR => exact qC ((Kd.R_reads' HO216.out).2.2))
       (case aB => exact (qB HB))
       (case aF => exact (fun k_ hk => ⟨Kd.fresh' (Kd.R_lt (qR HO195)) k_ hk, Kd.fresh' (Kd.R_lt (qR HO201)) k_ hk, Kd.fresh' (Kd.R_lt (qR HO204)) k_ hk, Kd.fresh' (Kd.R_lt (qR HO207)) k_ hk, Kd.fresh' (Kd.R_lt (qR HO210)) k_ hk, Kd.fresh' (Kd.R_lt (qR HO216)) k_ hk⟩))
       (case aO => exact (qR HO213))
       (case aS => exact (below_size (qB HB)))
       (case aL => have := LMc101.out; omega)
       intro v218 w124 ho hb hg hat
       rw [← Ny217.out] at ho
       replace BK146 := am_ (blk_grown (qK BK146) hg (Kd.R_ne HO213.out BK146.out (by decide)))
       replace BK188 := am_ (blk_grown (qK BK188) hg (Kd.R_ne HO213.out BK188.out (by decide)))
       replace HO195 := am_ (Kd.R_after (ok := (fun k_ => some k_ ≠ (.slice Ao113 y199.length co113 : Value).ownBlock ∧ some k_ ≠ (.slice Ao114 y202.length co114 : Value).ownBlock ∧ some k_ ≠ (.slice Ao116 t205.length co116 : Value).ownBlock ∧ some k_ ≠ (.slice Ao118 t208.length co118 : Value).ownBlock ∧ some k_ ≠ (.slice Ao125 y214.length co125 : Value).ownBlock)) (tR (Kd.R_mono HO195.out (fun _ hk => ⟨⟨hk.1, ⟨hk.2.1, ⟨hk.2.2.1, ⟨hk.2.2.2.1, hk.2.2.2.2.2⟩⟩⟩⟩, hk.2.2.2.2.1⟩))) hg hat)
       replace HO201 := am_ (Kd.R_after (ok := (fun k_ => some k_ ≠ (v194 : Value).ownBlock ∧ some k_ ≠ (.slice Ao114 y202.length co114 : Value).ownBlock ∧ some k_ ≠ (.slice Ao116 t205.length co116 : Value).ownBlock ∧ some k_ ≠ (.slice Ao118 t208.length co118 : Value).ownBlock ∧ some k_ ≠ (.slice Ao125 y214.length co125 : Value).ownBlock)) (tR (Kd.R_mono HO201.out (fun _ hk => ⟨⟨hk.1, ⟨hk.2.1, ⟨hk.2.2.1, ⟨hk.2.2.2.1, hk.2.2.2.2.2⟩⟩⟩⟩, hk.2.2.2.2.1⟩))) hg hat)
       replace HO204 := am_ (Kd.R_after (ok := (fun k_ => some k_ ≠ (v194 : Value).ownBlock ∧ some k_ ≠ (.slice Ao113 y199.length co113 : Value).ownBlock ∧ some k_ ≠ (.slice Ao116 t205.length co116 : Value).ownBlock ∧ some k_ ≠ (.slice Ao118 t208.length co118 : Value).ownBlock ∧ some k_ ≠ (.slice Ao125 y214.length co125 : Value).ownBlock)) (tR (Kd.R_mono HO204.out (fun _ hk => ⟨⟨hk.1, ⟨hk.2.1, ⟨hk.2.2.1, ⟨hk.2.2.2.1, hk.2.2.2.2.2⟩⟩⟩⟩, hk.2.2.2.2.1⟩))) hg hat)
       replace HO207 := am_ (Kd.R_after (ok := (fun k_ => some k_ ≠ (v194 : Value).ownBlock ∧ some k_ ≠ (.slice Ao113 y199.length co113 : Value).ownBlock ∧ some k_ ≠ (.slice Ao114 y202.length co114 : Value).ownBlock ∧ some k_ ≠ (.slice Ao118 t208.length co118 : Value).ownBlock ∧ some k_ ≠ (.slice Ao125 y214.length co125 : Value).ownBlock)) (tR (Kd.R_mono HO207.out (fun _ hk => ⟨⟨hk.1, ⟨hk.2.1, ⟨hk.2.2.1, ⟨hk.2.2.2.1, hk.2.2.2.2.2⟩⟩⟩⟩, hk.2.2.2.2.1⟩))) hg hat)
       replace HO210 := am_ (Kd.R_after (ok := (fun k_ => some k_ ≠ (v194 : Value).ownBlock ∧ some k_ ≠ (.slice Ao113 y199.length co113 : Value).ownBlock ∧ some k_ ≠ (.slice Ao114 y202.length co114 : Value).ownBlock ∧ some k_ ≠ (.slice Ao116 t205.length co116 : Value).ownBlock ∧ some k_ ≠ (.slice Ao125 y214.length co125 : Value).ownBlock)) (tR (Kd.R_mono HO210.out (fun _ hk => ⟨⟨hk.1, ⟨hk.2.1, ⟨hk.2.2.1, ⟨hk.2.2.2.1, hk.2.2.2.2.2⟩⟩⟩⟩, hk.2.2.2.2.1⟩))) hg hat)
       replace HO216 := am_ (Kd.R_after (ok := (fun k_ => some k_ ≠ (v194 : Value).ownBlock ∧ some k_ ≠ (.slice Ao113 y199.length co113 : Value).ownBlock ∧ some k_ ≠ (.slice Ao114 y202.length co114 : Value).ownBlock ∧ some k_ ≠ (.slice Ao116 t205.length co116 : Value).ownBlock ∧ some k_ ≠ (.slice Ao118 t208.length co118 : Value).ownBlock)) (tR (Kd.R_mono HO216.out (fun _ hk => ⟨⟨hk.1, ⟨hk.2.1, ⟨hk.2.2.1, ⟨hk.2.2.2.1, hk.2.2.2.2.1⟩⟩⟩⟩, hk.2.2.2.2.2⟩))) hg hat)
       replace HB := am_ (hb)
       have HO219 := am_ (ho)
       clear HO213
       clear ho hb hg hat
       obtain ⟨Ao126, co126, eo126⟩ := Kd.R_slice HO219.out
       (first | subst eo126 | (injection eo126 with f1_ f2_ f3_; have f4_ := f1_.symm; have f5_ := f3_.symm; clear f1_ f2_ f3_; subst f4_; subst f5_))
       refine hK.out _ _ (cz7 BK188.out) (fun hHeld => ?_)
       clear hK K
       refine norm_ (a' := ?_) ?_ ?_
       rotate_left
       ·
        show Act.put _ (some 110) _ = _
        exact ap_
       refine one_ (i := 13) (N := some 113) (rl [16,2]) rfl rfl (one_of HT_.out (by kernel_rfl)) (by decide) (fun K hK => ?_)
       refine goes_ Try.func75 (by kernel_rfl) rfl #[.slice Ao126 y217.length co126, .int .i64 a0_14] (by rfl) rfl rfl la_ ?_
       with_reducible refine (spec_PutWord.calls _ _ y217 a0_14 t220 _ ?side1 ?side2 A102.out).mono ?_
       (case side1 => exact qC ((Kd.R_reads' HO219.out).2.2))
       (case side2 => exact (Kd.R_reads' HO219.out).2.1)
       rintro e w127 ⟨v221, rfl, ho0, hb⟩
       refine ⟨_, rfl, ?_⟩
       have HO222 := am_ (Kd.R_lower (Kd.R_new' (Kd.R_new' (Kd.R_new' (Kd.R_new' (Kd.R_new' (Kd.R_new' (Kd.R_new' ho0 (Kd.R_lt (qR HO195))) (Kd.R_lt (qR HO201))) (Kd.R_lt (qR HO204))) (Kd.R_lt (qR HO207))) (Kd.R_lt (qR HO210))) (Kd.R_lt (qR HO216))) (Kd.R_lt (qR HO219))) (below_size (qB HB)))
       replace HO195 := am_ (eR HO195 ho0 hb)
       replace HO201 := am_ (eR HO201 ho0 hb)
       replace HO204 := am_ (eR HO204 ho0 hb)
       replace HO207 := am_ (eR HO207 ho0 hb)
       replace HO210 := am_ (eR HO210 ho0 hb)
       replace HO216 := am_ (eR HO216 ho0 hb)
       replace HO219 := am_ (eR HO219 ho0 hb)
       replace BK146 := am_ (blk_below (qK BK146) hb)
       replace BK188 := am_ (blk_below (qK BK188) hb)
       replace HB := am_ (below_step (qB HB) hb)
       (try clear hb ho0)
       obtain ⟨Ao128, co128, eo128⟩ := Kd.R_slice HO222.out
       (first | subst eo128 | (injection eo128 with f1_ f2_ f3_; have f4_ := f1_.symm; have f5_ := f3_.symm; clear f1_ f2_ f3_; subst f4_; subst f5_))
       refine hK.out _ _ (cz7 BK188.out) (fun hHeld => ?_)
       clear hK K
       refine norm_ (a' := ?_) ?_ ?_
       rotate_left
       ·
        show Act.put _ (some 113) _ = _
        exact ap_
       refine one_ (i := 16) (N := some 116) (rl [17,1]) rfl rfl (one_of HT_.out (by kernel_rfl)) (by decide) (fun K hK => ?_)
       refine goes_ Try.func75 (by kernel_rfl) rfl #[.slice Ao128 t220.length co128, .int .i64 a0_15] (by rfl) rfl rfl la_ ?_
       with_reducible refine (spec_PutWord.calls _ _ t220 a0_15 t223 _ ?side1 ?side2 A103.out).mono ?_
       (case side1 => exact qC ((Kd.R_reads' HO222.out).2.2))
       (case side2 => exact (Kd.R_reads' HO222.out).2.1)
       rintro e w129 ⟨v224, rfl, ho0, hb⟩
       refine ⟨_, rfl, ?_⟩
       have HO225 := am_ (Kd.R_lower (Kd.R_new' (Kd.R_new' (Kd.R_new' (Kd.R_new' (Kd.R_new' (Kd.R_new' (Kd.R_new' (Kd.R_new' ho0 (Kd.R_lt (qR HO195))) (Kd.R_lt (qR HO201))) (Kd.R_lt (qR HO204))) (Kd.R_lt (qR HO207))) (Kd.R_lt (qR HO210))) (Kd.R_lt (qR HO216))) (Kd.R_lt (qR HO219))) (Kd.R_lt (qR HO222))) (below_size (qB HB)))
       replace HO195 := am_ (eR HO195 ho0 hb)
       replace HO201 := am_ (eR HO201 ho0 hb)
       replace HO204 := am_ (eR HO204 ho0 hb)
       replace HO207 := am_ (eR HO207 ho0 hb)
       replace HO210 := am_ (eR HO210 ho0 hb)
       replace HO216 := am_ (eR HO216 ho0 hb)
       replace HO219 := am_ (eR HO219 ho0 hb)
       replace HO222 := am_ (eR HO222 ho0 hb)
       replace BK146 := am_ (blk_below (qK BK146) hb)
       replace BK188 := am_ (blk_below (qK BK188) hb)
       replace HB := am_ (below_step (qB HB) hb)
       (try clear hb ho0)
       refine hK.out _ _ (cz7 BK188.out) (fun hHeld => ?_)
       clear hK K
       refine norm_ (a' := ?_) ?_ ?_
       rotate_left
       ·
        show Act.put _ (some 116) _ = _
        exact ap_
       refine pz_ (i := 17) (N := some 2) HT_ (rl [18]) rfl rfl ?_
       refine done_ (done_of HT_.out (by kernel_rfl)) ?_
       try go_wp2
       go_ret
       exact ⟨_, by first | rfl | (simp [errW_none, errW_some] <;> rfl) | (simp [*, errW_none, errW_some] <;> rfl), by (with_reducible repeat (first | apply Kd.R_alloc | apply Kd.R_drewN | apply Kd.R_drew)); exact Kd.R_mono HO225.out (fun _ hk => trivial), qB HB⟩
      ·
       rw [if_neg c101] at H
       exact absurd H (by simp)
     ·
      rw [if_neg c97] at H
      exact absurd H (by simp)

end Go.Proofs.Ytahfemlfdpbkkaa.PFnExactGetItem
