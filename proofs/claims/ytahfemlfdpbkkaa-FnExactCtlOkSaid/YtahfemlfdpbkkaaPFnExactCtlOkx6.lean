-- Written by a program of this session (myprint.py, over the kit's print): contracts of FnExactCtlOk
import Derived.Test.YtahfemlfdpbkkaaPFnExactCtlOkx0
import Derived.Test.YtahfemlfdpbkkaaPFnExactCtlOkx1
import Derived.Test.YtahfemlfdpbkkaaPFnExactCtlOkx2
import Derived.Test.YtahfemlfdpbkkaaPFnExactCtlOkx4
import Derived.Test.YtahfemlfdpbkkaaPFnExactCtlOkx5
namespace Go.Proofs.Ytahfemlfdpbkkaa.PFnExactCtlOk
open Go.RowKit Go.Proofs.YtahfemlfdpbkkaaW.PrintWords Go.Proofs.YtahfemlfdpbkkaaW.PrintLast Go.Proofs.YtahfemlfdpbkkaaW.PrintMore Go.Proofs.YtahfemlfdpbkkaaV
attribute [local go_sem] max2_int min2_int max_two min_two max_three min_three max_four min_four   -- for this text's walks alone
set_option linter.unusedVariables false
set_option linter.unusedSimpArgs false

attribute [local go_sem high] eqA45 eqA46
/-! ### spec_PutItem: function 25 -/
mutual
def spec_PutItem.j0 : Nat → Bool → Int → ByteArray → Int → Int → Int → ByteArray → Int → Int → Option (List Int)
 | 0, _, _, _, _, _, _, _, _, _ => none
 | k + 1, x25, x155000, x155001, x155002, x155003, x155004, x155005, x155006, x155007 => if x25 = true then (some (([] : List Int))) else ((spec_PutWord.f (([1] : List Int)) x155000).bind fun t162 => ((some (([(x155002) % 256] : List Int) : List Int)).bind fun y165 => (if t162.length + y165.length < 140737488355328 then ((spec_PutText.f k (t162 ++ y165) x155001).bind fun t171 => ((spec_PutWord.f t171 x155003).bind fun t174 => ((spec_PutWord.f t174 (wrap64 (Int.tdiv x155004 256))).bind fun t177 => ((some (([(Int.tmod x155004 256) % 256] : List Int) : List Int)).bind fun y180 => (if t177.length + y180.length < 140737488355328 then ((spec_PutText.f k (t177 ++ y180) x155005).bind fun t186 => ((spec_PutWord.f t186 x155006).bind fun t189 => ((spec_PutWord.f t189 x155007).bind fun t192 => (some t192)))) else (none)))))) else (none))))
def spec_PutItem.j1 : Nat → Bool → Int → ByteArray → Int → Int → Int → Int → Int → Option (List Int)
 | 0, _, _, _, _, _, _, _, _ => none
 | k + 1, x83, x196000, x196001, x196002, x196003, x196004, x196005, x196006 => if x83 = true then (some (([] : List Int))) else ((spec_PutWord.f (([2] : List Int)) x196000).bind fun t203 => ((some (([(x196003) % 256] : List Int) : List Int)).bind fun y206 => (if t203.length + y206.length < 140737488355328 then ((spec_PutText.f k (t203 ++ y206) x196001).bind fun t212 => ((spec_PutWord.f t212 x196002).bind fun t215 => ((spec_PutWord.f t215 (wrap64 (Int.tdiv x196004 256))).bind fun t218 => ((some (([(Int.tmod x196004 256) % 256] : List Int) : List Int)).bind fun y221 => (if t218.length + y221.length < 140737488355328 then ((spec_PutWord.f (t218 ++ y221) x196005).bind fun t227 => ((spec_PutWord.f t227 x196006).bind fun t230 => (some t230))) else (none)))))) else (none))))
end
def spec_PutItem.f (k : Nat) (a0_0 : Int) (a0_1 : Int) (a0_2 : ByteArray) (a0_3 : Int) (a0_4 : Int) (a0_5 : Int) (a0_6 : ByteArray) (a0_7 : Int) (a0_8 : Int) (a0_9 : Int) (a0_10 : ByteArray) (a0_11 : Int) (a0_12 : Int) (a0_13 : Int) (a0_14 : Int) (a0_15 : Int) : Option (List Int) := if a0_0 = 1 then ((spec_AskerOk.f k a0_1 a0_2 a0_3 a0_4 a0_5 a0_6 a0_7 a0_8).bind fun t155 => (if t155 = true then (if (!(a0_9 == 0) || (!(a0_10.toList == ([] : List UInt8)) || (!(a0_11 == 0) || (!(a0_12 == 0) || (!(a0_13 == 0) || (!(a0_14 == 0) || (!(a0_15 == 0)))))))) = true then (spec_PutItem.j0 k true a0_1 a0_2 a0_3 a0_4 a0_5 a0_6 a0_7 a0_8) else (spec_PutItem.j0 k (decide (a0_8 > 65535)) a0_1 a0_2 a0_3 a0_4 a0_5 a0_6 a0_7 a0_8)) else (spec_PutItem.j0 k true a0_1 a0_2 a0_3 a0_4 a0_5 a0_6 a0_7 a0_8))) else (if a0_0 = 2 then ((spec_LineOk.f k a0_9 a0_10 a0_11 a0_12 a0_13 a0_14 a0_15).bind fun t196 => (if t196 = true then (if (!(a0_1 == 0) || (!(a0_2.toList == ([] : List UInt8)) || (!(a0_3 == 0) || (!(a0_4 == 0) || (!(a0_5 == 0) || (!(a0_6.toList == ([] : List UInt8)) || (!(a0_7 == 0) || (!(a0_8 == 0))))))))) = true then (spec_PutItem.j1 k true a0_9 a0_10 a0_11 a0_12 a0_13 a0_14 a0_15) else (spec_PutItem.j1 k (decide (a0_15 > 65535)) a0_9 a0_10 a0_11 a0_12 a0_13 a0_14 a0_15)) else (spec_PutItem.j1 k true a0_9 a0_10 a0_11 a0_12 a0_13 a0_14 a0_15))) else (spec_PutItem.j1 k true a0_9 a0_10 a0_11 a0_12 a0_13 a0_14 a0_15))
theorem spec_PutItem.mono_l : ∀ k, (∀ y0 y1 y2 y3 y4 y5 y6 y7 y8, LeO (spec_PutItem.j0 k y0 y1 y2 y3 y4 y5 y6 y7 y8) (spec_PutItem.j0 (k + 1) y0 y1 y2 y3 y4 y5 y6 y7 y8)) ∧ (∀ y0 y1 y2 y3 y4 y5 y6 y7, LeO (spec_PutItem.j1 k y0 y1 y2 y3 y4 y5 y6 y7) (spec_PutItem.j1 (k + 1) y0 y1 y2 y3 y4 y5 y6 y7))
 | 0 => ⟨fun _ _ _ _ _ _ _ _ _ r h => by simp [spec_PutItem.j0] at h, fun _ _ _ _ _ _ _ _ r h => by simp [spec_PutItem.j1] at h⟩
 | k + 1 => by
  obtain ⟨ih0, ih1⟩ := spec_PutItem.mono_l k
  refine ⟨?_, ?_⟩
  ·
   intro y0 y1 y2 y3 y4 y5 y6 y7 y8
   unfold spec_PutItem.j0
   repeat' first
   | (with_reducible exact ih0 _ _ _ _ _ _ _ _ _)
   | (with_reducible exact ih1 _ _ _ _ _ _ _ _)
   | (with_reducible exact spec_AskerOk.mono _ _ _ _ _ _ _ _ _)
   | (with_reducible exact spec_LineOk.mono _ _ _ _ _ _ _ _)
   | (with_reducible exact spec_PutText.mono _ _ _)
   | (with_reducible exact LeO.refl _)
   | (with_reducible exact LeO.none _)
   | (with_reducible refine LeO.ite ?_ ?_)
   | (with_reducible refine LeO.bind ?_ (fun _ => ?_))
   | exact ih0 _ _ _ _ _ _ _ _ _
   | exact ih1 _ _ _ _ _ _ _ _
   | exact spec_AskerOk.mono _ _ _ _ _ _ _ _ _
   | exact spec_LineOk.mono _ _ _ _ _ _ _ _
   | exact spec_PutText.mono _ _ _
   | exact LeO.none _
   | refine LeO.ite ?_ ?_
   | refine LeO.bind ?_ (fun _ => ?_)
  ·
   intro y0 y1 y2 y3 y4 y5 y6 y7
   unfold spec_PutItem.j1
   repeat' first
   | (with_reducible exact ih0 _ _ _ _ _ _ _ _ _)
   | (with_reducible exact ih1 _ _ _ _ _ _ _ _)
   | (with_reducible exact spec_AskerOk.mono _ _ _ _ _ _ _ _ _)
   | (with_reducible exact spec_LineOk.mono _ _ _ _ _ _ _ _)
   | (with_reducible exact spec_PutText.mono _ _ _)
   | (with_reducible exact LeO.refl _)
   | (with_reducible exact LeO.none _)
   | (with_reducible refine LeO.ite ?_ ?_)
   | (with_reducible refine LeO.bind ?_ (fun _ => ?_))
   | exact ih0 _ _ _ _ _ _ _ _ _
   | exact ih1 _ _ _ _ _ _ _ _
   | exact spec_AskerOk.mono _ _ _ _ _ _ _ _ _
   | exact spec_LineOk.mono _ _ _ _ _ _ _ _
   | exact spec_PutText.mono _ _ _
   | exact LeO.none _
   | refine LeO.ite ?_ ?_
   | refine LeO.bind ?_ (fun _ => ?_)
theorem spec_PutItem.mono : ∀ a0 a1 a2 a3 a4 a5 a6 a7 a8 a9 a10 a11 a12 a13 a14 a15 k, LeO (spec_PutItem.f k a0 a1 a2 a3 a4 a5 a6 a7 a8 a9 a10 a11 a12 a13 a14 a15) (spec_PutItem.f (k + 1) a0 a1 a2 a3 a4 a5 a6 a7 a8 a9 a10 a11 a12 a13 a14 a15) := by
 intro a0 a1 a2 a3 a4 a5 a6 a7 a8 a9 a10 a11 a12 a13 a14 a15 k
 obtain ⟨ih0, ih1⟩ := spec_PutItem.mono_l k
 unfold spec_PutItem.f
 repeat' first
   | (with_reducible exact ih0 _ _ _ _ _ _ _ _ _)
   | (with_reducible exact ih1 _ _ _ _ _ _ _ _)
   | (with_reducible exact spec_AskerOk.mono _ _ _ _ _ _ _ _ _)
   | (with_reducible exact spec_LineOk.mono _ _ _ _ _ _ _ _)
   | (with_reducible exact spec_PutText.mono _ _ _)
   | (with_reducible exact LeO.refl _)
   | (with_reducible exact LeO.none _)
   | (with_reducible refine LeO.ite ?_ ?_)
   | (with_reducible refine LeO.bind ?_ (fun _ => ?_))
   | exact ih0 _ _ _ _ _ _ _ _ _
   | exact ih1 _ _ _ _ _ _ _ _
   | exact spec_AskerOk.mono _ _ _ _ _ _ _ _ _
   | exact spec_LineOk.mono _ _ _ _ _ _ _ _
   | exact spec_PutText.mono _ _ _
   | exact LeO.none _
   | refine LeO.ite ?_ ?_
   | refine LeO.bind ?_ (fun _ => ?_)
def spec_PutItem.T5 : Bool × List (List Nat × List Nat) := (true, [([], []), ([], []), ([1], [1]), ([0, 2], [0, 2]), ([], []), ([4], [4]), ([5], [5]), ([6], [6]), ([3, 7, 3], [3, 7]), ([], []), ([9], [9]), ([8, 10, 8], [8, 10]), ([11, 11, 0, 1, 2, 3, 4, 5, 6, 7, 8, 9, 10, 11], [11])])
def spec_PutItem.B5 : List Nat := [0, 0, 2, 7, 0, 16, 48, 112, 255, 0, 512, 2047, 4095]
theorem spec_PutItem.tab5 : rtab .any (opsOf Try.f25 5) = spec_PutItem.T5 := by kernel_rfl
theorem spec_PutItem.bits5 : waitsOk spec_PutItem.T5.2 spec_PutItem.B5 = true := by kernel_rfl
def spec_PutItem.T6 : Bool × List (List Nat × List Nat) := (true, [([], []), ([], []), ([1], [1]), ([0, 2], [0, 2]), ([], []), ([4], [4]), ([5], [5]), ([3, 6, 3], [3, 6]), ([], []), ([8], [8]), ([9], [9]), ([10], [10]), ([11], [11]), ([7, 12, 7], [7, 12]), ([13, 13, 0, 1, 2, 3, 4, 5, 6, 7, 8, 9, 10, 11, 12, 13], [0, 13])])
def spec_PutItem.B6 : List Nat := [0, 0, 2, 7, 0, 16, 48, 127, 0, 256, 768, 1792, 3840, 8191, 16383]
theorem spec_PutItem.tab6 : rtab .any (opsOf Try.f25 6) = spec_PutItem.T6 := by kernel_rfl
theorem spec_PutItem.bits6 : waitsOk spec_PutItem.T6.2 spec_PutItem.B6 = true := by kernel_rfl
def spec_PutItem.T7 : Bool × List (List Nat × List Nat) := (true, [([], []), ([], []), ([1], [1]), ([0, 2], [0, 2]), ([], []), ([4], [4]), ([3, 5, 3], [3, 5]), ([], []), ([7], [7]), ([6, 8, 6], [6, 8]), ([9, 9, 0, 1, 2, 3, 4, 5, 6, 7, 8, 9], [9])])
def spec_PutItem.B7 : List Nat := [0, 0, 2, 7, 0, 16, 63, 0, 128, 511, 1023]
theorem spec_PutItem.tab7 : rtab .any (opsOf Try.f25 7) = spec_PutItem.T7 := by kernel_rfl
theorem spec_PutItem.bits7 : waitsOk spec_PutItem.T7.2 spec_PutItem.B7 = true := by kernel_rfl
def spec_PutItem.T11 : Bool × List (List Nat × List Nat) := (true, [([], []), ([], []), ([1], [1]), ([0, 2], [0, 2]), ([], []), ([4], [4]), ([5], [5]), ([6], [6]), ([3, 7, 3], [3, 7]), ([], []), ([9], [9]), ([8, 10, 8], [8, 10]), ([], []), ([12], [12]), ([11, 13, 11], [11, 13]), ([14, 14, 0, 1, 2, 3, 4, 5, 6, 7, 8, 9, 10, 11, 12, 13, 14], [14])])
def spec_PutItem.B11 : List Nat := [0, 0, 2, 7, 0, 16, 48, 112, 255, 0, 512, 2047, 0, 4096, 16383, 32767]
theorem spec_PutItem.tab11 : rtab .any (opsOf Try.f25 11) = spec_PutItem.T11 := by kernel_rfl
theorem spec_PutItem.bits11 : waitsOk spec_PutItem.T11.2 spec_PutItem.B11 = true := by kernel_rfl
def spec_PutItem.T12 : Bool × List (List Nat × List Nat) := (true, [([], []), ([], []), ([1], [1]), ([2], [2]), ([0, 3], [0, 3]), ([], []), ([5], [5]), ([6], [6]), ([7], [7]), ([8], [8]), ([4, 9, 4], [4, 9]), ([], []), ([11], [11]), ([10, 12, 10], [10, 12]), ([], []), ([14], [14]), ([13, 15, 13], [13, 15]), ([16, 16, 0, 1, 2, 3, 4, 5, 6, 7, 8, 9, 10, 11, 12, 13, 14, 15, 16], [16])])
def spec_PutItem.B12 : List Nat := [0, 0, 2, 6, 15, 0, 32, 96, 224, 480, 1023, 0, 2048, 8191, 0, 16384, 65535, 131071]
theorem spec_PutItem.tab12 : rtab .any (opsOf Try.f25 12) = spec_PutItem.T12 := by kernel_rfl
theorem spec_PutItem.bits12 : waitsOk spec_PutItem.T12.2 spec_PutItem.B12 = true := by kernel_rfl
set_option maxHeartbeats 8000000 in
set_option maxRecDepth 100000 in
theorem spec_PutItem.calls (k : Nat) (a0_0 : Int) (a0_1 : Int) (a0_2 : ByteArray) (a0_3 : Int) (a0_4 : Int) (a0_5 : Int) (a0_6 : ByteArray) (a0_7 : Int) (a0_8 : Int) (a0_9 : Int) (a0_10 : ByteArray) (a0_11 : Int) (a0_12 : Int) (a0_13 : Int) (a0_14 : Int) (a0_15 : Int) (r : List Int) (w : World) (h : spec_PutItem.f k a0_0 a0_1 a0_2 a0_3 a0_4 a0_5 a0_6 a0_7 a0_8 a0_9 a0_10 a0_11 a0_12 a0_13 a0_14 a0_15 = some r) :
  Calls Try.prog 25 #[.agg #[.int .i64 a0_0, .int .i64 a0_1, .string a0_2, .int .i64 a0_3, .int .i64 a0_4, .int .i64 a0_5, .string a0_6, .int .i64 a0_7, .int .i64 a0_8, .int .i64 a0_9, .string a0_10, .int .i64 a0_11, .int .i64 a0_12, .int .i64 a0_13, .int .i64 a0_14, .int .i64 a0_15]] w fun e w' => ∃ v0_ : Value, e = .returned (v0_) ∧ Kd.R (Kd.int .u8) 5 w' w.heap.size (fun _ => True) v0_ r ∧ Below w.heap.size w w' := by
 have hu48 := Try.underlying48
 have hu45 := Try.underlying45
 have hu46 := Try.underlying46
 have HB := Aside0.mk (Below.refl w.heap.size w)
 have H : (if a0_0 = 1 then ((spec_AskerOk.f k a0_1 a0_2 a0_3 a0_4 a0_5 a0_6 a0_7 a0_8).bind fun t155 => (if t155 = true then (if (!(a0_9 == 0) || (!(a0_10.toList == ([] : List UInt8)) || (!(a0_11 == 0) || (!(a0_12 == 0) || (!(a0_13 == 0) || (!(a0_14 == 0) || (!(a0_15 == 0)))))))) = true then (spec_PutItem.j0 k true a0_1 a0_2 a0_3 a0_4 a0_5 a0_6 a0_7 a0_8) else (spec_PutItem.j0 k (decide (a0_8 > 65535)) a0_1 a0_2 a0_3 a0_4 a0_5 a0_6 a0_7 a0_8)) else (spec_PutItem.j0 k true a0_1 a0_2 a0_3 a0_4 a0_5 a0_6 a0_7 a0_8))) else (if a0_0 = 2 then ((spec_LineOk.f k a0_9 a0_10 a0_11 a0_12 a0_13 a0_14 a0_15).bind fun t196 => (if t196 = true then (if (!(a0_1 == 0) || (!(a0_2.toList == ([] : List UInt8)) || (!(a0_3 == 0) || (!(a0_4 == 0) || (!(a0_5 == 0) || (!(a0_6.toList == ([] : List UInt8)) || (!(a0_7 == 0) || (!(a0_8 == 0))))))))) = true then (spec_PutItem.j1 k true a0_9 a0_10 a0_11 a0_12 a0_13 a0_14 a0_15) else (spec_PutItem.j1 k (decide (a0_15 > 65535)) a0_9 a0_10 a0_11 a0_12 a0_13 a0_14 a0_15)) else (spec_PutItem.j1 k true a0_9 a0_10 a0_11 a0_12 a0_13 a0_14 a0_15))) else (spec_PutItem.j1 k true a0_9 a0_10 a0_11 a0_12 a0_13 a0_14 a0_15))) = some r := h
 clear h
 have HC2 := Aside0.mk H
 clear H
 go_enter Try.func25, Try.ntmps25
 go_upto_if 9 with (first | ((with_reducible refine gate_dst (N := 1) rfl ?_); refine box_event ?hg (N := 1) ?hd (cs := #[.int .i64 a0_0, .int .i64 a0_1, .string a0_2, .int .i64 a0_3, .int .i64 a0_4, .int .i64 a0_5, .string a0_6, .int .i64 a0_7, .int .i64 a0_8, .int .i64 a0_9, .string a0_10, .int .i64 a0_11, .int .i64 a0_12, .int .i64 a0_13, .int .i64 a0_14, .int .i64 a0_15]) (t := 48) ?hr ?_; (case hd => rfl); (case hg => rfl); (case hr => first | (go_simp; done) | (go_simp; rfl)); intro gb153 hg w3 hbox hb; have BK153 := am_ (hbox); have GW153 := am_ ((gG_ hg (qB HB))); have IGW153 := gI_ GW153; have GE153 := am_ ((gG_ hg (qB HB))); have IGE153 := gI_ GE153; replace HB := am_ (below_step (qB HB) hb); clear hb hbox hg; obtain ⟨hcz4_0, hcz4_1, hcz4_2, hcz4_3, hcz4_4, hcz4_5, hcz4_6, hcz4_7, hcz4_8, hcz4_9, hcz4_10, hcz4_11, hcz4_12, hcz4_13, hcz4_14, hcz4_15⟩ := cz16 BK153.out; obtain ⟨hfz4_0, hfz4_1, hfz4_2, hfz4_3, hfz4_4, hfz4_5, hfz4_6, hfz4_7, hfz4_8, hfz4_9, hfz4_10, hfz4_11, hfz4_12, hfz4_13, hfz4_14, hfz4_15⟩ := fz16 BK153.out))
 (try simp only [Act.put, List.setIfInBounds_toArray, List.set_cons_zero, List.set_cons_succ])
 have H := HC2.out
 clear HC2
 by_cases c5 : a0_0 = 1
 ·
  rw [if_pos c5] at H
  have c5b0 : (a0_0 == 1) = true := beq_iff_eq.mpr c5
  have c5b1 : (a0_0 != 1) = false := bne_eq_false_iff_eq.mpr c5
  clear c5
  (first | rw [c5b0] | (simp only [i64_w, i32_w]; rw [c5b0]) | skip)
  have HC6 := Aside0.mk H
  clear H
  obtain ⟨hcz7_0, hcz7_1, hcz7_2, hcz7_3, hcz7_4, hcz7_5, hcz7_6, hcz7_7, hcz7_8, hcz7_9, hcz7_10, hcz7_11, hcz7_12, hcz7_13, hcz7_14, hcz7_15⟩ := cz16 BK153.out
  obtain ⟨hfz7_0, hfz7_1, hfz7_2, hfz7_3, hfz7_4, hfz7_5, hfz7_6, hfz7_7, hfz7_8, hfz7_9, hfz7_10, hfz7_11, hfz7_12, hfz7_13, hfz7_14, hfz7_15⟩ := fz16 BK153.out
  go_upto_region 3 with (first | ((with_reducible refine gate_dst (N := 3) rfl ?_); refine box_event ?hg (N := 3) ?hd (cs := #[.int .i64 0, .string (⟨#[]⟩ : ByteArray), .int .i64 0, .int .i64 0, .int .i64 0, .string (⟨#[]⟩ : ByteArray), .int .i64 0, .int .i64 0]) (t := 45) ?hr ?_; (case hd => rfl); (case hg => rfl); (case hr => first | (go_simp; done) | (go_simp; rfl)); intro gb154 hg w8 hbox hb; have BK154 := am_ (hbox); have GW154 := am_ ((gG_ hg (qB HB))); have IGW154 := gI_ GW154; have GE154 := am_ ((gG_ hg (qB HB))); have IGE154 := gI_ GE154; replace HB := am_ (below_step (qB HB) hb); have NB153_154 := am_ ((gN_ hg (qK BK153))); have NB154_153 := am_ ((gM_ hg (qK BK153))); replace BK153 := am_ (blk_below (qK BK153) hb); clear hb hbox hg; have hnb9 := NB154_153.out; have hnc9 := NB153_154.out; obtain ⟨hcz10_0, hcz10_1, hcz10_2, hcz10_3, hcz10_4, hcz10_5, hcz10_6, hcz10_7⟩ := cz8 BK154.out; obtain ⟨hfz10_0, hfz10_1, hfz10_2, hfz10_3, hfz10_4, hfz10_5, hfz10_6, hfz10_7⟩ := fz8 BK154.out))
  (try simp only [Act.put, List.setIfInBounds_toArray, List.set_cons_zero, List.set_cons_succ])
  go_cut [25] (fun v25 wc => ∃ (kq : Nat) (x25_5 : Bool), v25 = .bool x25_5 ∧ Aside0 (spec_PutItem.j0 kq x25_5 a0_1 a0_2 a0_3 a0_4 a0_5 a0_6 a0_7 a0_8 = some r) ∧ Aside0 (kq ≤ k) ∧ Aside0 (wc.heap[gb153]? = some (.cells #[.int .i64 a0_0, .int .i64 a0_1, .string a0_2, .int .i64 a0_3, .int .i64 a0_4, .int .i64 a0_5, .string a0_6, .int .i64 a0_7, .int .i64 a0_8, .int .i64 a0_9, .string a0_10, .int .i64 a0_11, .int .i64 a0_12, .int .i64 a0_13, .int .i64 a0_14, .int .i64 a0_15] 48 (0, 0))) ∧ Aside0 (wc.heap[gb154]? = some (.cells #[.int .i64 a0_1, .string a0_2, .int .i64 a0_3, .int .i64 a0_4, .int .i64 a0_5, .string a0_6, .int .i64 a0_7, .int .i64 a0_8] 45 (0, 0))) ∧ Aside0 (Below w.heap.size w wc))
  case first =>
   have H := HC6.out
   clear HC6
   replace H := Option.bind_eq_some_iff.mp H
   obtain ⟨t155, A110, H⟩ := H
   replace H : (if t155 = true then (if (!(a0_9 == 0) || (!(a0_10.toList == ([] : List UInt8)) || (!(a0_11 == 0) || (!(a0_12 == 0) || (!(a0_13 == 0) || (!(a0_14 == 0) || (!(a0_15 == 0)))))))) = true then (spec_PutItem.j0 k true a0_1 a0_2 a0_3 a0_4 a0_5 a0_6 a0_7 a0_8) else (spec_PutItem.j0 k (decide (a0_8 > 65535)) a0_1 a0_2 a0_3 a0_4 a0_5 a0_6 a0_7 a0_8)) else (spec_PutItem.j0 k true a0_1 a0_2 a0_3 a0_4 a0_5 a0_6 a0_7 a0_8)) = some r := H
   have A11 := Aside0.mk A110
   clear A110
   by_cases c12 : t155 = true
   ·
    subst c12
    have H1 : (if (!(a0_9 == 0) || (!(a0_10.toList == ([] : List UInt8)) || (!(a0_11 == 0) || (!(a0_12 == 0) || (!(a0_13 == 0) || (!(a0_14 == 0) || (!(a0_15 == 0)))))))) = true then (spec_PutItem.j0 k true a0_1 a0_2 a0_3 a0_4 a0_5 a0_6 a0_7 a0_8) else (spec_PutItem.j0 k (decide (a0_8 > 65535)) a0_1 a0_2 a0_3 a0_4 a0_5 a0_6 a0_7 a0_8)) = some r := by rw [if_pos rfl] at H; exact H
    clear H
    have H := H1
    clear H1
    by_cases c13 : (!(a0_9 == 0) || (!(a0_10.toList == ([] : List UInt8)) || (!(a0_11 == 0) || (!(a0_12 == 0) || (!(a0_13 == 0) || (!(a0_14 == 0) || (!(a0_15 == 0)))))))) = true
    ·
     rw [if_pos c13] at H
     have c13b0 : (!(a0_9 == 0) || (!(a0_10.toList == ([] : List UInt8)) || (!(a0_11 == 0) || (!(a0_12 == 0) || (!(a0_13 == 0) || (!(a0_14 == 0) || (!(a0_15 == 0)))))))) = true := c13
     (try (have c13b0e := c13b0; simp only [Go.Proofs.YtahfemlfdpbkkaaV.beq_nil, Go.Proofs.YtahfemlfdpbkkaaV.bne_nil] at c13b0e))
     clear c13
     (first | rw [c13b0] | (simp only [i64_w, i32_w]; rw [c13b0]) | skip)
     have H' := Aside0.mk H
     clear H
     have hnb14 := NB154_153.out
     have hnc14 := NB153_154.out
     obtain ⟨hcz15_0, hcz15_1, hcz15_2, hcz15_3, hcz15_4, hcz15_5, hcz15_6, hcz15_7⟩ := cz8 BK154.out
     obtain ⟨hfz15_0, hfz15_1, hfz15_2, hfz15_3, hfz15_4, hfz15_5, hfz15_6, hfz15_7⟩ := fz8 BK154.out
     go_wp2_with (first | ((with_reducible refine gate_callee (f := 73) rfl ?_); refine goesL_ (some 13) rfl rfl Try.func73 (by kernel_rfl) rfl #[.agg #[.int .i64 a0_1, .string a0_2, .int .i64 a0_3, .int .i64 a0_4, .int .i64 a0_5, .string a0_6, .int .i64 a0_7, .int .i64 a0_8]] rfl (by (try simp only [List.map_toArray, List.map_cons, List.map_nil]); first | done | rfl | (simp only [List.length_drop, List.length_take]; rfl)) ?_; (with_reducible refine (spec_AskerOk.calls k a0_1 a0_2 a0_3 a0_4 a0_5 a0_6 a0_7 a0_8 true _ A11.out).mono ?_); rintro e w16 ⟨rfl, hb⟩; refine ⟨_, rfl, ?_⟩; replace BK153 := am_ (blk_below (g := gb153) (o := .cells #[.int .i64 a0_0, .int .i64 a0_1, .string a0_2, .int .i64 a0_3, .int .i64 a0_4, .int .i64 a0_5, .string a0_6, .int .i64 a0_7, .int .i64 a0_8, .int .i64 a0_9, .string a0_10, .int .i64 a0_11, .int .i64 a0_12, .int .i64 a0_13, .int .i64 a0_14, .int .i64 a0_15] 48 (0, 0)) (by (with_reducible repeat (first | refine blk_drewN ?_ _ | refine blk_drew ?_ | refine blk_alloc ?_ _)); refine Go.Proofs.YtahfemlfdpbkkaaV.blk_far8 ?_ NB153_154.out; (with_reducible repeat (first | refine blk_drewN ?_ _ | refine blk_drew ?_ | refine blk_alloc ?_ _)); exact BK153.out) hb); replace BK154 := am_ (blk_below (g := gb154) (o := .cells #[.int .i64 a0_1, .string a0_2, .int .i64 a0_3, .int .i64 a0_4, .int .i64 a0_5, .string a0_6, .int .i64 a0_7, .int .i64 a0_8] 45 (0, 0)) (by (with_reducible repeat (first | refine blk_drewN ?_ _ | refine blk_drew ?_ | refine blk_alloc ?_ _)); refine Go.Proofs.YtahfemlfdpbkkaaV.blk_all8 (show _ = some (Go.Obj.cells #[.int .i64 0, .string (⟨#[]⟩ : ByteArray), .int .i64 0, .int .i64 0, .int .i64 0, .string (⟨#[]⟩ : ByteArray), .int .i64 0, .int .i64 0] _ (0, 0)) from ?_); (with_reducible repeat (first | refine blk_drewN ?_ _ | refine blk_drew ?_ | refine blk_alloc ?_ _)); exact BK154.out) hb); replace HB := am_ (below_step (qB HB) hb); (try clear hb); (try clear hb2); (try clear hk); (try clear hi); obtain ⟨hcz17_0, hcz17_1, hcz17_2, hcz17_3, hcz17_4, hcz17_5, hcz17_6, hcz17_7, hcz17_8, hcz17_9, hcz17_10, hcz17_11, hcz17_12, hcz17_13, hcz17_14, hcz17_15⟩ := cz16 BK153.out; obtain ⟨hfz17_0, hfz17_1, hfz17_2, hfz17_3, hfz17_4, hfz17_5, hfz17_6, hfz17_7, hfz17_8, hfz17_9, hfz17_10, hfz17_11, hfz17_12, hfz17_13, hfz17_14, hfz17_15⟩ := fz16 BK153.out))
     go_meet
     case rel => exact ⟨_, (true), (by first | rfl | (simp; done) | (simp [*]; done) | (simp [Go.Proofs.YtahfemlfdpbkkaaV.bne_nil, Go.Proofs.YtahfemlfdpbkkaaV.beq_nil]; done)), H', ⟨by first | omega | exact Nat.le_refl _⟩, ⟨qK BK153⟩, ⟨qK BK154⟩, ⟨qB HB⟩⟩
    ·
     rw [if_neg c13] at H
     have c13b0 : (!(a0_9 == 0) || (!(a0_10.toList == ([] : List UInt8)) || (!(a0_11 == 0) || (!(a0_12 == 0) || (!(a0_13 == 0) || (!(a0_14 == 0) || (!(a0_15 == 0)))))))) = false := by simpa using c13
     (try (have c13b0e := c13b0; simp only [Go.Proofs.YtahfemlfdpbkkaaV.beq_nil, Go.Proofs.YtahfemlfdpbkkaaV.bne_nil] at c13b0e))
     clear c13
     (first | rw [c13b0] | (simp only [i64_w, i32_w]; rw [c13b0]) | skip)
     have H' := Aside0.mk H
     clear H
     have hnb18 := NB154_153.out
     have hnc18 := NB153_154.out
     obtain ⟨hcz19_0, hcz19_1, hcz19_2, hcz19_3, hcz19_4, hcz19_5, hcz19_6, hcz19_7⟩ := cz8 BK154.out
     obtain ⟨hfz19_0, hfz19_1, hfz19_2, hfz19_3, hfz19_4, hfz19_5, hfz19_6, hfz19_7⟩ := fz8 BK154.out
     go_wp2_with (first | ((with_reducible refine gate_callee (f := 73) rfl ?_); refine goesL_ (some 13) rfl rfl Try.func73 (by kernel_rfl) rfl #[.agg #[.int .i64 a0_1, .string a0_2, .int .i64 a0_3, .int .i64 a0_4, .int .i64 a0_5, .string a0_6, .int .i64 a0_7, .int .i64 a0_8]] rfl (by (try simp only [List.map_toArray, List.map_cons, List.map_nil]); first | done | rfl | (simp only [List.length_drop, List.length_take]; rfl)) ?_; (with_reducible refine (spec_AskerOk.calls k a0_1 a0_2 a0_3 a0_4 a0_5 a0_6 a0_7 a0_8 true _ A11.out).mono ?_); rintro e w20 ⟨rfl, hb⟩; refine ⟨_, rfl, ?_⟩; replace BK153 := am_ (blk_below (g := gb153) (o := .cells #[.int .i64 a0_0, .int .i64 a0_1, .string a0_2, .int .i64 a0_3, .int .i64 a0_4, .int .i64 a0_5, .string a0_6, .int .i64 a0_7, .int .i64 a0_8, .int .i64 a0_9, .string a0_10, .int .i64 a0_11, .int .i64 a0_12, .int .i64 a0_13, .int .i64 a0_14, .int .i64 a0_15] 48 (0, 0)) (by (with_reducible repeat (first | refine blk_drewN ?_ _ | refine blk_drew ?_ | refine blk_alloc ?_ _)); refine Go.Proofs.YtahfemlfdpbkkaaV.blk_far8 ?_ NB153_154.out; (with_reducible repeat (first | refine blk_drewN ?_ _ | refine blk_drew ?_ | refine blk_alloc ?_ _)); exact BK153.out) hb); replace BK154 := am_ (blk_below (g := gb154) (o := .cells #[.int .i64 a0_1, .string a0_2, .int .i64 a0_3, .int .i64 a0_4, .int .i64 a0_5, .string a0_6, .int .i64 a0_7, .int .i64 a0_8] 45 (0, 0)) (by (with_reducible repeat (first | refine blk_drewN ?_ _ | refine blk_drew ?_ | refine blk_alloc ?_ _)); refine Go.Proofs.YtahfemlfdpbkkaaV.blk_all8 (show _ = some (Go.Obj.cells #[.int .i64 0, .string (⟨#[]⟩ : ByteArray), .int .i64 0, .int .i64 0, .int .i64 0, .string (⟨#[]⟩ : ByteArray), .int .i64 0, .int .i64 0] _ (0, 0)) from ?_); (with_reducible repeat (first | refine blk_drewN ?_ _ | refine blk_drew ?_ | refine blk_alloc ?_ _)); exact BK154.out) hb); replace HB := am_ (below_step (qB HB) hb); (try clear hb); (try clear hb2); (try clear hk); (try clear hi); obtain ⟨hcz21_0, hcz21_1, hcz21_2, hcz21_3, hcz21_4, hcz21_5, hcz21_6, hcz21_7, hcz21_8, hcz21_9, hcz21_10, hcz21_11, hcz21_12, hcz21_13, hcz21_14, hcz21_15⟩ := cz16 BK153.out; obtain ⟨hfz21_0, hfz21_1, hfz21_2, hfz21_3, hfz21_4, hfz21_5, hfz21_6, hfz21_7, hfz21_8, hfz21_9, hfz21_10, hfz21_11, hfz21_12, hfz21_13, hfz21_14, hfz21_15⟩ := fz16 BK153.out; obtain ⟨hcz22_0, hcz22_1, hcz22_2, hcz22_3, hcz22_4, hcz22_5, hcz22_6, hcz22_7⟩ := cz8 BK154.out; obtain ⟨hfz22_0, hfz22_1, hfz22_2, hfz22_3, hfz22_4, hfz22_5, hfz22_6, hfz22_7⟩ := fz8 BK154.out))
     go_meet
     case rel => exact ⟨_, (decide (a0_8 > 65535)), (by first | rfl | (simp; done) | (simp [*]; done) | (simp [Go.Proofs.YtahfemlfdpbkkaaV.bne_nil, Go.Proofs.YtahfemlfdpbkkaaV.beq_nil]; done)), H', ⟨by first | omega | exact Nat.le_refl _⟩, ⟨qK BK153⟩, ⟨qK BK154⟩, ⟨qB HB⟩⟩
   ·
    replace c12 := Bool.eq_false_iff.mpr c12
    subst c12
    have H1 : (spec_PutItem.j0 k true a0_1 a0_2 a0_3 a0_4 a0_5 a0_6 a0_7 a0_8) = some r := by rw [if_neg (show ¬ (false = true) by decide)] at H; exact H
    clear H
    have H := H1
    clear H1
    have H' := Aside0.mk H
    clear H
    have hnb23 := NB154_153.out
    have hnc23 := NB153_154.out
    obtain ⟨hcz24_0, hcz24_1, hcz24_2, hcz24_3, hcz24_4, hcz24_5, hcz24_6, hcz24_7⟩ := cz8 BK154.out
    obtain ⟨hfz24_0, hfz24_1, hfz24_2, hfz24_3, hfz24_4, hfz24_5, hfz24_6, hfz24_7⟩ := fz8 BK154.out
    go_wp2_with (first | ((with_reducible refine gate_callee (f := 73) rfl ?_); refine goesL_ (some 13) rfl rfl Try.func73 (by kernel_rfl) rfl #[.agg #[.int .i64 a0_1, .string a0_2, .int .i64 a0_3, .int .i64 a0_4, .int .i64 a0_5, .string a0_6, .int .i64 a0_7, .int .i64 a0_8]] rfl (by (try simp only [List.map_toArray, List.map_cons, List.map_nil]); first | done | rfl | (simp only [List.length_drop, List.length_take]; rfl)) ?_; (with_reducible refine (spec_AskerOk.calls k a0_1 a0_2 a0_3 a0_4 a0_5 a0_6 a0_7 a0_8 false _ A11.out).mono ?_); rintro e w25 ⟨rfl, hb⟩; refine ⟨_, rfl, ?_⟩; replace BK153 := am_ (blk_below (g := gb153) (o := .cells #[.int .i64 a0_0, .int .i64 a0_1, .string a0_2, .int .i64 a0_3, .int .i64 a0_4, .int .i64 a0_5, .string a0_6, .int .i64 a0_7, .int .i64 a0_8, .int .i64 a0_9, .string a0_10, .int .i64 a0_11, .int .i64 a0_12, .int .i64 a0_13, .int .i64 a0_14, .int .i64 a0_15] 48 (0, 0)) (by (with_reducible repeat (first | refine blk_drewN ?_ _ | refine blk_drew ?_ | refine blk_alloc ?_ _)); refine Go.Proofs.YtahfemlfdpbkkaaV.blk_far8 ?_ NB153_154.out; (with_reducible repeat (first | refine blk_drewN ?_ _ | refine blk_drew ?_ | refine blk_alloc ?_ _)); exact BK153.out) hb); replace BK154 := am_ (blk_below (g := gb154) (o := .cells #[.int .i64 a0_1, .string a0_2, .int .i64 a0_3, .int .i64 a0_4, .int .i64 a0_5, .string a0_6, .int .i64 a0_7, .int .i64 a0_8] 45 (0, 0)) (by (with_reducible repeat (first | refine blk_drewN ?_ _ | refine blk_drew ?_ | refine blk_alloc ?_ _)); refine Go.Proofs.YtahfemlfdpbkkaaV.blk_all8 (show _ = some (Go.Obj.cells #[.int .i64 0, .string (⟨#[]⟩ : ByteArray), .int .i64 0, .int .i64 0, .int .i64 0, .string (⟨#[]⟩ : ByteArray), .int .i64 0, .int .i64 0] _ (0, 0)) from ?_); (with_reducible repeat (first | refine blk_drewN ?_ _ | refine blk_drew ?_ | refine blk_alloc ?_ _)); exact BK154.out) hb); replace HB := am_ (below_step (qB HB) hb); (try clear hb); (try clear hb2); (try clear hk); (try clear hi)))
    go_meet
    case rel => exact ⟨_, (true), (by first | rfl | (simp; done) | (simp [*]; done) | (simp [Go.Proofs.YtahfemlfdpbkkaaV.bne_nil, Go.Proofs.YtahfemlfdpbkkaaV.beq_nil]; done)), H', ⟨by first | omega | exact Nat.le_refl _⟩, ⟨qK BK153⟩, ⟨qK BK154⟩, ⟨qB HB⟩⟩
  case rest =>
   clear HC6
   try clear c1
   try clear c2
   try clear p2
   try clear c5
   try clear c5b0
   try clear c5b1
   try clear c7
   try clear c9
   try clear c12
   try clear c13
   try clear c13b0
   try clear c14
   try clear c18
   try clear c23
   try clear c25
   (try clear hcz10_0 hcz10_1 hcz10_2 hcz10_3 hcz10_4 hcz10_5 hcz10_6 hcz10_7)
   (try clear hcz15_0 hcz15_1 hcz15_2 hcz15_3 hcz15_4 hcz15_5 hcz15_6 hcz15_7)
   (try clear hcz17_0 hcz17_1 hcz17_10 hcz17_11 hcz17_12 hcz17_13 hcz17_14 hcz17_15 hcz17_2 hcz17_3 hcz17_4 hcz17_5 hcz17_6 hcz17_7 hcz17_8 hcz17_9)
   (try clear hcz19_0 hcz19_1 hcz19_2 hcz19_3 hcz19_4 hcz19_5 hcz19_6 hcz19_7)
   (try clear hcz21_0 hcz21_1 hcz21_10 hcz21_11 hcz21_12 hcz21_13 hcz21_14 hcz21_15 hcz21_2 hcz21_3 hcz21_4 hcz21_5 hcz21_6 hcz21_7 hcz21_8 hcz21_9)
   (try clear hcz22_0 hcz22_1 hcz22_2 hcz22_3 hcz22_4 hcz22_5 hcz22_6 hcz22_7)
   (try clear hcz24_0 hcz24_1 hcz24_2 hcz24_3 hcz24_4 hcz24_5 hcz24_6 hcz24_7)
   (try clear hcz4_0 hcz4_1 hcz4_10 hcz4_11 hcz4_12 hcz4_13 hcz4_14 hcz4_15 hcz4_2 hcz4_3 hcz4_4 hcz4_5 hcz4_6 hcz4_7 hcz4_8 hcz4_9)
   (try clear hcz7_0 hcz7_1 hcz7_10 hcz7_11 hcz7_12 hcz7_13 hcz7_14 hcz7_15 hcz7_2 hcz7_3 hcz7_4 hcz7_5 hcz7_6 hcz7_7 hcz7_8 hcz7_9)
   (try clear hfz10_0 hfz10_1 hfz10_2 hfz10_3 hfz10_4 hfz10_5 hfz10_6 hfz10_7)
   (try clear hfz15_0 hfz15_1 hfz15_2 hfz15_3 hfz15_4 hfz15_5 hfz15_6 hfz15_7)
   (try clear hfz17_0 hfz17_1 hfz17_10 hfz17_11 hfz17_12 hfz17_13 hfz17_14 hfz17_15 hfz17_2 hfz17_3 hfz17_4 hfz17_5 hfz17_6 hfz17_7 hfz17_8 hfz17_9)
   (try clear hfz19_0 hfz19_1 hfz19_2 hfz19_3 hfz19_4 hfz19_5 hfz19_6 hfz19_7)
   (try clear hfz21_0 hfz21_1 hfz21_10 hfz21_11 hfz21_12 hfz21_13 hfz21_14 hfz21_15 hfz21_2 hfz21_3 hfz21_4 hfz21_5 hfz21_6 hfz21_7 hfz21_8 hfz21_9)
   (try clear hfz22_0 hfz22_1 hfz22_2 hfz22_3 hfz22_4 hfz22_5 hfz22_6 hfz22_7)
   (try clear hfz24_0 hfz24_1 hfz24_2 hfz24_3 hfz24_4 hfz24_5 hfz24_6 hfz24_7)
   (try clear hfz4_0 hfz4_1 hfz4_10 hfz4_11 hfz4_12 hfz4_13 hfz4_14 hfz4_15 hfz4_2 hfz4_3 hfz4_4 hfz4_5 hfz4_6 hfz4_7 hfz4_8 hfz4_9)
   (try clear hfz7_0 hfz7_1 hfz7_10 hfz7_11 hfz7_12 hfz7_13 hfz7_14 hfz7_15 hfz7_2 hfz7_3 hfz7_4 hfz7_5 hfz7_6 hfz7_7 hfz7_8 hfz7_9)
   obtain ⟨kq, x25_5, rfl, HA, HJ5, BK153, BK154, HB⟩ := hcut
   cases kq with
   | zero => exact absurd HA.out (by simp [spec_PutItem.j0])
   | succ kj5 =>
    have H := HA.out
    clear HA
    simp only [spec_PutItem.j0] at H
    by_cases c26 : x25_5 = true
    ·
     subst c26
     have H1 : (some (([] : List Int))) = some r := by rw [if_pos rfl] at H; exact H
     clear H
     have H := H1
     clear H1
     obtain ⟨y156, hy156⟩ : ∃ y_ : List Int, y_ = (([] : List Int)) := ⟨_, rfl⟩
     replace H : (some y156) = some r := by first | (rw [hy156]; with_reducible exact H) | (have H2_ := (Option.bind_some _ _).symm.trans H; rw [hy156]; with_reducible exact H2_) | (have H2_ := (Option.bind_some _ _).symm.trans H; with_reducible exact H2_) | with_reducible exact H | (rw [hy156]; exact H) | exact H
     have Ny156 := Aside0.mk hy156
     clear hy156
     obtain rfl := Option.some.inj H
     go_wp2_with (first | ((with_reducible refine gate_dst (N := 26) rfl ?_); refine Kd.R_lit (Kd.int .u8) _ 5 ?hg (N := 26) ?hd (xs := ([] : List Int)) (inner := []) (ok := fun _ => True) (okp := fun _ => True) ?hr ?hp (fun _ hk => hk) trivial (Below.refl _ _) (Nat.le_refl _) (by simp) ?_; (case hd => rfl); (case hg => rfl); (case hr => first | (go_simp; done) | (go_simp; rfl)); (case hp => exact (Reps.none _ _)); intro v157 w27 ho28 hb hg_ hnew_; clear hg_ hnew_; (first | rw [← Ny156.out] at ho28 | (simp only [Int.reduceToNat] at ho28; rw [← Ny156.out] at ho28)); have HO158 := am_ (Kd.R_lower ho28 (below_size (qB HB))); replace BK153 := am_ (blk_below (qK BK153) hb); replace BK154 := am_ (blk_below (qK BK154) hb); replace HB := am_ (below_step (qB HB) hb); clear hb ho28))
     go_ret
     exact ⟨_, by first | rfl | (simp [errW_none, errW_some] <;> rfl) | (simp [*, errW_none, errW_some] <;> rfl), qR HO158, qB HB⟩
    ·
     replace c26 := Bool.eq_false_iff.mpr c26
     subst c26
     have H1 : ((spec_PutWord.f (([1] : List Int)) a0_1).bind fun t162 => ((some (([(a0_3) % 256] : List Int) : List Int)).bind fun y165 => (if t162.length + y165.length < 140737488355328 then ((spec_PutText.f kj5 (t162 ++ y165) a0_2).bind fun t171 => ((spec_PutWord.f t171 a0_4).bind fun t174 => ((spec_PutWord.f t174 (wrap64 (Int.tdiv a0_5 256))).bind fun t177 => ((some (([(Int.tmod a0_5 256) % 256] : List Int) : List Int)).bind fun y180 => (if t177.length + y180.length < 140737488355328 then ((spec_PutText.f kj5 (t177 ++ y180) a0_6).bind fun t186 => ((spec_PutWord.f t186 a0_7).bind fun t189 => ((spec_PutWord.f t189 a0_8).bind fun t192 => (some t192)))) else (none)))))) else (none)))) = some r := by rw [if_neg (show ¬ (false = true) by decide)] at H; exact H
     clear H
     have H := H1
     clear H1
     obtain ⟨y159, hy159⟩ : ∃ y_ : List Int, y_ = (([1] : List Int)) := ⟨_, rfl⟩
     replace H : ((spec_PutWord.f y159 a0_1).bind fun t162 => ((some (([(a0_3) % 256] : List Int) : List Int)).bind fun y165 => (if t162.length + y165.length < 140737488355328 then ((spec_PutText.f kj5 (t162 ++ y165) a0_2).bind fun t171 => ((spec_PutWord.f t171 a0_4).bind fun t174 => ((spec_PutWord.f t174 (wrap64 (Int.tdiv a0_5 256))).bind fun t177 => ((some (([(Int.tmod a0_5 256) % 256] : List Int) : List Int)).bind fun y180 => (if t177.length + y180.length < 140737488355328 then ((spec_PutText.f kj5 (t177 ++ y180) a0_6).bind fun t186 => ((spec_PutWord.f t186 a0_7).bind fun t189 => ((spec_PutWord.f t189 a0_8).bind fun t192 => (some t192)))) else (none)))))) else (none)))) = some r := by first | (rw [hy159]; with_reducible exact H) | (have H2_ := (Option.bind_some _ _).symm.trans H; rw [hy159]; with_reducible exact H2_) | (have H2_ := (Option.bind_some _ _).symm.trans H; with_reducible exact H2_) | with_reducible exact H | (rw [hy159]; exact H) | exact H
     have Ny159 := Aside0.mk hy159
     clear hy159
     replace H := Option.bind_eq_some_iff.mp H
     obtain ⟨t162, A290, H⟩ := H
     replace H : ((some (([(a0_3) % 256] : List Int) : List Int)).bind fun y165 => (if t162.length + y165.length < 140737488355328 then ((spec_PutText.f kj5 (t162 ++ y165) a0_2).bind fun t171 => ((spec_PutWord.f t171 a0_4).bind fun t174 => ((spec_PutWord.f t174 (wrap64 (Int.tdiv a0_5 256))).bind fun t177 => ((some (([(Int.tmod a0_5 256) % 256] : List Int) : List Int)).bind fun y180 => (if t177.length + y180.length < 140737488355328 then ((spec_PutText.f kj5 (t177 ++ y180) a0_6).bind fun t186 => ((spec_PutWord.f t186 a0_7).bind fun t189 => ((spec_PutWord.f t189 a0_8).bind fun t192 => (some t192)))) else (none)))))) else (none))) = some r := H
     have A29 := Aside0.mk A290
     clear A290
     obtain ⟨y165, hy165⟩ : ∃ y_ : List Int, y_ = (([(a0_3) % 256] : List Int)) := ⟨_, rfl⟩
     replace H : (if t162.length + y165.length < 140737488355328 then ((spec_PutText.f kj5 (t162 ++ y165) a0_2).bind fun t171 => ((spec_PutWord.f t171 a0_4).bind fun t174 => ((spec_PutWord.f t174 (wrap64 (Int.tdiv a0_5 256))).bind fun t177 => ((some (([(Int.tmod a0_5 256) % 256] : List Int) : List Int)).bind fun y180 => (if t177.length + y180.length < 140737488355328 then ((spec_PutText.f kj5 (t177 ++ y180) a0_6).bind fun t186 => ((spec_PutWord.f t186 a0_7).bind fun t189 => ((spec_PutWord.f t189 a0_8).bind fun t192 => (some t192)))) else (none)))))) else (none)) = some r := by first | (rw [hy165]; with_reducible exact H) | (have H2_ := (Option.bind_some _ _).symm.trans H; rw [hy165]; with_reducible exact H2_) | (have H2_ := (Option.bind_some _ _).symm.trans H; with_reducible exact H2_) | with_reducible exact H | (rw [hy165]; exact H) | exact H
     have Ny165 := Aside0.mk hy165
     clear hy165
     by_cases c30 : t162.length + y165.length < 140737488355328
     ·
      rw [if_pos c30] at H
      have LMc30 := Aside0.mk c30
      clear c30
      obtain ⟨y168, hy168⟩ : ∃ y_ : List Int, y_ = (t162 ++ y165) := ⟨_, rfl⟩
      replace H : ((spec_PutText.f kj5 y168 a0_2).bind fun t171 => ((spec_PutWord.f t171 a0_4).bind fun t174 => ((spec_PutWord.f t174 (wrap64 (Int.tdiv a0_5 256))).bind fun t177 => ((some (([(Int.tmod a0_5 256) % 256] : List Int) : List Int)).bind fun y180 => (if t177.length + y180.length < 140737488355328 then ((spec_PutText.f kj5 (t177 ++ y180) a0_6).bind fun t186 => ((spec_PutWord.f t186 a0_7).bind fun t189 => ((spec_PutWord.f t189 a0_8).bind fun t192 => (some t192)))) else (none)))))) = some r := by first | (rw [hy168]; with_reducible exact H) | (have H2_ := (Option.bind_some _ _).symm.trans H; rw [hy168]; with_reducible exact H2_) | (have H2_ := (Option.bind_some _ _).symm.trans H; with_reducible exact H2_) | with_reducible exact H | (rw [hy168]; exact H) | exact H
      have Ny168 := Aside0.mk hy168
      clear hy168
      replace H := Option.bind_eq_some_iff.mp H
      obtain ⟨t171, A310, H⟩ := H
      replace H : ((spec_PutWord.f t171 a0_4).bind fun t174 => ((spec_PutWord.f t174 (wrap64 (Int.tdiv a0_5 256))).bind fun t177 => ((some (([(Int.tmod a0_5 256) % 256] : List Int) : List Int)).bind fun y180 => (if t177.length + y180.length < 140737488355328 then ((spec_PutText.f kj5 (t177 ++ y180) a0_6).bind fun t186 => ((spec_PutWord.f t186 a0_7).bind fun t189 => ((spec_PutWord.f t189 a0_8).bind fun t192 => (some t192)))) else (none))))) = some r := H
      have A31 := Aside0.mk A310
      clear A310
      replace H := Option.bind_eq_some_iff.mp H
      obtain ⟨t174, A320, H⟩ := H
      replace H : ((spec_PutWord.f t174 (wrap64 (Int.tdiv a0_5 256))).bind fun t177 => ((some (([(Int.tmod a0_5 256) % 256] : List Int) : List Int)).bind fun y180 => (if t177.length + y180.length < 140737488355328 then ((spec_PutText.f kj5 (t177 ++ y180) a0_6).bind fun t186 => ((spec_PutWord.f t186 a0_7).bind fun t189 => ((spec_PutWord.f t189 a0_8).bind fun t192 => (some t192)))) else (none)))) = some r := H
      have A32 := Aside0.mk A320
      clear A320
      replace H := Option.bind_eq_some_iff.mp H
      obtain ⟨t177, A330, H⟩ := H
      replace H : ((some (([(Int.tmod a0_5 256) % 256] : List Int) : List Int)).bind fun y180 => (if t177.length + y180.length < 140737488355328 then ((spec_PutText.f kj5 (t177 ++ y180) a0_6).bind fun t186 => ((spec_PutWord.f t186 a0_7).bind fun t189 => ((spec_PutWord.f t189 a0_8).bind fun t192 => (some t192)))) else (none))) = some r := H
      have A33 := Aside0.mk A330
      clear A330
      obtain ⟨y180, hy180⟩ : ∃ y_ : List Int, y_ = (([(Int.tmod a0_5 256) % 256] : List Int)) := ⟨_, rfl⟩
      replace H : (if t177.length + y180.length < 140737488355328 then ((spec_PutText.f kj5 (t177 ++ y180) a0_6).bind fun t186 => ((spec_PutWord.f t186 a0_7).bind fun t189 => ((spec_PutWord.f t189 a0_8).bind fun t192 => (some t192)))) else (none)) = some r := by first | (rw [hy180]; with_reducible exact H) | (have H2_ := (Option.bind_some _ _).symm.trans H; rw [hy180]; with_reducible exact H2_) | (have H2_ := (Option.bind_some _ _).symm.trans H; with_reducible exact H2_) | with_reducible exact H | (rw [hy180]; exact H) | exact H
      have Ny180 := Aside0.mk hy180
      clear hy180
      by_cases c34 : t177.length + y180.length < 140737488355328
      ·
       rw [if_pos c34] at H
       have LMc34 := Aside0.mk c34
       clear c34
       obtain ⟨y183, hy183⟩ : ∃ y_ : List Int, y_ = (t177 ++ y180) := ⟨_, rfl⟩
       replace H : ((spec_PutText.f kj5 y183 a0_6).bind fun t186 => ((spec_PutWord.f t186 a0_7).bind fun t189 => ((spec_PutWord.f t189 a0_8).bind fun t192 => (some t192)))) = some r := by first | (rw [hy183]; with_reducible exact H) | (have H2_ := (Option.bind_some _ _).symm.trans H; rw [hy183]; with_reducible exact H2_) | (have H2_ := (Option.bind_some _ _).symm.trans H; with_reducible exact H2_) | with_reducible exact H | (rw [hy183]; exact H) | exact H
       have Ny183 := Aside0.mk hy183
       clear hy183
       replace H := Option.bind_eq_some_iff.mp H
       obtain ⟨t186, A350, H⟩ := H
       replace H : ((spec_PutWord.f t186 a0_7).bind fun t189 => ((spec_PutWord.f t189 a0_8).bind fun t192 => (some t192))) = some r := H
       have A35 := Aside0.mk A350
       clear A350
       replace H := Option.bind_eq_some_iff.mp H
       obtain ⟨t189, A360, H⟩ := H
       replace H : ((spec_PutWord.f t189 a0_8).bind fun t192 => (some t192)) = some r := H
       have A36 := Aside0.mk A360
       clear A360
       replace H := Option.bind_eq_some_iff.mp H
       obtain ⟨t192, A370, H⟩ := H
       replace H : (some t192) = some r := H
       have A37 := Aside0.mk A370
       clear A370
       obtain rfl := Option.some.inj H
       try go_wp2
       replace BK153 := am_ (blk_drew BK153.out)
       replace BK154 := am_ (blk_drew BK154.out)
       replace HB := am_ (below_drew1 HB.out)
       refine start_ (n := 13) (S := fun w' => w'.cell? ⟨gb154, 0, none⟩ = some (.int .i64 a0_1) ∧ w'.cell? ⟨gb154, 1, none⟩ = some (.string a0_2) ∧ w'.cell? ⟨gb154, 2, none⟩ = some (.int .i64 a0_3) ∧ w'.cell? ⟨gb154, 3, none⟩ = some (.int .i64 a0_4) ∧ w'.cell? ⟨gb154, 4, none⟩ = some (.int .i64 a0_5) ∧ w'.cell? ⟨gb154, 5, none⟩ = some (.string a0_6) ∧ w'.cell? ⟨gb154, 6, none⟩ = some (.int .i64 a0_7) ∧ w'.cell? ⟨gb154, 7, none⟩ = some (.int .i64 a0_8)) (ds := []) #[false, false, false, false, false, false, false, false, false, false, false, false, false] (by kernel_rfl) rfl rfl (cz8 BK154.out) (fun hHeld => ?_); refine with_tabW spec_PutItem.tab5 spec_PutItem.bits5 (fun HT_ HW_ => ?_)
       generalize wc.drew = w38 at BK153 BK154 HB hHeld ⊢
       refine pure_ (i := 1) (N := some 28) (v := ?_) (a' := ?_) #[false, true, false, false, false, false, false, false, false, false, false, false, false] rfl rfl (any_of HT_.out (by kernel_rfl)) (fun _ _ _ h => h) (Or.inl ⟨by rfl, ?_⟩) ?_ ?_
       rotate_left
       ·
        intro w'
        go_simp
        with_reducible rfl
       rotate_left
       ·
        simp only [Act.put, List.setIfInBounds_toArray, List.set_cons_zero, List.set_cons_succ, i64_w, i32_w]
        rfl
       refine pure_ (i := 4) (N := some 31) (v := ?_) (a' := ?_) #[false, true, false, false, true, false, false, false, false, false, false, false, false] rfl rfl (any_of HT_.out (by kernel_rfl)) (fun _ _ _ h => h) (Or.inl ⟨by rfl, ?_⟩) ?_ ?_
       rotate_left
       ·
        intro w'
        go_simp
        with_reducible rfl
       rotate_left
       ·
        simp only [Act.put, List.setIfInBounds_toArray, List.set_cons_zero, List.set_cons_succ, i64_w, i32_w]
        rfl
       refine pure_ (i := 9) (N := some 36) (v := ?_) (a' := ?_) #[false, true, false, false, true, false, false, false, false, true, false, false, false] rfl rfl (any_of HT_.out (by kernel_rfl)) (fun _ _ _ h => h) (Or.inl ⟨by rfl, ?_⟩) ?_ ?_
       rotate_left
       ·
        intro w'
        go_simp
        with_reducible rfl
       rotate_left
       ·
        simp only [Act.put, List.setIfInBounds_toArray, List.set_cons_zero, List.set_cons_succ, i64_w, i32_w]
        rfl
       refine take_ (i := 2) (N := some 29) (v := ?_) (a' := ?_) #[false, true, true, false, true, false, false, false, false, true, false, false, false] rfl rfl (take_ofW HT_.out HW_.out (by kernel_rfl)) (fun _ _ _ h => h) (Or.inl ⟨by rfl, ?_⟩) hHeld ?_ ?_
       rotate_left
       ·
        rintro w' ⟨s0, s1, s2, s3, s4, s5, s6, s7⟩
        go_simp
        with_reducible rfl
       rotate_left
       ·
        simp only [Act.put, List.setIfInBounds_toArray, List.set_cons_zero, List.set_cons_succ, i64_w, i32_w]
        rfl
       refine take_ (i := 5) (N := some 32) (v := ?_) (a' := ?_) #[false, true, true, false, true, true, false, false, false, true, false, false, false] rfl rfl (take_ofW HT_.out HW_.out (by kernel_rfl)) (fun _ _ _ h => h) (Or.inl ⟨by rfl, ?_⟩) hHeld ?_ ?_
       rotate_left
       ·
        rintro w' ⟨s0, s1, s2, s3, s4, s5, s6, s7⟩
        go_simp
        with_reducible rfl
       rotate_left
       ·
        simp only [Act.put, List.setIfInBounds_toArray, List.set_cons_zero, List.set_cons_succ, i64_w, i32_w]
        rfl
       refine pure_ (i := 6) (N := some 33) (v := ?_) (a' := ?_) #[false, true, true, false, true, true, true, false, false, true, false, false, false] rfl rfl (any_of HT_.out (by kernel_rfl)) (fun _ _ _ h => h) (Or.inl ⟨by rfl, ?_⟩) ?_ ?_
       rotate_left
       ·
        intro w'
        go_simp
        with_reducible rfl
       rotate_left
       ·
        simp only [Act.put, List.setIfInBounds_toArray, List.set_cons_zero, List.set_cons_succ, i64_w, i32_w]
        rfl
       refine take_ (i := 10) (N := some 37) (v := ?_) (a' := ?_) #[false, true, true, false, true, true, true, false, false, true, true, false, false] rfl rfl (take_ofW HT_.out HW_.out (by kernel_rfl)) (fun _ _ _ h => h) (Or.inl ⟨by rfl, ?_⟩) hHeld ?_ ?_
       rotate_left
       ·
        rintro w' ⟨s0, s1, s2, s3, s4, s5, s6, s7⟩
        go_simp
        with_reducible rfl
       rotate_left
       ·
        simp only [Act.put, List.setIfInBounds_toArray, List.set_cons_zero, List.set_cons_succ, i64_w, i32_w]
        rfl
       refine join_ (σ := Value × Value × Value) 3 #[true, true, true, true, true, true, true, true, false, true, true, false, false] (fun s_ => [(27, s_.1), (30, s_.2.1), (34, s_.2.2)]) (fun s_ w' => (w'.cell? ⟨gb154, 0, none⟩ = some (.int .i64 a0_1) ∧ w'.cell? ⟨gb154, 1, none⟩ = some (.string a0_2) ∧ w'.cell? ⟨gb154, 2, none⟩ = some (.int .i64 a0_3) ∧ w'.cell? ⟨gb154, 3, none⟩ = some (.int .i64 a0_4) ∧ w'.cell? ⟨gb154, 4, none⟩ = some (.int .i64 a0_5) ∧ w'.cell? ⟨gb154, 5, none⟩ = some (.string a0_6) ∧ w'.cell? ⟨gb154, 6, none⟩ = some (.int .i64 a0_7) ∧ w'.cell? ⟨gb154, 7, none⟩ = some (.int .i64 a0_8)) ∧ (Kd.R (Kd.int .u8) 5 w' w.heap.size (fun k_ => some k_ ≠ (s_.2.1 : Value).ownBlock ∧ some k_ ≠ (s_.2.2 : Value).ownBlock) s_.1 y159) ∧ (Kd.R (Kd.int .u8) 5 w' w.heap.size (fun k_ => some k_ ≠ (s_.1 : Value).ownBlock ∧ some k_ ≠ (s_.2.2 : Value).ownBlock) s_.2.1 t162) ∧ (Kd.R (Kd.int .u8) 5 w' w.heap.size (fun k_ => some k_ ≠ (s_.1 : Value).ownBlock ∧ some k_ ≠ (s_.2.1 : Value).ownBlock) s_.2.2 y165) ∧ (w'.heap[gb153]? = some (.cells #[.int .i64 a0_0, .int .i64 a0_1, .string a0_2, .int .i64 a0_3, .int .i64 a0_4, .int .i64 a0_5, .string a0_6, .int .i64 a0_7, .int .i64 a0_8, .int .i64 a0_9, .string a0_10, .int .i64 a0_11, .int .i64 a0_12, .int .i64 a0_13, .int .i64 a0_14, .int .i64 a0_15] 48 (0, 0))) ∧ (w'.heap[gb154]? = some (.cells #[.int .i64 a0_1, .string a0_2, .int .i64 a0_3, .int .i64 a0_4, .int .i64 a0_5, .string a0_6, .int .i64 a0_7, .int .i64 a0_8] 45 (0, 0))) ∧ (Below w.heap.size w w')) ?_ ?_
       rotate_left
       ·
        intro hCont
        refine two_ (i := 0) (j := 7) (Ni := some 27) (Nj := some 34) #[true, true, true, false, true, true, true, false, false, true, true, false, false] #[false, true, true, false, true, true, true, true, false, true, true, false, false] rfl rfl rfl rfl (two_of HT_.out (by kernel_rfl)) (by decide) (by decide) (fun K hK => ?_) (fun K hK => ?_)
        ·
         skip
         refine Kd.R_lit_step (Kd.int .u8) _ 5 ?hg (N := 27) ?hd (xs := ([1] : List Int)) (inner := [.int .u8 1]) (ok := fun _ => True) (okp := fun _ => True) ?hr ?hp (fun _ hk => hk) trivial (Below.refl _ _) (Nat.le_refl _) (by simp) ?_; (case hd => rfl); (case hg => rfl); (case hr => first | (go_simp; done) | (go_simp; rfl)); (case hp => exact (Reps.one (show Kd.M (Kd.int .u8) _ _ _ 1 [.int .u8 1] from rfl) (Reps.none _ _)))
         intro v160 w39 ho40 hb hg_ hnew_
         clear hg_ hnew_
         (first | rw [← Ny159.out] at ho40 | (simp only [Int.reduceToNat] at ho40; rw [← Ny159.out] at ho40))
         have HO161 := am_ (Kd.R_lower ho40 (below_size (qB HB)))
         replace BK153 := am_ (blk_below (qK BK153) hb)
         replace BK154 := am_ (blk_below (qK BK154) hb)
         replace HB := am_ (below_step (qB HB) hb)
         clear hb ho40
         obtain ⟨Ao41, co41, eo41⟩ := Kd.R_slice HO161.out
         (first | subst eo41 | (injection eo41 with f1_ f2_ f3_; have f4_ := f1_.symm; have f5_ := f3_.symm; clear f1_ f2_ f3_; subst f4_; subst f5_))
         refine hK.out _ _ (cz8 BK154.out) (fun hHeld => ?_)
         clear hK K
         refine norm_ (a' := ?_) ?_ ?_
         rotate_left
         ·
          show Act.put _ (some 27) _ = _
          simp only [Act.put, List.setIfInBounds_toArray, List.set_cons_zero, List.set_cons_succ, i64_w, i32_w]
          rfl
         refine two_ (i := 3) (j := 7) (Ni := some 30) (Nj := some 34) #[true, true, true, true, true, true, true, false, false, true, true, false, false] #[true, true, true, false, true, true, true, true, false, true, true, false, false] rfl rfl rfl rfl (two_of HT_.out (by kernel_rfl)) (by decide) (by decide) (fun K hK => ?_) (fun K hK => ?_)
         ·
          skip
          refine goes_ Try.func75 (by kernel_rfl) rfl #[.slice Ao41 y159.length co41, .int .i64 a0_1] (by rfl) rfl rfl (by (try simp only [List.map_toArray, List.map_cons, List.map_nil]); first | done | rfl | (simp only [List.length_drop, List.length_take]; rfl)) ?_
          with_reducible refine (spec_PutWord.calls _ _ y159 a0_1 t162 _ ?side1 ?side2 A29.out).mono ?_
          (case side1 => exact qC ((Kd.R_reads' HO161.out).2.2))
          (case side2 => exact (Kd.R_reads' HO161.out).2.1)
          rintro e w42 ⟨v163, rfl, ho0, hb⟩
          refine ⟨_, rfl, ?_⟩
          have HO164 := am_ (Kd.R_lower (Kd.R_new' ho0 (Kd.R_lt (qR HO161))) (below_size (qB HB)))
          replace HO161 := am_ (Kd.R_elder' (qR HO161) (Kd.R_base ho0) hb)
          replace BK153 := am_ (blk_below (qK BK153) hb)
          replace BK154 := am_ (blk_below (qK BK154) hb)
          replace HB := am_ (below_step (qB HB) hb)
          (try clear hb ho0)
          refine hK.out _ _ (cz8 BK154.out) (fun hHeld => ?_)
          clear hK K
          refine norm_ (a' := ?_) ?_ ?_
          rotate_left
          ·
           show Act.put _ (some 30) _ = _
           simp only [Act.put, List.setIfInBounds_toArray, List.set_cons_zero, List.set_cons_succ, i64_w, i32_w]
           rfl
          refine one_ (i := 7) (N := some 34) #[true, true, true, true, true, true, true, true, false, true, true, false, false] rfl rfl (one_of HT_.out (by kernel_rfl)) (by decide) (fun K hK => ?_)
          refine Kd.R_lit_step (Kd.int .u8) _ 5 ?hg (N := 34) ?hd (xs := ([(a0_3) % 256] : List Int)) (inner := [.int .u8 ((a0_3) % 256)]) (ok := fun _ => True) (okp := fun _ => True) ?hr ?hp (fun _ hk => hk) trivial (Below.refl _ _) (Nat.le_refl _) (by simp) ?_; (case hd => rfl); (case hg => rfl); (case hr => first | (go_simp; done) | (go_simp; rfl)); (case hp => exact (Reps.one (show Kd.M (Kd.int .u8) _ _ _ ((a0_3) % 256) [.int .u8 ((a0_3) % 256)] from rfl) (Reps.none _ _)))
          intro v166 w43 ho44 hb hg_ hnew_
          clear hg_ hnew_
          (first | rw [← Ny165.out] at ho44 | (simp only [Int.reduceToNat] at ho44; rw [← Ny165.out] at ho44))
          have HO167 := am_ (Kd.R_lower (Kd.R_new' (Kd.R_new' ho44 (Kd.R_lt (qR HO161))) (Kd.R_lt (qR HO164))) (below_size (qB HB)))
          replace HO161 := am_ (Kd.R_elder' (qR HO161) (Kd.R_base ho44) hb)
          replace HO164 := am_ (Kd.R_elder' (qR HO164) (Kd.R_base ho44) hb)
          replace BK153 := am_ (blk_below (qK BK153) hb)
          replace BK154 := am_ (blk_below (qK BK154) hb)
          replace HB := am_ (below_step (qB HB) hb)
          clear hb ho44
          refine hK.out _ _ (cz8 BK154.out) (fun hHeld => ?_)
          clear hK K
          refine norm_ (a' := ?_) ?_ ?_
          rotate_left
          ·
           show Act.put _ (some 34) _ = _
           simp only [Act.put, List.setIfInBounds_toArray, List.set_cons_zero, List.set_cons_succ, i64_w, i32_w]
           rfl
          exact norm_ (by simp only [putAll, Act.put, List.setIfInBounds_toArray, List.set_cons_zero, List.set_cons_succ]) (hCont (.slice Ao41 y159.length co41, v163, v166) _ ⟨hHeld, (tR (Kd.R_mono HO161.out (fun _ hk => ⟨hk.1.2, hk.2⟩))), (tR (Kd.R_mono HO164.out (fun _ hk => ⟨hk.1.2, hk.2⟩))), (tR (Kd.R_mono HO167.out (fun _ hk => ⟨hk.1.2, hk.2⟩))), (qK BK153), (qK BK154), (qB HB)⟩)
         ·
          skip
          refine Kd.R_lit_step (Kd.int .u8) _ 5 ?hg (N := 34) ?hd (xs := ([(a0_3) % 256] : List Int)) (inner := [.int .u8 ((a0_3) % 256)]) (ok := fun _ => True) (okp := fun _ => True) ?hr ?hp (fun _ hk => hk) trivial (Below.refl _ _) (Nat.le_refl _) (by simp) ?_; (case hd => rfl); (case hg => rfl); (case hr => first | (go_simp; done) | (go_simp; rfl)); (case hp => exact (Reps.one (show Kd.M (Kd.int .u8) _ _ _ ((a0_3) % 256) [.int .u8 ((a0_3) % 256)] from rfl) (Reps.none _ _)))
          intro v166 w41 ho42 hb hg_ hnew_
          clear hg_ hnew_
          (first | rw [← Ny165.out] at ho42 | (simp only [Int.reduceToNat] at ho42; rw [← Ny165.out] at ho42))
          have HO167 := am_ (Kd.R_lower (Kd.R_new' ho42 (Kd.R_lt (qR HO161))) (below_size (qB HB)))
          replace HO161 := am_ (Kd.R_elder' (qR HO161) (Kd.R_base ho42) hb)
          replace BK153 := am_ (blk_below (qK BK153) hb)
          replace BK154 := am_ (blk_below (qK BK154) hb)
          replace HB := am_ (below_step (qB HB) hb)
          clear hb ho42
          obtain ⟨Ao43, co43, eo43⟩ := Kd.R_slice HO161.out
          (first | subst eo43 | (injection eo43 with f1_ f2_ f3_; have f4_ := f1_.symm; have f5_ := f3_.symm; clear f1_ f2_ f3_; subst f4_; subst f5_))
          refine hK.out _ _ (cz8 BK154.out) (fun hHeld => ?_)
          clear hK K
          refine norm_ (a' := ?_) ?_ ?_
          rotate_left
          ·
           show Act.put _ (some 34) _ = _
           simp only [Act.put, List.setIfInBounds_toArray, List.set_cons_zero, List.set_cons_succ, i64_w, i32_w]
           rfl
          refine one_ (i := 3) (N := some 30) #[true, true, true, true, true, true, true, true, false, true, true, false, false] rfl rfl (one_of HT_.out (by kernel_rfl)) (by decide) (fun K hK => ?_)
          refine goes_ Try.func75 (by kernel_rfl) rfl #[.slice Ao43 y159.length co43, .int .i64 a0_1] (by rfl) rfl rfl (by (try simp only [List.map_toArray, List.map_cons, List.map_nil]); first | done | rfl | (simp only [List.length_drop, List.length_take]; rfl)) ?_
          with_reducible refine (spec_PutWord.calls _ _ y159 a0_1 t162 _ ?side1 ?side2 A29.out).mono ?_
          (case side1 => exact qC ((Kd.R_reads' HO161.out).2.2))
          (case side2 => exact (Kd.R_reads' HO161.out).2.1)
          rintro e w44 ⟨v163, rfl, ho0, hb⟩
          refine ⟨_, rfl, ?_⟩
          have HO164 := am_ (Kd.R_lower (Kd.R_new' (Kd.R_new' ho0 (Kd.R_lt (qR HO161))) (Kd.R_lt (qR HO167))) (below_size (qB HB)))
          replace HO161 := am_ (Kd.R_elder' (qR HO161) (Kd.R_base ho0) hb)
          replace HO167 := am_ (Kd.R_elder' (qR HO167) (Kd.R_base ho0) hb)
          replace BK153 := am_ (blk_below (qK BK153) hb)
          replace BK154 := am_ (blk_below (qK BK154) hb)
          replace HB := am_ (below_step (qB HB) hb)
          (try clear hb ho0)
          refine hK.out _ _ (cz8 BK154.out) (fun hHeld => ?_)
          clear hK K
          refine norm_ (a' := ?_) ?_ ?_
          rotate_left
          ·
           show Act.put _ (some 30) _ = _
           simp only [Act.put, List.setIfInBounds_toArray, List.set_cons_zero, List.set_cons_succ, i64_w, i32_w]
           rfl
          exact norm_ (by simp only [putAll, Act.put, List.setIfInBounds_toArray, List.set_cons_zero, List.set_cons_succ]) (hCont (.slice Ao43 y159.length co43, v163, v166) _ ⟨hHeld, (tR (Kd.R_mono HO161.out (fun _ hk => ⟨hk.2, hk.1.2⟩))), (tR (Kd.R_mono HO164.out (fun _ hk => ⟨hk.1.2, hk.2⟩))), (tR (Kd.R_mono HO167.out (fun _ hk => ⟨hk.1.2, hk.2⟩))), (qK BK153), (qK BK154), (qB HB)⟩)
        ·
         skip
         refine Kd.R_lit_step (Kd.int .u8) _ 5 ?hg (N := 34) ?hd (xs := ([(a0_3) % 256] : List Int)) (inner := [.int .u8 ((a0_3) % 256)]) (ok := fun _ => True) (okp := fun _ => True) ?hr ?hp (fun _ hk => hk) trivial (Below.refl _ _) (Nat.le_refl _) (by simp) ?_; (case hd => rfl); (case hg => rfl); (case hr => first | (go_simp; done) | (go_simp; rfl)); (case hp => exact (Reps.one (show Kd.M (Kd.int .u8) _ _ _ ((a0_3) % 256) [.int .u8 ((a0_3) % 256)] from rfl) (Reps.none _ _)))
         intro v166 w39 ho40 hb hg_ hnew_
         clear hg_ hnew_
         (first | rw [← Ny165.out] at ho40 | (simp only [Int.reduceToNat] at ho40; rw [← Ny165.out] at ho40))
         have HO167 := am_ (Kd.R_lower ho40 (below_size (qB HB)))
         replace BK153 := am_ (blk_below (qK BK153) hb)
         replace BK154 := am_ (blk_below (qK BK154) hb)
         replace HB := am_ (below_step (qB HB) hb)
         clear hb ho40
         refine hK.out _ _ (cz8 BK154.out) (fun hHeld => ?_)
         clear hK K
         refine norm_ (a' := ?_) ?_ ?_
         rotate_left
         ·
          show Act.put _ (some 34) _ = _
          simp only [Act.put, List.setIfInBounds_toArray, List.set_cons_zero, List.set_cons_succ, i64_w, i32_w]
          rfl
         refine one_ (i := 0) (N := some 27) #[true, true, true, false, true, true, true, true, false, true, true, false, false] rfl rfl (one_of HT_.out (by kernel_rfl)) (by decide) (fun K hK => ?_)
         refine Kd.R_lit_step (Kd.int .u8) _ 5 ?hg (N := 27) ?hd (xs := ([1] : List Int)) (inner := [.int .u8 1]) (ok := fun _ => True) (okp := fun _ => True) ?hr ?hp (fun _ hk => hk) trivial (Below.refl _ _) (Nat.le_refl _) (by simp) ?_; (case hd => rfl); (case hg => rfl); (case hr => first | (go_simp; done) | (go_simp; rfl)); (case hp => exact (Reps.one (show Kd.M (Kd.int .u8) _ _ _ 1 [.int .u8 1] from rfl) (Reps.none _ _)))
         intro v160 w41 ho42 hb hg_ hnew_
         clear hg_ hnew_
         (first | rw [← Ny159.out] at ho42 | (simp only [Int.reduceToNat] at ho42; rw [← Ny159.out] at ho42))
         have HO161 := am_ (Kd.R_lower (Kd.R_new' ho42 (Kd.R_lt (qR HO167))) (below_size (qB HB)))
         replace HO167 := am_ (Kd.R_elder' (qR HO167) (Kd.R_base ho42) hb)
         replace BK153 := am_ (blk_below (qK BK153) hb)
         replace BK154 := am_ (blk_below (qK BK154) hb)
         replace HB := am_ (below_step (qB HB) hb)
         clear hb ho42
         obtain ⟨Ao43, co43, eo43⟩ := Kd.R_slice HO161.out
         (first | subst eo43 | (injection eo43 with f1_ f2_ f3_; have f4_ := f1_.symm; have f5_ := f3_.symm; clear f1_ f2_ f3_; subst f4_; subst f5_))
         refine hK.out _ _ (cz8 BK154.out) (fun hHeld => ?_)
         clear hK K
         refine norm_ (a' := ?_) ?_ ?_
         rotate_left
         ·
          show Act.put _ (some 27) _ = _
          simp only [Act.put, List.setIfInBounds_toArray, List.set_cons_zero, List.set_cons_succ, i64_w, i32_w]
          rfl
         refine one_ (i := 3) (N := some 30) #[true, true, true, true, true, true, true, true, false, true, true, false, false] rfl rfl (one_of HT_.out (by kernel_rfl)) (by decide) (fun K hK => ?_)
         refine goes_ Try.func75 (by kernel_rfl) rfl #[.slice Ao43 y159.length co43, .int .i64 a0_1] (by rfl) rfl rfl (by (try simp only [List.map_toArray, List.map_cons, List.map_nil]); first | done | rfl | (simp only [List.length_drop, List.length_take]; rfl)) ?_
         with_reducible refine (spec_PutWord.calls _ _ y159 a0_1 t162 _ ?side1 ?side2 A29.out).mono ?_
         (case side1 => exact qC ((Kd.R_reads' HO161.out).2.2))
         (case side2 => exact (Kd.R_reads' HO161.out).2.1)
         rintro e w44 ⟨v163, rfl, ho0, hb⟩
         refine ⟨_, rfl, ?_⟩
         have HO164 := am_ (Kd.R_lower (Kd.R_new' (Kd.R_new' ho0 (Kd.R_lt (qR HO167))) (Kd.R_lt (qR HO161))) (below_size (qB HB)))
         replace HO167 := am_ (Kd.R_elder' (qR HO167) (Kd.R_base ho0) hb)
         replace HO161 := am_ (Kd.R_elder' (qR HO161) (Kd.R_base ho0) hb)
         replace BK153 := am_ (blk_below (qK BK153) hb)
         replace BK154 := am_ (blk_below (qK BK154) hb)
         replace HB := am_ (below_step (qB HB) hb)
         (try clear hb ho0)
         refine hK.out _ _ (cz8 BK154.out) (fun hHeld => ?_)
         clear hK K
         refine norm_ (a' := ?_) ?_ ?_
         rotate_left
         ·
          show Act.put _ (some 30) _ = _
          simp only [Act.put, List.setIfInBounds_toArray, List.set_cons_zero, List.set_cons_succ, i64_w, i32_w]
          rfl
         exact norm_ (by simp only [putAll, Act.put, List.setIfInBounds_toArray, List.set_cons_zero, List.set_cons_succ]) (hCont (.slice Ao43 y159.length co43, v163, v166) _ ⟨hHeld, (tR (Kd.R_mono HO161.out (fun _ hk => ⟨hk.2, hk.1.2⟩))), (tR (Kd.R_mono HO164.out (fun _ hk => ⟨hk.2, hk.1.2⟩))), (tR (Kd.R_mono HO167.out (fun _ hk => ⟨hk.1.2, hk.2⟩))), (qK BK153), (qK BK154), (qB HB)⟩)
       rintro ⟨v160, v163, v166⟩ w45 ⟨hS_, h0_, h1_, h2_, h3_, h4_, h5_⟩
       have n0_ : Aside0 (Kd.R (Kd.int .u8) 5 w45 w.heap.size (fun k_ => some k_ ≠ (v163 : Value).ownBlock ∧ some k_ ≠ (v166 : Value).ownBlock) v160 y159) := ⟨h0_⟩
       have n1_ : Aside0 (Kd.R (Kd.int .u8) 5 w45 w.heap.size (fun k_ => some k_ ≠ (v160 : Value).ownBlock ∧ some k_ ≠ (v166 : Value).ownBlock) v163 t162) := ⟨h1_⟩
       have n2_ : Aside0 (Kd.R (Kd.int .u8) 5 w45 w.heap.size (fun k_ => some k_ ≠ (v160 : Value).ownBlock ∧ some k_ ≠ (v163 : Value).ownBlock) v166 y165) := ⟨h2_⟩
       have n3_ : Aside0 (w45.heap[gb153]? = some (.cells #[.int .i64 a0_0, .int .i64 a0_1, .string a0_2, .int .i64 a0_3, .int .i64 a0_4, .int .i64 a0_5, .string a0_6, .int .i64 a0_7, .int .i64 a0_8, .int .i64 a0_9, .string a0_10, .int .i64 a0_11, .int .i64 a0_12, .int .i64 a0_13, .int .i64 a0_14, .int .i64 a0_15] 48 (0, 0))) := ⟨h3_⟩
       have n4_ : Aside0 (w45.heap[gb154]? = some (.cells #[.int .i64 a0_1, .string a0_2, .int .i64 a0_3, .int .i64 a0_4, .int .i64 a0_5, .string a0_6, .int .i64 a0_7, .int .i64 a0_8] 45 (0, 0))) := ⟨h4_⟩
       have n5_ : Aside0 (Below w.heap.size w w45) := ⟨h5_⟩
       clear BK153
       clear BK154
       clear HB
       clear h0_ h1_ h2_ h3_ h4_ h5_
       have HO161 := n0_
       have HO164 := n1_
       have HO167 := n2_
       have BK153 := n3_
       have BK154 := n4_
       have HB := n5_
       clear n0_ n1_ n2_ n3_ n4_ n5_
       have hHeld : w45.cell? ⟨gb154, 0, none⟩ = some (.int .i64 a0_1) ∧ w45.cell? ⟨gb154, 1, none⟩ = some (.string a0_2) ∧ w45.cell? ⟨gb154, 2, none⟩ = some (.int .i64 a0_3) ∧ w45.cell? ⟨gb154, 3, none⟩ = some (.int .i64 a0_4) ∧ w45.cell? ⟨gb154, 4, none⟩ = some (.int .i64 a0_5) ∧ w45.cell? ⟨gb154, 5, none⟩ = some (.string a0_6) ∧ w45.cell? ⟨gb154, 6, none⟩ = some (.int .i64 a0_7) ∧ w45.cell? ⟨gb154, 7, none⟩ = some (.int .i64 a0_8) := hS_
       obtain ⟨Ao47, co47, eo47⟩ := Kd.R_slice HO167.out
       (first | subst eo47 | (injection eo47 with f1_ f2_ f3_; have f4_ := f1_.symm; have f5_ := f3_.symm; clear f1_ f2_ f3_; subst f4_; subst f5_))
       refine norm_ (a' := ?_) ?_ ?_
       rotate_left
       ·
        simp only [putAll, Act.put, List.setIfInBounds_toArray, List.set_cons_zero, List.set_cons_succ]
        rfl
       refine one_ (i := 8) (N := some 35) #[true, true, true, true, true, true, true, true, true, true, true, false, false] rfl rfl (one_of HT_.out (by kernel_rfl)) (by decide) (fun K hK => ?_)
       refine Kd.R_append_rows_step (Kd.int .u8) (w0 := w) w.heap.size (by rfl) (.tmp 30) (.tmp 34) 22 5 (.int .u8 0) 1 rfl Try.underlying22 info5 rfl (by decide) (by omega) v163 t162 y165 _ _ _ (fun k_ => some k_ ≠ (v160 : Value).ownBlock ∧ some k_ ≠ (.slice Ao47 y165.length co47 : Value).ownBlock) (fun _ => False) rfl rfl ?aO ?aR (fun _ _ h => h) (fun _ h => h.elim) ?aF ?aB ?aS ?aL ?_
       (case aR => exact qC ((Kd.R_reads' HO167.out).2.2))
       (case aB => exact (qB HB))
       (case aF => exact (fun k_ hk => ⟨Kd.fresh' (Kd.R_lt (qR HO161)) k_ hk, Kd.fresh' (Kd.R_lt (qR HO167)) k_ hk⟩))
       (case aO => exact (qR HO164))
       (case aS => exact (below_size (qB HB)))
       (case aL => have := LMc30.out; omega)
       intro v169 w46 ho hb hg hat
       rw [← Ny168.out] at ho
       replace BK153 := am_ (blk_grown (qK BK153) hg (Kd.R_ne HO164.out BK153.out (by decide)))
       replace BK154 := am_ (blk_grown (qK BK154) hg (Kd.R_ne HO164.out BK154.out (by decide)))
       replace HO161 := am_ (Kd.R_after (ok := (fun k_ => some k_ ≠ (.slice Ao47 y165.length co47 : Value).ownBlock)) (tR (Kd.R_mono HO161.out (fun _ hk => ⟨hk.2, hk.1⟩))) hg hat)
       replace HO167 := am_ (Kd.R_after (ok := (fun k_ => some k_ ≠ (v160 : Value).ownBlock)) (qR HO167) hg hat)
       replace HB := am_ (hb)
       have HO170 := am_ (ho)
       clear HO164
       clear ho hb hg hat
       obtain ⟨Ao48, co48, eo48⟩ := Kd.R_slice HO170.out
       (first | subst eo48 | (injection eo48 with f1_ f2_ f3_; have f4_ := f1_.symm; have f5_ := f3_.symm; clear f1_ f2_ f3_; subst f4_; subst f5_))
       refine hK.out _ _ (cz8 BK154.out) (fun hHeld => ?_)
       clear hK K
       refine norm_ (a' := ?_) ?_ ?_
       rotate_left
       ·
        show Act.put _ (some 35) _ = _
        simp only [Act.put, List.setIfInBounds_toArray, List.set_cons_zero, List.set_cons_succ, i64_w, i32_w]
        rfl
       refine one_ (i := 11) (N := some 38) #[true, true, true, true, true, true, true, true, true, true, true, true, false] rfl rfl (one_of HT_.out (by kernel_rfl)) (by decide) (fun K hK => ?_)
       refine goes_ Try.func74 (by kernel_rfl) rfl #[.slice Ao48 y168.length co48, .string a0_2] (by rfl) rfl rfl (by (try simp only [List.map_toArray, List.map_cons, List.map_nil]); first | done | rfl | (simp only [List.length_drop, List.length_take]; rfl)) ?_
       with_reducible refine (spec_PutText.calls kj5 _ _ y168 a0_2 t171 _ ?side1 ?side2 A31.out).mono ?_
       (case side1 => exact qC ((Kd.R_reads' HO170.out).2.2))
       (case side2 => exact (Kd.R_reads' HO170.out).2.1)
       rintro e w49 ⟨v172, rfl, ho0, hb⟩
       refine ⟨_, rfl, ?_⟩
       have HO173 := am_ (Kd.R_lower (Kd.R_new' (Kd.R_new' (Kd.R_new' ho0 (Kd.R_lt (qR HO161))) (Kd.R_lt (qR HO167))) (Kd.R_lt (qR HO170))) (below_size (qB HB)))
       replace HO161 := am_ (Kd.R_elder' (qR HO161) (Kd.R_base ho0) hb)
       replace HO167 := am_ (Kd.R_elder' (qR HO167) (Kd.R_base ho0) hb)
       replace HO170 := am_ (Kd.R_elder' (qR HO170) (Kd.R_base ho0) hb)
       replace BK153 := am_ (blk_below (qK BK153) hb)
       replace BK154 := am_ (blk_below (qK BK154) hb)
       replace HB := am_ (below_step (qB HB) hb)
       (try clear hb ho0)
       refine hK.out _ _ (cz8 BK154.out) (fun hHeld => ?_)
       clear hK K
       refine norm_ (a' := ?_) ?_ ?_
       rotate_left
       ·
        show Act.put _ (some 38) _ = _
        simp only [Act.put, List.setIfInBounds_toArray, List.set_cons_zero, List.set_cons_succ, i64_w, i32_w]
        rfl
       refine pure_ (i := 12) (N := some 4) (v := ?_) (a' := ?_) #[true, true, true, true, true, true, true, true, true, true, true, true, true] rfl rfl (any_of HT_.out (by kernel_rfl)) (fun _ _ _ h => h) (Or.inl ⟨by rfl, ?_⟩) ?_ ?_
       rotate_left
       ·
        intro w'
        go_simp
        with_reducible rfl
       rotate_left
       ·
        simp only [Act.put, List.setIfInBounds_toArray, List.set_cons_zero, List.set_cons_succ, i64_w, i32_w]
        rfl
       refine done_ (done_of HT_.out (by kernel_rfl)) ?_
       obtain ⟨Ao50, co50, eo50⟩ := Kd.R_slice HO173.out
       subst eo50
       try go_wp2
       replace HO161 := am_ (Kd.R_drew HO161.out)
       replace HO167 := am_ (Kd.R_drew HO167.out)
       replace HO170 := am_ (Kd.R_drew HO170.out)
       replace HO173 := am_ (Kd.R_drew HO173.out)
       replace BK153 := am_ (blk_drew BK153.out)
       replace BK154 := am_ (blk_drew BK154.out)
       replace HB := am_ (below_drew1 HB.out)
       refine start_ (n := 15) (S := fun w' => w'.cell? ⟨gb154, 0, none⟩ = some (.int .i64 a0_1) ∧ w'.cell? ⟨gb154, 1, none⟩ = some (.string a0_2) ∧ w'.cell? ⟨gb154, 2, none⟩ = some (.int .i64 a0_3) ∧ w'.cell? ⟨gb154, 3, none⟩ = some (.int .i64 a0_4) ∧ w'.cell? ⟨gb154, 4, none⟩ = some (.int .i64 a0_5) ∧ w'.cell? ⟨gb154, 5, none⟩ = some (.string a0_6) ∧ w'.cell? ⟨gb154, 6, none⟩ = some (.int .i64 a0_7) ∧ w'.cell? ⟨gb154, 7, none⟩ = some (.int .i64 a0_8)) (ds := []) #[false, false, false, false, false, false, false, false, false, false, false, false, false, false, false] (by kernel_rfl) rfl rfl (cz8 BK154.out) (fun hHeld => ?_); refine with_tabW spec_PutItem.tab6 spec_PutItem.bits6 (fun HT_ HW_ => ?_)
       generalize w49.drew = w51 at HO161 HO167 HO170 HO173 BK153 BK154 HB hHeld ⊢
       refine pure_ (i := 0) (N := some 39) (v := ?_) (a' := ?_) #[true, false, false, false, false, false, false, false, false, false, false, false, false, false, false] rfl rfl (any_of HT_.out (by kernel_rfl)) (fun _ _ _ h => h) (Or.inl ⟨by rfl, ?_⟩) ?_ ?_
       rotate_left
       ·
        intro w'
        go_simp
        with_reducible rfl
       rotate_left
       ·
        simp only [Act.put, List.setIfInBounds_toArray, List.set_cons_zero, List.set_cons_succ, i64_w, i32_w]
        rfl
       refine pure_ (i := 1) (N := some 40) (v := ?_) (a' := ?_) #[true, true, false, false, false, false, false, false, false, false, false, false, false, false, false] rfl rfl (any_of HT_.out (by kernel_rfl)) (fun _ _ _ h => h) (Or.inl ⟨by rfl, ?_⟩) ?_ ?_
       rotate_left
       ·
        intro w'
        go_simp
        with_reducible rfl
       rotate_left
       ·
        simp only [Act.put, List.setIfInBounds_toArray, List.set_cons_zero, List.set_cons_succ, i64_w, i32_w]
        rfl
       refine pure_ (i := 4) (N := some 43) (v := ?_) (a' := ?_) #[true, true, false, false, true, false, false, false, false, false, false, false, false, false, false] rfl rfl (any_of HT_.out (by kernel_rfl)) (fun _ _ _ h => h) (Or.inl ⟨by rfl, ?_⟩) ?_ ?_
       rotate_left
       ·
        intro w'
        go_simp
        with_reducible rfl
       rotate_left
       ·
        simp only [Act.put, List.setIfInBounds_toArray, List.set_cons_zero, List.set_cons_succ, i64_w, i32_w]
        rfl
       refine pure_ (i := 8) (N := some 47) (v := ?_) (a' := ?_) #[true, true, false, false, true, false, false, false, true, false, false, false, false, false, false] rfl rfl (any_of HT_.out (by kernel_rfl)) (fun _ _ _ h => h) (Or.inl ⟨by rfl, ?_⟩) ?_ ?_
       rotate_left
       ·
        intro w'
        go_simp
        with_reducible rfl
       rotate_left
       ·
        simp only [Act.put, List.setIfInBounds_toArray, List.set_cons_zero, List.set_cons_succ, i64_w, i32_w]
        rfl
       refine take_ (i := 2) (N := some 41) (v := ?_) (a' := ?_) #[true, true, true, false, true, false, false, false, true, false, false, false, false, false, false] rfl rfl (take_ofW HT_.out HW_.out (by kernel_rfl)) (fun _ _ _ h => h) (Or.inl ⟨by rfl, ?_⟩) hHeld ?_ ?_
       rotate_left
       ·
        rintro w' ⟨s0, s1, s2, s3, s4, s5, s6, s7⟩
        go_simp
        with_reducible rfl
       rotate_left
       ·
        simp only [Act.put, List.setIfInBounds_toArray, List.set_cons_zero, List.set_cons_succ, i64_w, i32_w]
        rfl
       refine take_ (i := 5) (N := some 44) (v := ?_) (a' := ?_) #[true, true, true, false, true, true, false, false, true, false, false, false, false, false, false] rfl rfl (take_ofW HT_.out HW_.out (by kernel_rfl)) (fun _ _ _ h => h) (Or.inl ⟨by rfl, ?_⟩) hHeld ?_ ?_
       rotate_left
       ·
        rintro w' ⟨s0, s1, s2, s3, s4, s5, s6, s7⟩
        go_simp
        with_reducible rfl
       rotate_left
       ·
        simp only [Act.put, List.setIfInBounds_toArray, List.set_cons_zero, List.set_cons_succ, i64_w, i32_w]
        rfl
       refine pure_ (i := 6) (N := some 45) (v := ?_) (a' := ?_) #[true, true, true, false, true, true, true, false, true, false, false, false, false, false, false] rfl rfl (any_of HT_.out (by kernel_rfl)) (fun _ _ _ h => h) (Or.inl ⟨by rfl, ?_⟩) ?_ ?_
       rotate_left
       ·
        intro w'
        go_simp
        with_reducible rfl
       rotate_left
       ·
        simp only [Act.put, List.setIfInBounds_toArray, List.set_cons_zero, List.set_cons_succ, i64_w, i32_w]
        rfl
       refine take_ (i := 9) (N := some 48) (v := ?_) (a' := ?_) #[true, true, true, false, true, true, true, false, true, true, false, false, false, false, false] rfl rfl (take_ofW HT_.out HW_.out (by kernel_rfl)) (fun _ _ _ h => h) (Or.inl ⟨by rfl, ?_⟩) hHeld ?_ ?_
       rotate_left
       ·
        rintro w' ⟨s0, s1, s2, s3, s4, s5, s6, s7⟩
        go_simp
        with_reducible rfl
       rotate_left
       ·
        simp only [Act.put, List.setIfInBounds_toArray, List.set_cons_zero, List.set_cons_succ, i64_w, i32_w]
        rfl
       refine pure_ (i := 10) (N := some 49) (v := ?_) (a' := ?_) #[true, true, true, false, true, true, true, false, true, true, true, false, false, false, false] rfl rfl (any_of HT_.out (by kernel_rfl)) (fun _ _ _ h => h) (Or.inl ⟨by rfl, ?_⟩) ?_ ?_
       rotate_left
       ·
        intro w'
        go_simp
        with_reducible rfl
       rotate_left
       ·
        simp only [Act.put, List.setIfInBounds_toArray, List.set_cons_zero, List.set_cons_succ, i64_w, i32_w]
        rfl
       refine pure_ (i := 11) (N := some 50) (v := ?_) (a' := ?_) #[true, true, true, false, true, true, true, false, true, true, true, true, false, false, false] rfl rfl (any_of HT_.out (by kernel_rfl)) (fun _ _ _ h => h) (Or.inl ⟨by rfl, ?_⟩) ?_ ?_
       rotate_left
       ·
        intro w'
        go_simp
        with_reducible rfl
       rotate_left
       ·
        simp only [Act.put, List.setIfInBounds_toArray, List.set_cons_zero, List.set_cons_succ, i64_w, i32_w]
        rfl
       refine join_ (σ := Value × Value × Value) 2 #[true, true, true, true, true, true, true, true, true, true, true, true, true, false, false] (fun s_ => [(42, s_.1), (46, s_.2.1), (51, s_.2.2)]) (fun s_ w' => (w'.cell? ⟨gb154, 0, none⟩ = some (.int .i64 a0_1) ∧ w'.cell? ⟨gb154, 1, none⟩ = some (.string a0_2) ∧ w'.cell? ⟨gb154, 2, none⟩ = some (.int .i64 a0_3) ∧ w'.cell? ⟨gb154, 3, none⟩ = some (.int .i64 a0_4) ∧ w'.cell? ⟨gb154, 4, none⟩ = some (.int .i64 a0_5) ∧ w'.cell? ⟨gb154, 5, none⟩ = some (.string a0_6) ∧ w'.cell? ⟨gb154, 6, none⟩ = some (.int .i64 a0_7) ∧ w'.cell? ⟨gb154, 7, none⟩ = some (.int .i64 a0_8)) ∧ (Kd.R (Kd.int .u8) 5 w' w.heap.size (fun k_ => some k_ ≠ (.slice Ao47 y165.length co47 : Value).ownBlock ∧ some k_ ≠ (.slice Ao48 y168.length co48 : Value).ownBlock ∧ some k_ ≠ (.slice Ao50 t171.length co50 : Value).ownBlock ∧ some k_ ≠ (s_.1 : Value).ownBlock ∧ some k_ ≠ (s_.2.1 : Value).ownBlock ∧ some k_ ≠ (s_.2.2 : Value).ownBlock) v160 y159) ∧ (Kd.R (Kd.int .u8) 5 w' w.heap.size (fun k_ => some k_ ≠ (v160 : Value).ownBlock ∧ some k_ ≠ (.slice Ao48 y168.length co48 : Value).ownBlock ∧ some k_ ≠ (.slice Ao50 t171.length co50 : Value).ownBlock ∧ some k_ ≠ (s_.1 : Value).ownBlock ∧ some k_ ≠ (s_.2.1 : Value).ownBlock ∧ some k_ ≠ (s_.2.2 : Value).ownBlock) (.slice Ao47 y165.length co47) y165) ∧ (Kd.R (Kd.int .u8) 5 w' w.heap.size (fun k_ => some k_ ≠ (v160 : Value).ownBlock ∧ some k_ ≠ (.slice Ao47 y165.length co47 : Value).ownBlock ∧ some k_ ≠ (.slice Ao50 t171.length co50 : Value).ownBlock ∧ some k_ ≠ (s_.1 : Value).ownBlock ∧ some k_ ≠ (s_.2.1 : Value).ownBlock ∧ some k_ ≠ (s_.2.2 : Value).ownBlock) (.slice Ao48 y168.length co48) y168) ∧ (Kd.R (Kd.int .u8) 5 w' w.heap.size (fun k_ => some k_ ≠ (v160 : Value).ownBlock ∧ some k_ ≠ (.slice Ao47 y165.length co47 : Value).ownBlock ∧ some k_ ≠ (.slice Ao48 y168.length co48 : Value).ownBlock ∧ some k_ ≠ (s_.1 : Value).ownBlock ∧ some k_ ≠ (s_.2.1 : Value).ownBlock ∧ some k_ ≠ (s_.2.2 : Value).ownBlock) (.slice Ao50 t171.length co50) t171) ∧ (Kd.R (Kd.int .u8) 5 w' w.heap.size (fun k_ => some k_ ≠ (v160 : Value).ownBlock ∧ some k_ ≠ (.slice Ao47 y165.length co47 : Value).ownBlock ∧ some k_ ≠ (.slice Ao48 y168.length co48 : Value).ownBlock ∧ some k_ ≠ (.slice Ao50 t171.length co50 : Value).ownBlock ∧ some k_ ≠ (s_.2.1 : Value).ownBlock ∧ some k_ ≠ (s_.2.2 : Value).ownBlock) s_.1 t174) ∧ (Kd.R (Kd.int .u8) 5 w' w.heap.size (fun k_ => some k_ ≠ (v160 : Value).ownBlock ∧ some k_ ≠ (.slice Ao47 y165.length co47 : Value).ownBlock ∧ some k_ ≠ (.slice Ao48 y168.length co48 : Value).ownBlock ∧ some k_ ≠ (.slice Ao50 t171.length co50 : Value).ownBlock ∧ some k_ ≠ (s_.1 : Value).ownBlock ∧ some k_ ≠ (s_.2.2 : Value).ownBlock) s_.2.1 t177) ∧ (Kd.R (Kd.int .u8) 5 w' w.heap.size (fun k_ => some k_ ≠ (v160 : Value).ownBlock ∧ some k_ ≠ (.slice Ao47 y165.length co47 : Value).ownBlock ∧ some k_ ≠ (.slice Ao48 y168.length co48 : Value).ownBlock ∧ some k_ ≠ (.slice Ao50 t171.length co50 : Value).ownBlock ∧ some k_ ≠ (s_.1 : Value).ownBlock ∧ some k_ ≠ (s_.2.1 : Value).ownBlock) s_.2.2 y180) ∧ (w'.heap[gb153]? = some (.cells #[.int .i64 a0_0, .int .i64 a0_1, .string a0_2, .int .i64 a0_3, .int .i64 a0_4, .int .i64 a0_5, .string a0_6, .int .i64 a0_7, .int .i64 a0_8, .int .i64 a0_9, .string a0_10, .int .i64 a0_11, .int .i64 a0_12, .int .i64 a0_13, .int .i64 a0_14, .int .i64 a0_15] 48 (0, 0))) ∧ (w'.heap[gb154]? = some (.cells #[.int .i64 a0_1, .string a0_2, .int .i64 a0_3, .int .i64 a0_4, .int .i64 a0_5, .string a0_6, .int .i64 a0_7, .int .i64 a0_8] 45 (0, 0))) ∧ (Below w.heap.size w w')) ?_ ?_
       rotate_left
       ·
        intro hCont
        refine two_ (i := 3) (j := 12) (Ni := some 42) (Nj := some 51) #[true, true, true, true, true, true, true, false, true, true, true, true, false, false, false] #[true, true, true, false, true, true, true, false, true, true, true, true, true, false, false] rfl rfl rfl rfl (two_of HT_.out (by kernel_rfl)) (by decide) (by decide) (fun K hK => ?_) (fun K hK => ?_)
        ·
         skip
         refine goes_ Try.func75 (by kernel_rfl) rfl #[.slice Ao50 t171.length co50, .int .i64 a0_4] (by rfl) rfl rfl (by (try simp only [List.map_toArray, List.map_cons, List.map_nil]); first | done | rfl | (simp only [List.length_drop, List.length_take]; rfl)) ?_
         with_reducible refine (spec_PutWord.calls _ _ t171 a0_4 t174 _ ?side1 ?side2 A32.out).mono ?_
         (case side1 => exact qC ((Kd.R_reads' HO173.out).2.2))
         (case side2 => exact (Kd.R_reads' HO173.out).2.1)
         rintro e w52 ⟨v175, rfl, ho0, hb⟩
         refine ⟨_, rfl, ?_⟩
         have HO176 := am_ (Kd.R_lower (Kd.R_new' (Kd.R_new' (Kd.R_new' (Kd.R_new' ho0 (Kd.R_lt (qR HO161))) (Kd.R_lt (qR HO167))) (Kd.R_lt (qR HO170))) (Kd.R_lt (qR HO173))) (below_size (qB HB)))
         replace HO161 := am_ (Kd.R_elder' (qR HO161) (Kd.R_base ho0) hb)
         replace HO167 := am_ (Kd.R_elder' (qR HO167) (Kd.R_base ho0) hb)
         replace HO170 := am_ (Kd.R_elder' (qR HO170) (Kd.R_base ho0) hb)
         replace HO173 := am_ (Kd.R_elder' (qR HO173) (Kd.R_base ho0) hb)
         replace BK153 := am_ (blk_below (qK BK153) hb)
         replace BK154 := am_ (blk_below (qK BK154) hb)
         replace HB := am_ (below_step (qB HB) hb)
         (try clear hb ho0)
         obtain ⟨Ao53, co53, eo53⟩ := Kd.R_slice HO176.out
         (first | subst eo53 | (injection eo53 with f1_ f2_ f3_; have f4_ := f1_.symm; have f5_ := f3_.symm; clear f1_ f2_ f3_; subst f4_; subst f5_))
         refine hK.out _ _ (cz8 BK154.out) (fun hHeld => ?_)
         clear hK K
         refine norm_ (a' := ?_) ?_ ?_
         rotate_left
         ·
          show Act.put _ (some 42) _ = _
          simp only [Act.put, List.setIfInBounds_toArray, List.set_cons_zero, List.set_cons_succ, i64_w, i32_w]
          rfl
         refine two_ (i := 7) (j := 12) (Ni := some 46) (Nj := some 51) #[true, true, true, true, true, true, true, true, true, true, true, true, false, false, false] #[true, true, true, true, true, true, true, false, true, true, true, true, true, false, false] rfl rfl rfl rfl (two_of HT_.out (by kernel_rfl)) (by decide) (by decide) (fun K hK => ?_) (fun K hK => ?_)
         ·
          skip
          refine goes_ Try.func75 (by kernel_rfl) rfl #[.slice Ao53 t174.length co53, .int .i64 (wrap64 (Int.tdiv a0_5 256))] (by rfl) rfl rfl (by (try simp only [List.map_toArray, List.map_cons, List.map_nil]); first | done | rfl | (simp only [List.length_drop, List.length_take]; rfl)) ?_
          with_reducible refine (spec_PutWord.calls _ _ t174 (wrap64 (Int.tdiv a0_5 256)) t177 _ ?side1 ?side2 A33.out).mono ?_
          (case side1 => exact qC ((Kd.R_reads' HO176.out).2.2))
          (case side2 => exact (Kd.R_reads' HO176.out).2.1)
          rintro e w54 ⟨v178, rfl, ho0, hb⟩
          refine ⟨_, rfl, ?_⟩
          have HO179 := am_ (Kd.R_lower (Kd.R_new' (Kd.R_new' (Kd.R_new' (Kd.R_new' (Kd.R_new' ho0 (Kd.R_lt (qR HO161))) (Kd.R_lt (qR HO167))) (Kd.R_lt (qR HO170))) (Kd.R_lt (qR HO173))) (Kd.R_lt (qR HO176))) (below_size (qB HB)))
          replace HO161 := am_ (Kd.R_elder' (qR HO161) (Kd.R_base ho0) hb)
          replace HO167 := am_ (Kd.R_elder' (qR HO167) (Kd.R_base ho0) hb)
          replace HO170 := am_ (Kd.R_elder' (qR HO170) (Kd.R_base ho0) hb)
          replace HO173 := am_ (Kd.R_elder' (qR HO173) (Kd.R_base ho0) hb)
          replace HO176 := am_ (Kd.R_elder' (qR HO176) (Kd.R_base ho0) hb)
          replace BK153 := am_ (blk_below (qK BK153) hb)
          replace BK154 := am_ (blk_below (qK BK154) hb)
          replace HB := am_ (below_step (qB HB) hb)
          (try clear hb ho0)
          refine hK.out _ _ (cz8 BK154.out) (fun hHeld => ?_)
          clear hK K
          refine norm_ (a' := ?_) ?_ ?_
          rotate_left
          ·
           show Act.put _ (some 46) _ = _
           simp only [Act.put, List.setIfInBounds_toArray, List.set_cons_zero, List.set_cons_succ, i64_w, i32_w]
           rfl
          refine one_ (i := 12) (N := some 51) #[true, true, true, true, true, true, true, true, true, true, true, true, true, false, false] rfl rfl (one_of HT_.out (by kernel_rfl)) (by decide) (fun K hK => ?_)
          refine Kd.R_lit_step (Kd.int .u8) _ 5 ?hg (N := 51) ?hd (xs := ([(Int.tmod a0_5 256) % 256] : List Int)) (inner := [.int .u8 ((Int.tmod a0_5 256) % 256)]) (ok := fun _ => True) (okp := fun _ => True) ?hr ?hp (fun _ hk => hk) trivial (Below.refl _ _) (Nat.le_refl _) (by simp) ?_; (case hd => rfl); (case hg => rfl); (case hr => first | (go_simp; done) | (go_simp; rfl)); (case hp => exact (Reps.one (show Kd.M (Kd.int .u8) _ _ _ ((Int.tmod a0_5 256) % 256) [.int .u8 ((Int.tmod a0_5 256) % 256)] from rfl) (Reps.none _ _)))
          intro v181 w55 ho56 hb hg_ hnew_
          clear hg_ hnew_
          (first | rw [← Ny180.out] at ho56 | (simp only [Int.reduceToNat] at ho56; rw [← Ny180.out] at ho56))
          have HO182 := am_ (Kd.R_lower (Kd.R_new' (Kd.R_new' (Kd.R_new' (Kd.R_new' (Kd.R_new' (Kd.R_new' ho56 (Kd.R_lt (qR HO161))) (Kd.R_lt (qR HO167))) (Kd.R_lt (qR HO170))) (Kd.R_lt (qR HO173))) (Kd.R_lt (qR HO176))) (Kd.R_lt (qR HO179))) (below_size (qB HB)))
          replace HO161 := am_ (Kd.R_elder' (qR HO161) (Kd.R_base ho56) hb)
          replace HO167 := am_ (Kd.R_elder' (qR HO167) (Kd.R_base ho56) hb)
          replace HO170 := am_ (Kd.R_elder' (qR HO170) (Kd.R_base ho56) hb)
          replace HO173 := am_ (Kd.R_elder' (qR HO173) (Kd.R_base ho56) hb)
          replace HO176 := am_ (Kd.R_elder' (qR HO176) (Kd.R_base ho56) hb)
          replace HO179 := am_ (Kd.R_elder' (qR HO179) (Kd.R_base ho56) hb)
          replace BK153 := am_ (blk_below (qK BK153) hb)
          replace BK154 := am_ (blk_below (qK BK154) hb)
          replace HB := am_ (below_step (qB HB) hb)
          clear hb ho56
          refine hK.out _ _ (cz8 BK154.out) (fun hHeld => ?_)
          clear hK K
          refine norm_ (a' := ?_) ?_ ?_
          rotate_left
          ·
           show Act.put _ (some 51) _ = _
           simp only [Act.put, List.setIfInBounds_toArray, List.set_cons_zero, List.set_cons_succ, i64_w, i32_w]
           rfl
          exact norm_ (by simp only [putAll, Act.put, List.setIfInBounds_toArray, List.set_cons_zero, List.set_cons_succ]) (hCont (.slice Ao53 t174.length co53, v178, v181) _ ⟨hHeld, (tR (Kd.R_mono HO161.out (fun _ hk => ⟨hk.1.1.1.1.1, ⟨hk.1.1.1.1.2, ⟨hk.1.1.1.2, ⟨hk.1.1.2, ⟨hk.1.2, hk.2⟩⟩⟩⟩⟩))), (tR (Kd.R_mono HO167.out (fun _ hk => ⟨hk.1.1.1.1.1, ⟨hk.1.1.1.1.2, ⟨hk.1.1.1.2, ⟨hk.1.1.2, ⟨hk.1.2, hk.2⟩⟩⟩⟩⟩))), (tR (Kd.R_mono HO170.out (fun _ hk => ⟨hk.1.1.1.1.1, ⟨hk.1.1.1.1.2, ⟨hk.1.1.1.2, ⟨hk.1.1.2, ⟨hk.1.2, hk.2⟩⟩⟩⟩⟩))), (tR (Kd.R_mono HO173.out (fun _ hk => ⟨hk.1.1.1.1.1.2, ⟨hk.1.1.1.1.2, ⟨hk.1.1.1.2, ⟨hk.1.1.2, ⟨hk.1.2, hk.2⟩⟩⟩⟩⟩))), (tR (Kd.R_mono HO176.out (fun _ hk => ⟨hk.1.1.1.1.1.2, ⟨hk.1.1.1.1.2, ⟨hk.1.1.1.2, ⟨hk.1.1.2, ⟨hk.1.2, hk.2⟩⟩⟩⟩⟩))), (tR (Kd.R_mono HO179.out (fun _ hk => ⟨hk.1.1.1.1.1.2, ⟨hk.1.1.1.1.2, ⟨hk.1.1.1.2, ⟨hk.1.1.2, ⟨hk.1.2, hk.2⟩⟩⟩⟩⟩))), (tR (Kd.R_mono HO182.out (fun _ hk => ⟨hk.1.1.1.1.1.2, ⟨hk.1.1.1.1.2, ⟨hk.1.1.1.2, ⟨hk.1.1.2, ⟨hk.1.2, hk.2⟩⟩⟩⟩⟩))), (qK BK153), (qK BK154), (qB HB)⟩)
         ·
          skip
          refine Kd.R_lit_step (Kd.int .u8) _ 5 ?hg (N := 51) ?hd (xs := ([(Int.tmod a0_5 256) % 256] : List Int)) (inner := [.int .u8 ((Int.tmod a0_5 256) % 256)]) (ok := fun _ => True) (okp := fun _ => True) ?hr ?hp (fun _ hk => hk) trivial (Below.refl _ _) (Nat.le_refl _) (by simp) ?_; (case hd => rfl); (case hg => rfl); (case hr => first | (go_simp; done) | (go_simp; rfl)); (case hp => exact (Reps.one (show Kd.M (Kd.int .u8) _ _ _ ((Int.tmod a0_5 256) % 256) [.int .u8 ((Int.tmod a0_5 256) % 256)] from rfl) (Reps.none _ _)))
          intro v181 w53 ho54 hb hg_ hnew_
          clear hg_ hnew_
          (first | rw [← Ny180.out] at ho54 | (simp only [Int.reduceToNat] at ho54; rw [← Ny180.out] at ho54))
          have HO182 := am_ (Kd.R_lower (Kd.R_new' (Kd.R_new' (Kd.R_new' (Kd.R_new' (Kd.R_new' ho54 (Kd.R_lt (qR HO161))) (Kd.R_lt (qR HO167))) (Kd.R_lt (qR HO170))) (Kd.R_lt (qR HO173))) (Kd.R_lt (qR HO176))) (below_size (qB HB)))
          replace HO161 := am_ (Kd.R_elder' (qR HO161) (Kd.R_base ho54) hb)
          replace HO167 := am_ (Kd.R_elder' (qR HO167) (Kd.R_base ho54) hb)
          replace HO170 := am_ (Kd.R_elder' (qR HO170) (Kd.R_base ho54) hb)
          replace HO173 := am_ (Kd.R_elder' (qR HO173) (Kd.R_base ho54) hb)
          replace HO176 := am_ (Kd.R_elder' (qR HO176) (Kd.R_base ho54) hb)
          replace BK153 := am_ (blk_below (qK BK153) hb)
          replace BK154 := am_ (blk_below (qK BK154) hb)
          replace HB := am_ (below_step (qB HB) hb)
          clear hb ho54
          obtain ⟨Ao55, co55, eo55⟩ := Kd.R_slice HO176.out
          (first | subst eo55 | (injection eo55 with f1_ f2_ f3_; have f4_ := f1_.symm; have f5_ := f3_.symm; clear f1_ f2_ f3_; subst f4_; subst f5_))
          refine hK.out _ _ (cz8 BK154.out) (fun hHeld => ?_)
          clear hK K
          refine norm_ (a' := ?_) ?_ ?_
          rotate_left
          ·
           show Act.put _ (some 51) _ = _
           simp only [Act.put, List.setIfInBounds_toArray, List.set_cons_zero, List.set_cons_succ, i64_w, i32_w]
           rfl
          refine one_ (i := 7) (N := some 46) #[true, true, true, true, true, true, true, true, true, true, true, true, true, false, false] rfl rfl (one_of HT_.out (by kernel_rfl)) (by decide) (fun K hK => ?_)
          refine goes_ Try.func75 (by kernel_rfl) rfl #[.slice Ao55 t174.length co55, .int .i64 (wrap64 (Int.tdiv a0_5 256))] (by rfl) rfl rfl (by (try simp only [List.map_toArray, List.map_cons, List.map_nil]); first | done | rfl | (simp only [List.length_drop, List.length_take]; rfl)) ?_
          with_reducible refine (spec_PutWord.calls _ _ t174 (wrap64 (Int.tdiv a0_5 256)) t177 _ ?side1 ?side2 A33.out).mono ?_
          (case side1 => exact qC ((Kd.R_reads' HO176.out).2.2))
          (case side2 => exact (Kd.R_reads' HO176.out).2.1)
          rintro e w56 ⟨v178, rfl, ho0, hb⟩
          refine ⟨_, rfl, ?_⟩
          have HO179 := am_ (Kd.R_lower (Kd.R_new' (Kd.R_new' (Kd.R_new' (Kd.R_new' (Kd.R_new' (Kd.R_new' ho0 (Kd.R_lt (qR HO161))) (Kd.R_lt (qR HO167))) (Kd.R_lt (qR HO170))) (Kd.R_lt (qR HO173))) (Kd.R_lt (qR HO176))) (Kd.R_lt (qR HO182))) (below_size (qB HB)))
          replace HO161 := am_ (Kd.R_elder' (qR HO161) (Kd.R_base ho0) hb)
          replace HO167 := am_ (Kd.R_elder' (qR HO167) (Kd.R_base ho0) hb)
          replace HO170 := am_ (Kd.R_elder' (qR HO170) (Kd.R_base ho0) hb)
          replace HO173 := am_ (Kd.R_elder' (qR HO173) (Kd.R_base ho0) hb)
          replace HO176 := am_ (Kd.R_elder' (qR HO176) (Kd.R_base ho0) hb)
          replace HO182 := am_ (Kd.R_elder' (qR HO182) (Kd.R_base ho0) hb)
          replace BK153 := am_ (blk_below (qK BK153) hb)
          replace BK154 := am_ (blk_below (qK BK154) hb)
          replace HB := am_ (below_step (qB HB) hb)
          (try clear hb ho0)
          refine hK.out _ _ (cz8 BK154.out) (fun hHeld => ?_)
          clear hK K
          refine norm_ (a' := ?_) ?_ ?_
          rotate_left
          ·
           show Act.put _ (some 46) _ = _
           simp only [Act.put, List.setIfInBounds_toArray, List.set_cons_zero, List.set_cons_succ, i64_w, i32_w]
           rfl
          exact norm_ (by simp only [putAll, Act.put, List.setIfInBounds_toArray, List.set_cons_zero, List.set_cons_succ]) (hCont (.slice Ao55 t174.length co55, v178, v181) _ ⟨hHeld, (tR (Kd.R_mono HO161.out (fun _ hk => ⟨hk.1.1.1.1.1, ⟨hk.1.1.1.1.2, ⟨hk.1.1.1.2, ⟨hk.1.1.2, ⟨hk.2, hk.1.2⟩⟩⟩⟩⟩))), (tR (Kd.R_mono HO167.out (fun _ hk => ⟨hk.1.1.1.1.1, ⟨hk.1.1.1.1.2, ⟨hk.1.1.1.2, ⟨hk.1.1.2, ⟨hk.2, hk.1.2⟩⟩⟩⟩⟩))), (tR (Kd.R_mono HO170.out (fun _ hk => ⟨hk.1.1.1.1.1, ⟨hk.1.1.1.1.2, ⟨hk.1.1.1.2, ⟨hk.1.1.2, ⟨hk.2, hk.1.2⟩⟩⟩⟩⟩))), (tR (Kd.R_mono HO173.out (fun _ hk => ⟨hk.1.1.1.1.1.2, ⟨hk.1.1.1.1.2, ⟨hk.1.1.1.2, ⟨hk.1.1.2, ⟨hk.2, hk.1.2⟩⟩⟩⟩⟩))), (tR (Kd.R_mono HO176.out (fun _ hk => ⟨hk.1.1.1.1.1.2, ⟨hk.1.1.1.1.2, ⟨hk.1.1.1.2, ⟨hk.1.1.2, ⟨hk.2, hk.1.2⟩⟩⟩⟩⟩))), (tR (Kd.R_mono HO179.out (fun _ hk => ⟨hk.1.1.1.1.1.2, ⟨hk.1.1.1.1.2, ⟨hk.1.1.1.2, ⟨hk.1.1.2, ⟨hk.1.2, hk.2⟩⟩⟩⟩⟩))), (tR (Kd.R_mono HO182.out (fun _ hk => ⟨hk.1.1.1.1.1.2, ⟨hk.1.1.1.1.2, ⟨hk.1.1.1.2, ⟨hk.1.1.2, ⟨hk.1.2, hk.2⟩⟩⟩⟩⟩))), (qK BK153), (qK BK154), (qB HB)⟩)
        ·
         skip
         refine Kd.R_lit_step (Kd.int .u8) _ 5 ?hg (N := 51) ?hd (xs := ([(Int.tmod a0_5 256) % 256] : List Int)) (inner := [.int .u8 ((Int.tmod a0_5 256) % 256)]) (ok := fun _ => True) (okp := fun _ => True) ?hr ?hp (fun _ hk => hk) trivial (Below.refl _ _) (Nat.le_refl _) (by simp) ?_; (case hd => rfl); (case hg => rfl); (case hr => first | (go_simp; done) | (go_simp; rfl)); (case hp => exact (Reps.one (show Kd.M (Kd.int .u8) _ _ _ ((Int.tmod a0_5 256) % 256) [.int .u8 ((Int.tmod a0_5 256) % 256)] from rfl) (Reps.none _ _)))
         intro v181 w52 ho53 hb hg_ hnew_
         clear hg_ hnew_
         (first | rw [← Ny180.out] at ho53 | (simp only [Int.reduceToNat] at ho53; rw [← Ny180.out] at ho53))
         have HO182 := am_ (Kd.R_lower (Kd.R_new' (Kd.R_new' (Kd.R_new' (Kd.R_new' ho53 (Kd.R_lt (qR HO161))) (Kd.R_lt (qR HO167))) (Kd.R_lt (qR HO170))) (Kd.R_lt (qR HO173))) (below_size (qB HB)))
         replace HO161 := am_ (Kd.R_elder' (qR HO161) (Kd.R_base ho53) hb)
         replace HO167 := am_ (Kd.R_elder' (qR HO167) (Kd.R_base ho53) hb)
         replace HO170 := am_ (Kd.R_elder' (qR HO170) (Kd.R_base ho53) hb)
         replace HO173 := am_ (Kd.R_elder' (qR HO173) (Kd.R_base ho53) hb)
         replace BK153 := am_ (blk_below (qK BK153) hb)
         replace BK154 := am_ (blk_below (qK BK154) hb)
         replace HB := am_ (below_step (qB HB) hb)
         clear hb ho53
         refine hK.out _ _ (cz8 BK154.out) (fun hHeld => ?_)
         clear hK K
         refine norm_ (a' := ?_) ?_ ?_
         rotate_left
         ·
          show Act.put _ (some 51) _ = _
          simp only [Act.put, List.setIfInBounds_toArray, List.set_cons_zero, List.set_cons_succ, i64_w, i32_w]
          rfl
         refine one_ (i := 3) (N := some 42) #[true, true, true, true, true, true, true, false, true, true, true, true, true, false, false] rfl rfl (one_of HT_.out (by kernel_rfl)) (by decide) (fun K hK => ?_)
         refine goes_ Try.func75 (by kernel_rfl) rfl #[.slice Ao50 t171.length co50, .int .i64 a0_4] (by rfl) rfl rfl (by (try simp only [List.map_toArray, List.map_cons, List.map_nil]); first | done | rfl | (simp only [List.length_drop, List.length_take]; rfl)) ?_
         with_reducible refine (spec_PutWord.calls _ _ t171 a0_4 t174 _ ?side1 ?side2 A32.out).mono ?_
         (case side1 => exact qC ((Kd.R_reads' HO173.out).2.2))
         (case side2 => exact (Kd.R_reads' HO173.out).2.1)
         rintro e w54 ⟨v175, rfl, ho0, hb⟩
         refine ⟨_, rfl, ?_⟩
         have HO176 := am_ (Kd.R_lower (Kd.R_new' (Kd.R_new' (Kd.R_new' (Kd.R_new' (Kd.R_new' ho0 (Kd.R_lt (qR HO161))) (Kd.R_lt (qR HO167))) (Kd.R_lt (qR HO170))) (Kd.R_lt (qR HO173))) (Kd.R_lt (qR HO182))) (below_size (qB HB)))
         replace HO161 := am_ (Kd.R_elder' (qR HO161) (Kd.R_base ho0) hb)
         replace HO167 := am_ (Kd.R_elder' (qR HO167) (Kd.R_base ho0) hb)
         replace HO170 := am_ (Kd.R_elder' (qR HO170) (Kd.R_base ho0) hb)
         replace HO173 := am_ (Kd.R_elder' (qR HO173) (Kd.R_base ho0) hb)
         replace HO182 := am_ (Kd.R_elder' (qR HO182) (Kd.R_base ho0) hb)
         replace BK153 := am_ (blk_below (qK BK153) hb)
         replace BK154 := am_ (blk_below (qK BK154) hb)
         replace HB := am_ (below_step (qB HB) hb)
         (try clear hb ho0)
         obtain ⟨Ao55, co55, eo55⟩ := Kd.R_slice HO176.out
         (first | subst eo55 | (injection eo55 with f1_ f2_ f3_; have f4_ := f1_.symm; have f5_ := f3_.symm; clear f1_ f2_ f3_; subst f4_; subst f5_))
         refine hK.out _ _ (cz8 BK154.out) (fun hHeld => ?_)
         clear hK K
         refine norm_ (a' := ?_) ?_ ?_
         rotate_left
         ·
          show Act.put _ (some 42) _ = _
          simp only [Act.put, List.setIfInBounds_toArray, List.set_cons_zero, List.set_cons_succ, i64_w, i32_w]
          rfl
         refine one_ (i := 7) (N := some 46) #[true, true, true, true, true, true, true, true, true, true, true, true, true, false, false] rfl rfl (one_of HT_.out (by kernel_rfl)) (by decide) (fun K hK => ?_)
         refine goes_ Try.func75 (by kernel_rfl) rfl #[.slice Ao55 t174.length co55, .int .i64 (wrap64 (Int.tdiv a0_5 256))] (by rfl) rfl rfl (by (try simp only [List.map_toArray, List.map_cons, List.map_nil]); first | done | rfl | (simp only [List.length_drop, List.length_take]; rfl)) ?_
         with_reducible refine (spec_PutWord.calls _ _ t174 (wrap64 (Int.tdiv a0_5 256)) t177 _ ?side1 ?side2 A33.out).mono ?_
         (case side1 => exact qC ((Kd.R_reads' HO176.out).2.2))
         (case side2 => exact (Kd.R_reads' HO176.out).2.1)
         rintro e w56 ⟨v178, rfl, ho0, hb⟩
         refine ⟨_, rfl, ?_⟩
         have HO179 := am_ (Kd.R_lower (Kd.R_new' (Kd.R_new' (Kd.R_new' (Kd.R_new' (Kd.R_new' (Kd.R_new' ho0 (Kd.R_lt (qR HO161))) (Kd.R_lt (qR HO167))) (Kd.R_lt (qR HO170))) (Kd.R_lt (qR HO173))) (Kd.R_lt (qR HO182))) (Kd.R_lt (qR HO176))) (below_size (qB HB)))
         replace HO161 := am_ (Kd.R_elder' (qR HO161) (Kd.R_base ho0) hb)
         replace HO167 := am_ (Kd.R_elder' (qR HO167) (Kd.R_base ho0) hb)
         replace HO170 := am_ (Kd.R_elder' (qR HO170) (Kd.R_base ho0) hb)
         replace HO173 := am_ (Kd.R_elder' (qR HO173) (Kd.R_base ho0) hb)
         replace HO182 := am_ (Kd.R_elder' (qR HO182) (Kd.R_base ho0) hb)
         replace HO176 := am_ (Kd.R_elder' (qR HO176) (Kd.R_base ho0) hb)
         replace BK153 := am_ (blk_below (qK BK153) hb)
         replace BK154 := am_ (blk_below (qK BK154) hb)
         replace HB := am_ (below_step (qB HB) hb)
         (try clear hb ho0)
         refine hK.out _ _ (cz8 BK154.out) (fun hHeld => ?_)
         clear hK K
         refine norm_ (a' := ?_) ?_ ?_
         rotate_left
         ·
          show Act.put _ (some 46) _ = _
          simp only [Act.put, List.setIfInBounds_toArray, List.set_cons_zero, List.set_cons_succ, i64_w, i32_w]
          rfl
         exact norm_ (by simp only [putAll, Act.put, List.setIfInBounds_toArray, List.set_cons_zero, List.set_cons_succ]) (hCont (.slice Ao55 t174.length co55, v178, v181) _ ⟨hHeld, (tR (Kd.R_mono HO161.out (fun _ hk => ⟨hk.1.1.1.1.1, ⟨hk.1.1.1.1.2, ⟨hk.1.1.1.2, ⟨hk.1.2, ⟨hk.2, hk.1.1.2⟩⟩⟩⟩⟩))), (tR (Kd.R_mono HO167.out (fun _ hk => ⟨hk.1.1.1.1.1, ⟨hk.1.1.1.1.2, ⟨hk.1.1.1.2, ⟨hk.1.2, ⟨hk.2, hk.1.1.2⟩⟩⟩⟩⟩))), (tR (Kd.R_mono HO170.out (fun _ hk => ⟨hk.1.1.1.1.1, ⟨hk.1.1.1.1.2, ⟨hk.1.1.1.2, ⟨hk.1.2, ⟨hk.2, hk.1.1.2⟩⟩⟩⟩⟩))), (tR (Kd.R_mono HO173.out (fun _ hk => ⟨hk.1.1.1.1.1.2, ⟨hk.1.1.1.1.2, ⟨hk.1.1.1.2, ⟨hk.1.2, ⟨hk.2, hk.1.1.2⟩⟩⟩⟩⟩))), (tR (Kd.R_mono HO176.out (fun _ hk => ⟨hk.1.1.1.1.1.2, ⟨hk.1.1.1.1.2, ⟨hk.1.1.1.2, ⟨hk.1.1.2, ⟨hk.2, hk.1.2⟩⟩⟩⟩⟩))), (tR (Kd.R_mono HO179.out (fun _ hk => ⟨hk.1.1.1.1.1.2, ⟨hk.1.1.1.1.2, ⟨hk.1.1.1.2, ⟨hk.1.1.2, ⟨hk.2, hk.1.2⟩⟩⟩⟩⟩))), (tR (Kd.R_mono HO182.out (fun _ hk => ⟨hk.1.1.1.1.1.2, ⟨hk.1.1.1.1.2, ⟨hk.1.1.1.2, ⟨hk.1.1.2, ⟨hk.1.2, hk.2⟩⟩⟩⟩⟩))), (qK BK153), (qK BK154), (qB HB)⟩)
       rintro ⟨v175, v178, v181⟩ w57 ⟨hS_, h0_, h1_, h2_, h3_, h4_, h5_, h6_, h7_, h8_, h9_⟩
       have n0_ : Aside0 (Kd.R (Kd.int .u8) 5 w57 w.heap.size (fun k_ => some k_ ≠ (.slice Ao47 y165.length co47 : Value).ownBlock ∧ some k_ ≠ (.slice Ao48 y168.length co48 : Value).ownBlock ∧ some k_ ≠ (.slice Ao50 t171.length co50 : Value).ownBlock ∧ some k_ ≠ (v175 : Value).ownBlock ∧ some k_ ≠ (v178 : Value).ownBlock ∧ some k_ ≠ (v181 : Value).ownBlock) v160 y159) := ⟨h0_⟩
       have n1_ : Aside0 (Kd.R (Kd.int .u8) 5 w57 w.heap.size (fun k_ => some k_ ≠ (v160 : Value).ownBlock ∧ some k_ ≠ (.slice Ao48 y168.length co48 : Value).ownBlock ∧ some k_ ≠ (.slice Ao50 t171.length co50 : Value).ownBlock ∧ some k_ ≠ (v175 : Value).ownBlock ∧ some k_ ≠ (v178 : Value).ownBlock ∧ some k_ ≠ (v181 : Value).ownBlock) (.slice Ao47 y165.length co47) y165) := ⟨h1_⟩
       have n2_ : Aside0 (Kd.R (Kd.int .u8) 5 w57 w.heap.size (fun k_ => some k_ ≠ (v160 : Value).ownBlock ∧ some k_ ≠ (.slice Ao47 y165.length co47 : Value).ownBlock ∧ some k_ ≠ (.slice Ao50 t171.length co50 : Value).ownBlock ∧ some k_ ≠ (v175 : Value).ownBlock ∧ some k_ ≠ (v178 : Value).ownBlock ∧ some k_ ≠ (v181 : Value).ownBlock) (.slice Ao48 y168.length co48) y168) := ⟨h2_⟩
       have n3_ : Aside0 (Kd.R (Kd.int .u8) 5 w57 w.heap.size (fun k_ => some k_ ≠ (v160 : Value).ownBlock ∧ some k_ ≠ (.slice Ao47 y165.length co47 : Value).ownBlock ∧ some k_ ≠ (.slice Ao48 y168.length co48 : Value).ownBlock ∧ some k_ ≠ (v175 : Value).ownBlock ∧ some k_ ≠ (v178 : Value).ownBlock ∧ some k_ ≠ (v181 : Value).ownBlock) (.slice Ao50 t171.length co50) t171) := ⟨h3_⟩
       have n4_ : Aside0 (Kd.R (Kd.int .u8) 5 w57 w.heap.size (fun k_ => some k_ ≠ (v160 : Value).ownBlock ∧ some k_ ≠ (.slice Ao47 y165.length co47 : Value).ownBlock ∧ some k_ ≠ (.slice Ao48 y168.length co48 : Value).ownBlock ∧ some k_ ≠ (.slice Ao50 t171.length co50 : Value).ownBlock ∧ some k_ ≠ (v178 : Value).ownBlock ∧ some k_ ≠ (v181 : Value).ownBlock) v175 t174) := ⟨h4_⟩
       have n5_ : Aside0 (Kd.R (Kd.int .u8) 5 w57 w.heap.size (fun k_ => some k_ ≠ (v160 : Value).ownBlock ∧ some k_ ≠ (.slice Ao47 y165.length co47 : Value).ownBlock ∧ some k_ ≠ (.slice Ao48 y168.length co48 : Value).ownBlock ∧ some k_ ≠ (.slice Ao50 t171.length co50 : Value).ownBlock ∧ some k_ ≠ (v175 : Value).ownBlock ∧ some k_ ≠ (v181 : Value).ownBlock) v178 t177) := ⟨h5_⟩
       have n6_ : Aside0 (Kd.R (Kd.int .u8) 5 w57 w.heap.size (fun k_ => some k_ ≠ (v160 : Value).ownBlock ∧ some k_ ≠ (.slice Ao47 y165.length co47 : Value).ownBlock ∧ some k_ ≠ (.slice Ao48 y168.length co48 : Value).ownBlock ∧ some k_ ≠ (.slice Ao50 t171.length co50 : Value).ownBlock ∧ some k_ ≠ (v175 : Value).ownBlock ∧ some k_ ≠ (v178 : Value).ownBlock) v181 y180) := ⟨h6_⟩
       have n7_ : Aside0 (w57.heap[gb153]? = some (.cells #[.int .i64 a0_0, .int .i64 a0_1, .string a0_2, .int .i64 a0_3, .int .i64 a0_4, .int .i64 a0_5, .string a0_6, .int .i64 a0_7, .int .i64 a0_8, .int .i64 a0_9, .string a0_10, .int .i64 a0_11, .int .i64 a0_12, .int .i64 a0_13, .int .i64 a0_14, .int .i64 a0_15] 48 (0, 0))) := ⟨h7_⟩
       have n8_ : Aside0 (w57.heap[gb154]? = some (.cells #[.int .i64 a0_1, .string a0_2, .int .i64 a0_3, .int .i64 a0_4, .int .i64 a0_5, .string a0_6, .int .i64 a0_7, .int .i64 a0_8] 45 (0, 0))) := ⟨h8_⟩
       have n9_ : Aside0 (Below w.heap.size w w57) := ⟨h9_⟩
       clear HO161
       clear HO167
       clear HO170
       clear HO173
       clear BK153
       clear BK154
       clear HB
       clear h0_ h1_ h2_ h3_ h4_ h5_ h6_ h7_ h8_ h9_
       have HO161 := n0_
       have HO167 := n1_
       have HO170 := n2_
       have HO173 := n3_
       have HO176 := n4_
       have HO179 := n5_
       have HO182 := n6_
       have BK153 := n7_
       have BK154 := n8_
       have HB := n9_
       clear n0_ n1_ n2_ n3_ n4_ n5_ n6_ n7_ n8_ n9_
       have hHeld : w57.cell? ⟨gb154, 0, none⟩ = some (.int .i64 a0_1) ∧ w57.cell? ⟨gb154, 1, none⟩ = some (.string a0_2) ∧ w57.cell? ⟨gb154, 2, none⟩ = some (.int .i64 a0_3) ∧ w57.cell? ⟨gb154, 3, none⟩ = some (.int .i64 a0_4) ∧ w57.cell? ⟨gb154, 4, none⟩ = some (.int .i64 a0_5) ∧ w57.cell? ⟨gb154, 5, none⟩ = some (.string a0_6) ∧ w57.cell? ⟨gb154, 6, none⟩ = some (.int .i64 a0_7) ∧ w57.cell? ⟨gb154, 7, none⟩ = some (.int .i64 a0_8) := hS_
       obtain ⟨Ao59, co59, eo59⟩ := Kd.R_slice HO182.out
       (first | subst eo59 | (injection eo59 with f1_ f2_ f3_; have f4_ := f1_.symm; have f5_ := f3_.symm; clear f1_ f2_ f3_; subst f4_; subst f5_))
       refine norm_ (a' := ?_) ?_ ?_
       rotate_left
       ·
        simp only [putAll, Act.put, List.setIfInBounds_toArray, List.set_cons_zero, List.set_cons_succ]
        rfl
       refine one_ (i := 13) (N := some 52) #[true, true, true, true, true, true, true, true, true, true, true, true, true, true, false] rfl rfl (one_of HT_.out (by kernel_rfl)) (by decide) (fun K hK => ?_)
       refine Kd.R_append_rows_step (Kd.int .u8) (w0 := w) w.heap.size (by rfl) (.tmp 46) (.tmp 51) 22 5 (.int .u8 0) 1 rfl Try.underlying22 info5 rfl (by decide) (by omega) v178 t177 y180 _ _ _ (fun k_ => some k_ ≠ (v160 : Value).ownBlock ∧ some k_ ≠ (.slice Ao47 y165.length co47 : Value).ownBlock ∧ some k_ ≠ (.slice Ao48 y168.length co48 : Value).ownBlock ∧ some k_ ≠ (.slice Ao50 t171.length co50 : Value).ownBlock ∧ some k_ ≠ (v175 : Value).ownBlock ∧ some k_ ≠ (.slice Ao59 y180.length co59 : Value).ownBlock) (fun _ => False) rfl rfl ?aO ?aR (fun _ _ h => h) (fun _ h => h.elim) ?aF ?aB ?aS ?aL ?_
       (case aR => exact qC ((Kd.R_reads' HO182.out).2.2))
       (case aB => exact (qB HB))
       (case aF => exact (fun k_ hk => ⟨Kd.fresh' (Kd.R_lt (qR HO161)) k_ hk, Kd.fresh' (Kd.R_lt (qR HO167)) k_ hk, Kd.fresh' (Kd.R_lt (qR HO170)) k_ hk, Kd.fresh' (Kd.R_lt (qR HO173)) k_ hk, Kd.fresh' (Kd.R_lt (qR HO176)) k_ hk, Kd.fresh' (Kd.R_lt (qR HO182)) k_ hk⟩))
       (case aO => exact (qR HO179))
       (case aS => exact (below_size (qB HB)))
       (case aL => have := LMc34.out; omega)
       intro v184 w58 ho hb hg hat
       rw [← Ny183.out] at ho
       replace BK153 := am_ (blk_grown (qK BK153) hg (Kd.R_ne HO179.out BK153.out (by decide)))
       replace BK154 := am_ (blk_grown (qK BK154) hg (Kd.R_ne HO179.out BK154.out (by decide)))
       replace HO161 := am_ (Kd.R_after (ok := (fun k_ => some k_ ≠ (.slice Ao47 y165.length co47 : Value).ownBlock ∧ some k_ ≠ (.slice Ao48 y168.length co48 : Value).ownBlock ∧ some k_ ≠ (.slice Ao50 t171.length co50 : Value).ownBlock ∧ some k_ ≠ (v175 : Value).ownBlock ∧ some k_ ≠ (.slice Ao59 y180.length co59 : Value).ownBlock)) (tR (Kd.R_mono HO161.out (fun _ hk => ⟨⟨hk.1, ⟨hk.2.1, ⟨hk.2.2.1, ⟨hk.2.2.2.1, hk.2.2.2.2.2⟩⟩⟩⟩, hk.2.2.2.2.1⟩))) hg hat)
       replace HO167 := am_ (Kd.R_after (ok := (fun k_ => some k_ ≠ (v160 : Value).ownBlock ∧ some k_ ≠ (.slice Ao48 y168.length co48 : Value).ownBlock ∧ some k_ ≠ (.slice Ao50 t171.length co50 : Value).ownBlock ∧ some k_ ≠ (v175 : Value).ownBlock ∧ some k_ ≠ (.slice Ao59 y180.length co59 : Value).ownBlock)) (tR (Kd.R_mono HO167.out (fun _ hk => ⟨⟨hk.1, ⟨hk.2.1, ⟨hk.2.2.1, ⟨hk.2.2.2.1, hk.2.2.2.2.2⟩⟩⟩⟩, hk.2.2.2.2.1⟩))) hg hat)
       replace HO170 := am_ (Kd.R_after (ok := (fun k_ => some k_ ≠ (v160 : Value).ownBlock ∧ some k_ ≠ (.slice Ao47 y165.length co47 : Value).ownBlock ∧ some k_ ≠ (.slice Ao50 t171.length co50 : Value).ownBlock ∧ some k_ ≠ (v175 : Value).ownBlock ∧ some k_ ≠ (.slice Ao59 y180.length co59 : Value).ownBlock)) (tR (Kd.R_mono HO170.out (fun _ hk => ⟨⟨hk.1, ⟨hk.2.1, ⟨hk.2.2.1, ⟨hk.2.2.2.1, hk.2.2.2.2.2⟩⟩⟩⟩, hk.2.2.2.2.1⟩))) hg hat)
       replace HO173 := am_ (Kd.R_after (ok := (fun k_ => some k_ ≠ (v160 : Value).ownBlock ∧ some k_ ≠ (.slice Ao47 y165.length co47 : Value).ownBlock ∧ some k_ ≠ (.slice Ao48 y168.length co48 : Value).ownBlock ∧ some k_ ≠ (v175 : Value).ownBlock ∧ some k_ ≠ (.slice Ao59 y180.length co59 : Value).ownBlock)) (tR (Kd.R_mono HO173.out (fun _ hk => ⟨⟨hk.1, ⟨hk.2.1, ⟨hk.2.2.1, ⟨hk.2.2.2.1, hk.2.2.2.2.2⟩⟩⟩⟩, hk.2.2.2.2.1⟩))) hg hat)
       replace HO176 := am_ (Kd.R_after (ok := (fun k_ => some k_ ≠ (v160 : Value).ownBlock ∧ some k_ ≠ (.slice Ao47 y165.length co47 : Value).ownBlock ∧ some k_ ≠ (.slice Ao48 y168.length co48 : Value).ownBlock ∧ some k_ ≠ (.slice Ao50 t171.length co50 : Value).ownBlock ∧ some k_ ≠ (.slice Ao59 y180.length co59 : Value).ownBlock)) (tR (Kd.R_mono HO176.out (fun _ hk => ⟨⟨hk.1, ⟨hk.2.1, ⟨hk.2.2.1, ⟨hk.2.2.2.1, hk.2.2.2.2.2⟩⟩⟩⟩, hk.2.2.2.2.1⟩))) hg hat)
       replace HO182 := am_ (Kd.R_after (ok := (fun k_ => some k_ ≠ (v160 : Value).ownBlock ∧ some k_ ≠ (.slice Ao47 y165.length co47 : Value).ownBlock ∧ some k_ ≠ (.slice Ao48 y168.length co48 : Value).ownBlock ∧ some k_ ≠ (.slice Ao50 t171.length co50 : Value).ownBlock ∧ some k_ ≠ (v175 : Value).ownBlock)) (tR (Kd.R_mono HO182.out (fun _ hk => ⟨⟨hk.1, ⟨hk.2.1, ⟨hk.2.2.1, ⟨hk.2.2.2.1, hk.2.2.2.2.1⟩⟩⟩⟩, hk.2.2.2.2.2⟩))) hg hat)
       replace HB := am_ (hb)
       have HO185 := am_ (ho)
       clear HO179
       clear ho hb hg hat
       refine hK.out _ _ (cz8 BK154.out) (fun hHeld => ?_)
       clear hK K
       refine norm_ (a' := ?_) ?_ ?_
       rotate_left
       ·
        show Act.put _ (some 52) _ = _
        simp only [Act.put, List.setIfInBounds_toArray, List.set_cons_zero, List.set_cons_succ, i64_w, i32_w]
        rfl
       refine pure_ (i := 14) (N := some 4) (v := ?_) (a' := ?_) #[true, true, true, true, true, true, true, true, true, true, true, true, true, true, true] rfl rfl (any_of HT_.out (by kernel_rfl)) (fun _ _ _ h => h) (Or.inl ⟨by rfl, ?_⟩) ?_ ?_
       rotate_left
       ·
        intro w'
        go_simp
        with_reducible rfl
       rotate_left
       ·
        simp only [Act.put, List.setIfInBounds_toArray, List.set_cons_zero, List.set_cons_succ, i64_w, i32_w]
        rfl
       refine done_ (done_of HT_.out (by kernel_rfl)) ?_
       try go_wp2
       replace HO161 := am_ (Kd.R_drew HO161.out)
       replace HO167 := am_ (Kd.R_drew HO167.out)
       replace HO170 := am_ (Kd.R_drew HO170.out)
       replace HO173 := am_ (Kd.R_drew HO173.out)
       replace HO176 := am_ (Kd.R_drew HO176.out)
       replace HO182 := am_ (Kd.R_drew HO182.out)
       replace HO185 := am_ (Kd.R_drew HO185.out)
       replace BK153 := am_ (blk_drew BK153.out)
       replace BK154 := am_ (blk_drew BK154.out)
       replace HB := am_ (below_drew1 HB.out)
       obtain ⟨Ao61, co61, eo61⟩ := Kd.R_slice HO185.out
       (first | subst eo61 | (injection eo61 with f1_ f2_ f3_; have f4_ := f1_.symm; have f5_ := f3_.symm; clear f1_ f2_ f3_; subst f4_; subst f5_))
       refine start_ (n := 11) (S := fun w' => w'.cell? ⟨gb154, 0, none⟩ = some (.int .i64 a0_1) ∧ w'.cell? ⟨gb154, 1, none⟩ = some (.string a0_2) ∧ w'.cell? ⟨gb154, 2, none⟩ = some (.int .i64 a0_3) ∧ w'.cell? ⟨gb154, 3, none⟩ = some (.int .i64 a0_4) ∧ w'.cell? ⟨gb154, 4, none⟩ = some (.int .i64 a0_5) ∧ w'.cell? ⟨gb154, 5, none⟩ = some (.string a0_6) ∧ w'.cell? ⟨gb154, 6, none⟩ = some (.int .i64 a0_7) ∧ w'.cell? ⟨gb154, 7, none⟩ = some (.int .i64 a0_8)) (ds := []) #[false, false, false, false, false, false, false, false, false, false, false] (by kernel_rfl) rfl rfl (cz8 BK154.out) (fun hHeld => ?_); refine with_tabW spec_PutItem.tab7 spec_PutItem.bits7 (fun HT_ HW_ => ?_)
       generalize w58.drew = w60 at HO161 HO167 HO170 HO173 HO176 HO182 HO185 BK153 BK154 HB hHeld ⊢
       refine pure_ (i := 0) (N := some 53) (v := ?_) (a' := ?_) #[true, false, false, false, false, false, false, false, false, false, false] rfl rfl (any_of HT_.out (by kernel_rfl)) (fun _ _ _ h => h) (Or.inl ⟨by rfl, ?_⟩) ?_ ?_
       rotate_left
       ·
        intro w'
        go_simp
        with_reducible rfl
       rotate_left
       ·
        simp only [Act.put, List.setIfInBounds_toArray, List.set_cons_zero, List.set_cons_succ, i64_w, i32_w]
        rfl
       refine pure_ (i := 1) (N := some 54) (v := ?_) (a' := ?_) #[true, true, false, false, false, false, false, false, false, false, false] rfl rfl (any_of HT_.out (by kernel_rfl)) (fun _ _ _ h => h) (Or.inl ⟨by rfl, ?_⟩) ?_ ?_
       rotate_left
       ·
        intro w'
        go_simp
        with_reducible rfl
       rotate_left
       ·
        simp only [Act.put, List.setIfInBounds_toArray, List.set_cons_zero, List.set_cons_succ, i64_w, i32_w]
        rfl
       refine pure_ (i := 4) (N := some 57) (v := ?_) (a' := ?_) #[true, true, false, false, true, false, false, false, false, false, false] rfl rfl (any_of HT_.out (by kernel_rfl)) (fun _ _ _ h => h) (Or.inl ⟨by rfl, ?_⟩) ?_ ?_
       rotate_left
       ·
        intro w'
        go_simp
        with_reducible rfl
       rotate_left
       ·
        simp only [Act.put, List.setIfInBounds_toArray, List.set_cons_zero, List.set_cons_succ, i64_w, i32_w]
        rfl
       refine pure_ (i := 7) (N := some 60) (v := ?_) (a' := ?_) #[true, true, false, false, true, false, false, true, false, false, false] rfl rfl (any_of HT_.out (by kernel_rfl)) (fun _ _ _ h => h) (Or.inl ⟨by rfl, ?_⟩) ?_ ?_
       rotate_left
       ·
        intro w'
        go_simp
        with_reducible rfl
       rotate_left
       ·
        simp only [Act.put, List.setIfInBounds_toArray, List.set_cons_zero, List.set_cons_succ, i64_w, i32_w]
        rfl
       refine take_ (i := 2) (N := some 55) (v := ?_) (a' := ?_) #[true, true, true, false, true, false, false, true, false, false, false] rfl rfl (take_ofW HT_.out HW_.out (by kernel_rfl)) (fun _ _ _ h => h) (Or.inl ⟨by rfl, ?_⟩) hHeld ?_ ?_
       rotate_left
       ·
        rintro w' ⟨s0, s1, s2, s3, s4, s5, s6, s7⟩
        go_simp
        with_reducible rfl
       rotate_left
       ·
        simp only [Act.put, List.setIfInBounds_toArray, List.set_cons_zero, List.set_cons_succ, i64_w, i32_w]
        rfl
       refine take_ (i := 5) (N := some 58) (v := ?_) (a' := ?_) #[true, true, true, false, true, true, false, true, false, false, false] rfl rfl (take_ofW HT_.out HW_.out (by kernel_rfl)) (fun _ _ _ h => h) (Or.inl ⟨by rfl, ?_⟩) hHeld ?_ ?_
       rotate_left
       ·
        rintro w' ⟨s0, s1, s2, s3, s4, s5, s6, s7⟩
        go_simp
        with_reducible rfl
       rotate_left
       ·
        simp only [Act.put, List.setIfInBounds_toArray, List.set_cons_zero, List.set_cons_succ, i64_w, i32_w]
        rfl
       refine take_ (i := 8) (N := some 61) (v := ?_) (a' := ?_) #[true, true, true, false, true, true, false, true, true, false, false] rfl rfl (take_ofW HT_.out HW_.out (by kernel_rfl)) (fun _ _ _ h => h) (Or.inl ⟨by rfl, ?_⟩) hHeld ?_ ?_
       rotate_left
       ·
        rintro w' ⟨s0, s1, s2, s3, s4, s5, s6, s7⟩
        go_simp
        with_reducible rfl
       rotate_left
       ·
        simp only [Act.put, List.setIfInBounds_toArray, List.set_cons_zero, List.set_cons_succ, i64_w, i32_w]
        rfl
       refine one_ (i := 3) (N := some 56) #[true, true, true, true, true, true, false, true, true, false, false] rfl rfl (one_of HT_.out (by kernel_rfl)) (by decide) (fun K hK => ?_)
       refine goes_ Try.func74 (by kernel_rfl) rfl #[.slice Ao61 y183.length co61, .string a0_6] (by rfl) rfl rfl (by (try simp only [List.map_toArray, List.map_cons, List.map_nil]); first | done | rfl | (simp only [List.length_drop, List.length_take]; rfl)) ?_
       with_reducible refine (spec_PutText.calls kj5 _ _ y183 a0_6 t186 _ ?side1 ?side2 A35.out).mono ?_
       (case side1 => exact qC ((Kd.R_reads' HO185.out).2.2))
       (case side2 => exact (Kd.R_reads' HO185.out).2.1)
       rintro e w62 ⟨v187, rfl, ho0, hb⟩
       refine ⟨_, rfl, ?_⟩
       have HO188 := am_ (Kd.R_lower (Kd.R_new' (Kd.R_new' (Kd.R_new' (Kd.R_new' (Kd.R_new' (Kd.R_new' (Kd.R_new' ho0 (Kd.R_lt (qR HO161))) (Kd.R_lt (qR HO167))) (Kd.R_lt (qR HO170))) (Kd.R_lt (qR HO173))) (Kd.R_lt (qR HO176))) (Kd.R_lt (qR HO182))) (Kd.R_lt (qR HO185))) (below_size (qB HB)))
       replace HO161 := am_ (Kd.R_elder' (qR HO161) (Kd.R_base ho0) hb)
       replace HO167 := am_ (Kd.R_elder' (qR HO167) (Kd.R_base ho0) hb)
       replace HO170 := am_ (Kd.R_elder' (qR HO170) (Kd.R_base ho0) hb)
       replace HO173 := am_ (Kd.R_elder' (qR HO173) (Kd.R_base ho0) hb)
       replace HO176 := am_ (Kd.R_elder' (qR HO176) (Kd.R_base ho0) hb)
       replace HO182 := am_ (Kd.R_elder' (qR HO182) (Kd.R_base ho0) hb)
       replace HO185 := am_ (Kd.R_elder' (qR HO185) (Kd.R_base ho0) hb)
       replace BK153 := am_ (blk_below (qK BK153) hb)
       replace BK154 := am_ (blk_below (qK BK154) hb)
       replace HB := am_ (below_step (qB HB) hb)
       (try clear hb ho0)
       obtain ⟨Ao63, co63, eo63⟩ := Kd.R_slice HO188.out
       (first | subst eo63 | (injection eo63 with f1_ f2_ f3_; have f4_ := f1_.symm; have f5_ := f3_.symm; clear f1_ f2_ f3_; subst f4_; subst f5_))
       refine hK.out _ _ (cz8 BK154.out) (fun hHeld => ?_)
       clear hK K
       refine norm_ (a' := ?_) ?_ ?_
       rotate_left
       ·
        show Act.put _ (some 56) _ = _
        simp only [Act.put, List.setIfInBounds_toArray, List.set_cons_zero, List.set_cons_succ, i64_w, i32_w]
        rfl
       refine one_ (i := 6) (N := some 59) #[true, true, true, true, true, true, true, true, true, false, false] rfl rfl (one_of HT_.out (by kernel_rfl)) (by decide) (fun K hK => ?_)
       refine goes_ Try.func75 (by kernel_rfl) rfl #[.slice Ao63 t186.length co63, .int .i64 a0_7] (by rfl) rfl rfl (by (try simp only [List.map_toArray, List.map_cons, List.map_nil]); first | done | rfl | (simp only [List.length_drop, List.length_take]; rfl)) ?_
       with_reducible refine (spec_PutWord.calls _ _ t186 a0_7 t189 _ ?side1 ?side2 A36.out).mono ?_
       (case side1 => exact qC ((Kd.R_reads' HO188.out).2.2))
       (case side2 => exact (Kd.R_reads' HO188.out).2.1)
       rintro e w64 ⟨v190, rfl, ho0, hb⟩
       refine ⟨_, rfl, ?_⟩
       have HO191 := am_ (Kd.R_lower (Kd.R_new' (Kd.R_new' (Kd.R_new' (Kd.R_new' (Kd.R_new' (Kd.R_new' (Kd.R_new' (Kd.R_new' ho0 (Kd.R_lt (qR HO161))) (Kd.R_lt (qR HO167))) (Kd.R_lt (qR HO170))) (Kd.R_lt (qR HO173))) (Kd.R_lt (qR HO176))) (Kd.R_lt (qR HO182))) (Kd.R_lt (qR HO185))) (Kd.R_lt (qR HO188))) (below_size (qB HB)))
       replace HO161 := am_ (Kd.R_elder' (qR HO161) (Kd.R_base ho0) hb)
       replace HO167 := am_ (Kd.R_elder' (qR HO167) (Kd.R_base ho0) hb)
       replace HO170 := am_ (Kd.R_elder' (qR HO170) (Kd.R_base ho0) hb)
       replace HO173 := am_ (Kd.R_elder' (qR HO173) (Kd.R_base ho0) hb)
       replace HO176 := am_ (Kd.R_elder' (qR HO176) (Kd.R_base ho0) hb)
       replace HO182 := am_ (Kd.R_elder' (qR HO182) (Kd.R_base ho0) hb)
       replace HO185 := am_ (Kd.R_elder' (qR HO185) (Kd.R_base ho0) hb)
       replace HO188 := am_ (Kd.R_elder' (qR HO188) (Kd.R_base ho0) hb)
       replace BK153 := am_ (blk_below (qK BK153) hb)
       replace BK154 := am_ (blk_below (qK BK154) hb)
       replace HB := am_ (below_step (qB HB) hb)
       (try clear hb ho0)
       obtain ⟨Ao65, co65, eo65⟩ := Kd.R_slice HO191.out
       (first | subst eo65 | (injection eo65 with f1_ f2_ f3_; have f4_ := f1_.symm; have f5_ := f3_.symm; clear f1_ f2_ f3_; subst f4_; subst f5_))
       refine hK.out _ _ (cz8 BK154.out) (fun hHeld => ?_)
       clear hK K
       refine norm_ (a' := ?_) ?_ ?_
       rotate_left
       ·
        show Act.put _ (some 59) _ = _
        simp only [Act.put, List.setIfInBounds_toArray, List.set_cons_zero, List.set_cons_succ, i64_w, i32_w]
        rfl
       refine one_ (i := 9) (N := some 62) #[true, true, true, true, true, true, true, true, true, true, false] rfl rfl (one_of HT_.out (by kernel_rfl)) (by decide) (fun K hK => ?_)
       refine goes_ Try.func75 (by kernel_rfl) rfl #[.slice Ao65 t189.length co65, .int .i64 a0_8] (by rfl) rfl rfl (by (try simp only [List.map_toArray, List.map_cons, List.map_nil]); first | done | rfl | (simp only [List.length_drop, List.length_take]; rfl)) ?_
       with_reducible refine (spec_PutWord.calls _ _ t189 a0_8 t192 _ ?side1 ?side2 A37.out).mono ?_
       (case side1 => exact qC ((Kd.R_reads' HO191.out).2.2))
       (case side2 => exact (Kd.R_reads' HO191.out).2.1)
       rintro e w66 ⟨v193, rfl, ho0, hb⟩
       refine ⟨_, rfl, ?_⟩
       have HO194 := am_ (Kd.R_lower (Kd.R_new' (Kd.R_new' (Kd.R_new' (Kd.R_new' (Kd.R_new' (Kd.R_new' (Kd.R_new' (Kd.R_new' (Kd.R_new' ho0 (Kd.R_lt (qR HO161))) (Kd.R_lt (qR HO167))) (Kd.R_lt (qR HO170))) (Kd.R_lt (qR HO173))) (Kd.R_lt (qR HO176))) (Kd.R_lt (qR HO182))) (Kd.R_lt (qR HO185))) (Kd.R_lt (qR HO188))) (Kd.R_lt (qR HO191))) (below_size (qB HB)))
       replace HO161 := am_ (Kd.R_elder' (qR HO161) (Kd.R_base ho0) hb)
       replace HO167 := am_ (Kd.R_elder' (qR HO167) (Kd.R_base ho0) hb)
       replace HO170 := am_ (Kd.R_elder' (qR HO170) (Kd.R_base ho0) hb)
       replace HO173 := am_ (Kd.R_elder' (qR HO173) (Kd.R_base ho0) hb)
       replace HO176 := am_ (Kd.R_elder' (qR HO176) (Kd.R_base ho0) hb)
       replace HO182 := am_ (Kd.R_elder' (qR HO182) (Kd.R_base ho0) hb)
       replace HO185 := am_ (Kd.R_elder' (qR HO185) (Kd.R_base ho0) hb)
       replace HO188 := am_ (Kd.R_elder' (qR HO188) (Kd.R_base ho0) hb)
       replace HO191 := am_ (Kd.R_elder' (qR HO191) (Kd.R_base ho0) hb)
       replace BK153 := am_ (blk_below (qK BK153) hb)
       replace BK154 := am_ (blk_below (qK BK154) hb)
       replace HB := am_ (below_step (qB HB) hb)
       (try clear hb ho0)
       refine hK.out _ _ (cz8 BK154.out) (fun hHeld => ?_)
       clear hK K
       refine norm_ (a' := ?_) ?_ ?_
       rotate_left
       ·
        show Act.put _ (some 62) _ = _
        simp only [Act.put, List.setIfInBounds_toArray, List.set_cons_zero, List.set_cons_succ, i64_w, i32_w]
        rfl
       refine pure_ (i := 10) (N := some 2) (v := ?_) (a' := ?_) #[true, true, true, true, true, true, true, true, true, true, true] rfl rfl (any_of HT_.out (by kernel_rfl)) (fun _ _ _ h => h) (Or.inl ⟨by rfl, ?_⟩) ?_ ?_
       rotate_left
       ·
        intro w'
        go_simp
        with_reducible rfl
       rotate_left
       ·
        simp only [Act.put, List.setIfInBounds_toArray, List.set_cons_zero, List.set_cons_succ, i64_w, i32_w]
        rfl
       refine done_ (done_of HT_.out (by kernel_rfl)) ?_
       try go_wp2
       go_ret
       exact ⟨_, by first | rfl | (simp [errW_none, errW_some] <;> rfl) | (simp [*, errW_none, errW_some] <;> rfl), by (with_reducible repeat (first | apply Kd.R_alloc | apply Kd.R_drewN | apply Kd.R_drew)); exact Kd.R_mono HO194.out (fun _ hk => trivial), qB HB⟩
      ·
       rw [if_neg c34] at H
       exact absurd H (by simp)
     ·
      rw [if_neg c30] at H
      exact absurd H (by simp)
 ·
  rw [if_neg c5] at H
  have c5b0 : (a0_0 == 1) = false := beq_eq_false_iff_ne.mpr c5
  have c5b1 : (a0_0 != 1) = true := bne_iff_ne.mpr c5
  (first | rw [c5b0] | (simp only [i64_w, i32_w]; rw [c5b0]) | skip)
  have HC67 := Aside0.mk H
  clear H
  obtain ⟨hcz68_0, hcz68_1, hcz68_2, hcz68_3, hcz68_4, hcz68_5, hcz68_6, hcz68_7, hcz68_8, hcz68_9, hcz68_10, hcz68_11, hcz68_12, hcz68_13, hcz68_14, hcz68_15⟩ := cz16 BK153.out
  obtain ⟨hfz68_0, hfz68_1, hfz68_2, hfz68_3, hfz68_4, hfz68_5, hfz68_6, hfz68_7, hfz68_8, hfz68_9, hfz68_10, hfz68_11, hfz68_12, hfz68_13, hfz68_14, hfz68_15⟩ := fz16 BK153.out
  go_upto_region 9 with (first | ((with_reducible refine gate_dst (N := 5) rfl ?_); refine box_event ?hg (N := 5) ?hd (cs := #[.int .i64 0, .string (⟨#[]⟩ : ByteArray), .int .i64 0, .int .i64 0, .int .i64 0, .int .i64 0, .int .i64 0]) (t := 46) ?hr ?_; (case hd => rfl); (case hg => rfl); (case hr => first | (go_simp; done) | (go_simp; rfl)); intro gb195 hg w69 hbox hb; have BK195 := am_ (hbox); have GW195 := am_ ((gG_ hg (qB HB))); have IGW195 := gI_ GW195; have GE195 := am_ ((gG_ hg (qB HB))); have IGE195 := gI_ GE195; replace HB := am_ (below_step (qB HB) hb); have NB153_195 := am_ ((gN_ hg (qK BK153))); have NB195_153 := am_ ((gM_ hg (qK BK153))); replace BK153 := am_ (blk_below (qK BK153) hb); clear hb hbox hg; have hnb70 := NB195_153.out; have hnc70 := NB153_195.out; obtain ⟨hcz71_0, hcz71_1, hcz71_2, hcz71_3, hcz71_4, hcz71_5, hcz71_6⟩ := cz7 BK195.out; obtain ⟨hfz71_0, hfz71_1, hfz71_2, hfz71_3, hfz71_4, hfz71_5, hfz71_6⟩ := fz7 BK195.out))
  (try simp only [Act.put, List.setIfInBounds_toArray, List.set_cons_zero, List.set_cons_succ])
  go_cut [83] (fun v83 wc => ∃ (kq : Nat) (x83_66 : Bool), v83 = .bool x83_66 ∧ Aside0 (spec_PutItem.j1 kq x83_66 a0_9 a0_10 a0_11 a0_12 a0_13 a0_14 a0_15 = some r) ∧ Aside0 (kq ≤ k) ∧ Aside0 (wc.heap[gb153]? = some (.cells #[.int .i64 a0_0, .int .i64 a0_1, .string a0_2, .int .i64 a0_3, .int .i64 a0_4, .int .i64 a0_5, .string a0_6, .int .i64 a0_7, .int .i64 a0_8, .int .i64 a0_9, .string a0_10, .int .i64 a0_11, .int .i64 a0_12, .int .i64 a0_13, .int .i64 a0_14, .int .i64 a0_15] 48 (0, 0))) ∧ Aside0 (wc.heap[gb195]? = some (.cells #[.int .i64 a0_9, .string a0_10, .int .i64 a0_11, .int .i64 a0_12, .int .i64 a0_13, .int .i64 a0_14, .int .i64 a0_15] 46 (0, 0))) ∧ Aside0 (Below w.heap.size w wc))
  case first =>
   have H := HC67.out
   clear HC67
   by_cases c72 : a0_0 = 2
   ·
    rw [if_pos c72] at H
    have c72b0 : (a0_0 == 2) = true := beq_iff_eq.mpr c72
    have c72b1 : (a0_0 != 2) = false := bne_eq_false_iff_eq.mpr c72
    clear c72
    (first | rw [c72b0] | (simp only [i64_w, i32_w]; rw [c72b0]) | skip)
    replace H := Option.bind_eq_some_iff.mp H
    obtain ⟨t196, A730, H⟩ := H
    replace H : (if t196 = true then (if (!(a0_1 == 0) || (!(a0_2.toList == ([] : List UInt8)) || (!(a0_3 == 0) || (!(a0_4 == 0) || (!(a0_5 == 0) || (!(a0_6.toList == ([] : List UInt8)) || (!(a0_7 == 0) || (!(a0_8 == 0))))))))) = true then (spec_PutItem.j1 k true a0_9 a0_10 a0_11 a0_12 a0_13 a0_14 a0_15) else (spec_PutItem.j1 k (decide (a0_15 > 65535)) a0_9 a0_10 a0_11 a0_12 a0_13 a0_14 a0_15)) else (spec_PutItem.j1 k true a0_9 a0_10 a0_11 a0_12 a0_13 a0_14 a0_15)) = some r := H
    have A73 := Aside0.mk A730
    clear A730
    by_cases c74 : t196 = true
    ·
     subst c74
     have H1 : (if (!(a0_1 == 0) || (!(a0_2.toList == ([] : List UInt8)) || (!(a0_3 == 0) || (!(a0_4 == 0) || (!(a0_5 == 0) || (!(a0_6.toList == ([] : List UInt8)) || (!(a0_7 == 0) || (!(a0_8 == 0))))))))) = true then (spec_PutItem.j1 k true a0_9 a0_10 a0_11 a0_12 a0_13 a0_14 a0_15) else (spec_PutItem.j1 k (decide (a0_15 > 65535)) a0_9 a0_10 a0_11 a0_12 a0_13 a0_14 a0_15)) = some r := by rw [if_pos rfl] at H; exact H
     clear H
     have H := H1
     clear H1
     by_cases c75 : (!(a0_1 == 0) || (!(a0_2.toList == ([] : List UInt8)) || (!(a0_3 == 0) || (!(a0_4 == 0) || (!(a0_5 == 0) || (!(a0_6.toList == ([] : List UInt8)) || (!(a0_7 == 0) || (!(a0_8 == 0))))))))) = true
     ·
      rw [if_pos c75] at H
      have c75b0 : (!(a0_1 == 0) || (!(a0_2.toList == ([] : List UInt8)) || (!(a0_3 == 0) || (!(a0_4 == 0) || (!(a0_5 == 0) || (!(a0_6.toList == ([] : List UInt8)) || (!(a0_7 == 0) || (!(a0_8 == 0))))))))) = true := c75
      (try (have c75b0e := c75b0; simp only [Go.Proofs.YtahfemlfdpbkkaaV.beq_nil, Go.Proofs.YtahfemlfdpbkkaaV.bne_nil] at c75b0e))
      clear c75
      have H' := Aside0.mk H
      clear H
      have hnb76 := NB153_195.out
      have hnc76 := NB195_153.out
      obtain ⟨hcz77_0, hcz77_1, hcz77_2, hcz77_3, hcz77_4, hcz77_5, hcz77_6, hcz77_7, hcz77_8, hcz77_9, hcz77_10, hcz77_11, hcz77_12, hcz77_13, hcz77_14, hcz77_15⟩ := cz16 BK153.out
      obtain ⟨hfz77_0, hfz77_1, hfz77_2, hfz77_3, hfz77_4, hfz77_5, hfz77_6, hfz77_7, hfz77_8, hfz77_9, hfz77_10, hfz77_11, hfz77_12, hfz77_13, hfz77_14, hfz77_15⟩ := fz16 BK153.out
      obtain ⟨hcz78_0, hcz78_1, hcz78_2, hcz78_3, hcz78_4, hcz78_5, hcz78_6⟩ := cz7 BK195.out
      obtain ⟨hfz78_0, hfz78_1, hfz78_2, hfz78_3, hfz78_4, hfz78_5, hfz78_6⟩ := fz7 BK195.out
      go_wp2_with (first | (go_at_call 76; (with_reducible refine (spec_LineOk.calls k a0_9 a0_10 a0_11 a0_12 a0_13 a0_14 a0_15 true _ A73.out).mono ?_); rintro e w79 ⟨rfl, hb⟩; replace BK153 := am_ (blk_below (g := gb153) (o := .cells #[.int .i64 a0_0, .int .i64 a0_1, .string a0_2, .int .i64 a0_3, .int .i64 a0_4, .int .i64 a0_5, .string a0_6, .int .i64 a0_7, .int .i64 a0_8, .int .i64 a0_9, .string a0_10, .int .i64 a0_11, .int .i64 a0_12, .int .i64 a0_13, .int .i64 a0_14, .int .i64 a0_15] 48 (0, 0)) (by (with_reducible repeat (first | refine blk_drewN ?_ _ | refine blk_drew ?_ | refine blk_alloc ?_ _)); refine Go.Proofs.YtahfemlfdpbkkaaV.blk_far7 ?_ NB153_195.out; (with_reducible repeat (first | refine blk_drewN ?_ _ | refine blk_drew ?_ | refine blk_alloc ?_ _)); exact BK153.out) hb); replace BK195 := am_ (blk_below (g := gb195) (o := .cells #[.int .i64 a0_9, .string a0_10, .int .i64 a0_11, .int .i64 a0_12, .int .i64 a0_13, .int .i64 a0_14, .int .i64 a0_15] 46 (0, 0)) (by (with_reducible repeat (first | refine blk_drewN ?_ _ | refine blk_drew ?_ | refine blk_alloc ?_ _)); refine Go.Proofs.YtahfemlfdpbkkaaV.blk_all7 (show _ = some (Go.Obj.cells #[.int .i64 0, .string (⟨#[]⟩ : ByteArray), .int .i64 0, .int .i64 0, .int .i64 0, .int .i64 0, .int .i64 0] _ (0, 0)) from ?_); (with_reducible repeat (first | refine blk_drewN ?_ _ | refine blk_drew ?_ | refine blk_alloc ?_ _)); exact BK195.out) hb); replace HB := am_ (below_step (qB HB) hb); (try clear hb); (try clear hb2); (try clear hk); (try clear hi); obtain ⟨hcz80_0, hcz80_1, hcz80_2, hcz80_3, hcz80_4, hcz80_5, hcz80_6, hcz80_7, hcz80_8, hcz80_9, hcz80_10, hcz80_11, hcz80_12, hcz80_13, hcz80_14, hcz80_15⟩ := cz16 BK153.out; obtain ⟨hfz80_0, hfz80_1, hfz80_2, hfz80_3, hfz80_4, hfz80_5, hfz80_6, hfz80_7, hfz80_8, hfz80_9, hfz80_10, hfz80_11, hfz80_12, hfz80_13, hfz80_14, hfz80_15⟩ := fz16 BK153.out))
      go_meet
      case rel => exact ⟨_, (true), (by first | rfl | (simp; done) | (simp [*]; done) | (simp [Go.Proofs.YtahfemlfdpbkkaaV.bne_nil, Go.Proofs.YtahfemlfdpbkkaaV.beq_nil]; done)), H', ⟨by first | omega | exact Nat.le_refl _⟩, ⟨qK BK153⟩, ⟨qK BK195⟩, ⟨qB HB⟩⟩
     ·
      rw [if_neg c75] at H
      have c75b0 : (!(a0_1 == 0) || (!(a0_2.toList == ([] : List UInt8)) || (!(a0_3 == 0) || (!(a0_4 == 0) || (!(a0_5 == 0) || (!(a0_6.toList == ([] : List UInt8)) || (!(a0_7 == 0) || (!(a0_8 == 0))))))))) = false := by simpa using c75
      (try (have c75b0e := c75b0; simp only [Go.Proofs.YtahfemlfdpbkkaaV.beq_nil, Go.Proofs.YtahfemlfdpbkkaaV.bne_nil] at c75b0e))
      clear c75
      have H' := Aside0.mk H
      clear H
      have hnb81 := NB153_195.out
      have hnc81 := NB195_153.out
      obtain ⟨hcz82_0, hcz82_1, hcz82_2, hcz82_3, hcz82_4, hcz82_5, hcz82_6, hcz82_7, hcz82_8, hcz82_9, hcz82_10, hcz82_11, hcz82_12, hcz82_13, hcz82_14, hcz82_15⟩ := cz16 BK153.out
      obtain ⟨hfz82_0, hfz82_1, hfz82_2, hfz82_3, hfz82_4, hfz82_5, hfz82_6, hfz82_7, hfz82_8, hfz82_9, hfz82_10, hfz82_11, hfz82_12, hfz82_13, hfz82_14, hfz82_15⟩ := fz16 BK153.out
      obtain ⟨hcz83_0, hcz83_1, hcz83_2, hcz83_3, hcz83_4, hcz83_5, hcz83_6⟩ := cz7 BK195.out
      obtain ⟨hfz83_0, hfz83_1, hfz83_2, hfz83_3, hfz83_4, hfz83_5, hfz83_6⟩ := fz7 BK195.out
      go_wp2_with (first | (go_at_call 76; (with_reducible refine (spec_LineOk.calls k a0_9 a0_10 a0_11 a0_12 a0_13 a0_14 a0_15 true _ A73.out).mono ?_); rintro e w84 ⟨rfl, hb⟩; replace BK153 := am_ (blk_below (g := gb153) (o := .cells #[.int .i64 a0_0, .int .i64 a0_1, .string a0_2, .int .i64 a0_3, .int .i64 a0_4, .int .i64 a0_5, .string a0_6, .int .i64 a0_7, .int .i64 a0_8, .int .i64 a0_9, .string a0_10, .int .i64 a0_11, .int .i64 a0_12, .int .i64 a0_13, .int .i64 a0_14, .int .i64 a0_15] 48 (0, 0)) (by (with_reducible repeat (first | refine blk_drewN ?_ _ | refine blk_drew ?_ | refine blk_alloc ?_ _)); refine Go.Proofs.YtahfemlfdpbkkaaV.blk_far7 ?_ NB153_195.out; (with_reducible repeat (first | refine blk_drewN ?_ _ | refine blk_drew ?_ | refine blk_alloc ?_ _)); exact BK153.out) hb); replace BK195 := am_ (blk_below (g := gb195) (o := .cells #[.int .i64 a0_9, .string a0_10, .int .i64 a0_11, .int .i64 a0_12, .int .i64 a0_13, .int .i64 a0_14, .int .i64 a0_15] 46 (0, 0)) (by (with_reducible repeat (first | refine blk_drewN ?_ _ | refine blk_drew ?_ | refine blk_alloc ?_ _)); refine Go.Proofs.YtahfemlfdpbkkaaV.blk_all7 (show _ = some (Go.Obj.cells #[.int .i64 0, .string (⟨#[]⟩ : ByteArray), .int .i64 0, .int .i64 0, .int .i64 0, .int .i64 0, .int .i64 0] _ (0, 0)) from ?_); (with_reducible repeat (first | refine blk_drewN ?_ _ | refine blk_drew ?_ | refine blk_alloc ?_ _)); exact BK195.out) hb); replace HB := am_ (below_step (qB HB) hb); (try clear hb); (try clear hb2); (try clear hk); (try clear hi); obtain ⟨hcz85_0, hcz85_1, hcz85_2, hcz85_3, hcz85_4, hcz85_5, hcz85_6, hcz85_7, hcz85_8, hcz85_9, hcz85_10, hcz85_11, hcz85_12, hcz85_13, hcz85_14, hcz85_15⟩ := cz16 BK153.out; obtain ⟨hfz85_0, hfz85_1, hfz85_2, hfz85_3, hfz85_4, hfz85_5, hfz85_6, hfz85_7, hfz85_8, hfz85_9, hfz85_10, hfz85_11, hfz85_12, hfz85_13, hfz85_14, hfz85_15⟩ := fz16 BK153.out; obtain ⟨hcz86_0, hcz86_1, hcz86_2, hcz86_3, hcz86_4, hcz86_5, hcz86_6⟩ := cz7 BK195.out; obtain ⟨hfz86_0, hfz86_1, hfz86_2, hfz86_3, hfz86_4, hfz86_5, hfz86_6⟩ := fz7 BK195.out))
      go_meet
      case rel => exact ⟨_, (decide (a0_15 > 65535)), (by first | rfl | (simp; done) | (simp [*]; done) | (simp [Go.Proofs.YtahfemlfdpbkkaaV.bne_nil, Go.Proofs.YtahfemlfdpbkkaaV.beq_nil]; done)), H', ⟨by first | omega | exact Nat.le_refl _⟩, ⟨qK BK153⟩, ⟨qK BK195⟩, ⟨qB HB⟩⟩
    ·
     replace c74 := Bool.eq_false_iff.mpr c74
     subst c74
     have H1 : (spec_PutItem.j1 k true a0_9 a0_10 a0_11 a0_12 a0_13 a0_14 a0_15) = some r := by rw [if_neg (show ¬ (false = true) by decide)] at H; exact H
     clear H
     have H := H1
     clear H1
     have H' := Aside0.mk H
     clear H
     have hnb87 := NB153_195.out
     have hnc87 := NB195_153.out
     obtain ⟨hcz88_0, hcz88_1, hcz88_2, hcz88_3, hcz88_4, hcz88_5, hcz88_6, hcz88_7, hcz88_8, hcz88_9, hcz88_10, hcz88_11, hcz88_12, hcz88_13, hcz88_14, hcz88_15⟩ := cz16 BK153.out
     obtain ⟨hfz88_0, hfz88_1, hfz88_2, hfz88_3, hfz88_4, hfz88_5, hfz88_6, hfz88_7, hfz88_8, hfz88_9, hfz88_10, hfz88_11, hfz88_12, hfz88_13, hfz88_14, hfz88_15⟩ := fz16 BK153.out
     obtain ⟨hcz89_0, hcz89_1, hcz89_2, hcz89_3, hcz89_4, hcz89_5, hcz89_6⟩ := cz7 BK195.out
     obtain ⟨hfz89_0, hfz89_1, hfz89_2, hfz89_3, hfz89_4, hfz89_5, hfz89_6⟩ := fz7 BK195.out
     go_wp2_with (first | (go_at_call 76; (with_reducible refine (spec_LineOk.calls k a0_9 a0_10 a0_11 a0_12 a0_13 a0_14 a0_15 false _ A73.out).mono ?_); rintro e w90 ⟨rfl, hb⟩; replace BK153 := am_ (blk_below (g := gb153) (o := .cells #[.int .i64 a0_0, .int .i64 a0_1, .string a0_2, .int .i64 a0_3, .int .i64 a0_4, .int .i64 a0_5, .string a0_6, .int .i64 a0_7, .int .i64 a0_8, .int .i64 a0_9, .string a0_10, .int .i64 a0_11, .int .i64 a0_12, .int .i64 a0_13, .int .i64 a0_14, .int .i64 a0_15] 48 (0, 0)) (by (with_reducible repeat (first | refine blk_drewN ?_ _ | refine blk_drew ?_ | refine blk_alloc ?_ _)); refine Go.Proofs.YtahfemlfdpbkkaaV.blk_far7 ?_ NB153_195.out; (with_reducible repeat (first | refine blk_drewN ?_ _ | refine blk_drew ?_ | refine blk_alloc ?_ _)); exact BK153.out) hb); replace BK195 := am_ (blk_below (g := gb195) (o := .cells #[.int .i64 a0_9, .string a0_10, .int .i64 a0_11, .int .i64 a0_12, .int .i64 a0_13, .int .i64 a0_14, .int .i64 a0_15] 46 (0, 0)) (by (with_reducible repeat (first | refine blk_drewN ?_ _ | refine blk_drew ?_ | refine blk_alloc ?_ _)); refine Go.Proofs.YtahfemlfdpbkkaaV.blk_all7 (show _ = some (Go.Obj.cells #[.int .i64 0, .string (⟨#[]⟩ : ByteArray), .int .i64 0, .int .i64 0, .int .i64 0, .int .i64 0, .int .i64 0] _ (0, 0)) from ?_); (with_reducible repeat (first | refine blk_drewN ?_ _ | refine blk_drew ?_ | refine blk_alloc ?_ _)); exact BK195.out) hb); replace HB := am_ (below_step (qB HB) hb); (try clear hb); (try clear hb2); (try clear hk); (try clear hi)))
     go_meet
     case rel => exact ⟨_, (true), (by first | rfl | (simp; done) | (simp [*]; done) | (simp [Go.Proofs.YtahfemlfdpbkkaaV.bne_nil, Go.Proofs.YtahfemlfdpbkkaaV.beq_nil]; done)), H', ⟨by first | omega | exact Nat.le_refl _⟩, ⟨qK BK153⟩, ⟨qK BK195⟩, ⟨qB HB⟩⟩
   ·
    rw [if_neg c72] at H
    have c72b0 : (a0_0 == 2) = false := beq_eq_false_iff_ne.mpr c72
    have c72b1 : (a0_0 != 2) = true := bne_iff_ne.mpr c72
    (first | rw [c72b0] | (simp only [i64_w, i32_w]; rw [c72b0]) | skip)
    have H' := Aside0.mk H
    clear H
    have hnb91 := NB153_195.out
    have hnc91 := NB195_153.out
    obtain ⟨hcz92_0, hcz92_1, hcz92_2, hcz92_3, hcz92_4, hcz92_5, hcz92_6, hcz92_7, hcz92_8, hcz92_9, hcz92_10, hcz92_11, hcz92_12, hcz92_13, hcz92_14, hcz92_15⟩ := cz16 BK153.out
    obtain ⟨hfz92_0, hfz92_1, hfz92_2, hfz92_3, hfz92_4, hfz92_5, hfz92_6, hfz92_7, hfz92_8, hfz92_9, hfz92_10, hfz92_11, hfz92_12, hfz92_13, hfz92_14, hfz92_15⟩ := fz16 BK153.out
    go_wp2
    go_meet
    case rel => exact ⟨_, (true), (by first | rfl | (simp; done) | (simp [*]; done) | (simp [Go.Proofs.YtahfemlfdpbkkaaV.bne_nil, Go.Proofs.YtahfemlfdpbkkaaV.beq_nil]; done)), H', ⟨by first | omega | exact Nat.le_refl _⟩, ⟨by (with_reducible repeat (first | refine blk_drewN ?_ _ | refine blk_drew ?_ | refine blk_alloc ?_ _)); refine Go.Proofs.YtahfemlfdpbkkaaV.blk_far7 ?_ NB153_195.out; (with_reducible repeat (first | refine blk_drewN ?_ _ | refine blk_drew ?_ | refine blk_alloc ?_ _)); exact BK153.out⟩, ⟨by (with_reducible repeat (first | refine blk_drewN ?_ _ | refine blk_drew ?_ | refine blk_alloc ?_ _)); refine Go.Proofs.YtahfemlfdpbkkaaV.blk_all7 (show _ = some (Go.Obj.cells #[.int .i64 0, .string (⟨#[]⟩ : ByteArray), .int .i64 0, .int .i64 0, .int .i64 0, .int .i64 0, .int .i64 0] _ (0, 0)) from ?_); (with_reducible repeat (first | refine blk_drewN ?_ _ | refine blk_drew ?_ | refine blk_alloc ?_ _)); exact BK195.out⟩, ⟨qB HB⟩⟩
  case rest =>
   clear HC67
   try clear p2
   try clear c3
   try clear c5
   try clear c5b0
   try clear c5b1
   try clear c7
   try clear c8
   try clear c9
   try clear c30
   try clear c34
   try clear c70
   try clear c72
   try clear c72b0
   try clear c72b1
   try clear c74
   try clear c75
   try clear c75b0
   try clear c76
   try clear c81
   try clear c87
   try clear c91
   (try clear hcz68_0 hcz68_1 hcz68_10 hcz68_11 hcz68_12 hcz68_13 hcz68_14 hcz68_15 hcz68_2 hcz68_3 hcz68_4 hcz68_5 hcz68_6 hcz68_7 hcz68_8 hcz68_9)
   (try clear hcz71_0 hcz71_1 hcz71_2 hcz71_3 hcz71_4 hcz71_5 hcz71_6)
   (try clear hcz77_0 hcz77_1 hcz77_10 hcz77_11 hcz77_12 hcz77_13 hcz77_14 hcz77_15 hcz77_2 hcz77_3 hcz77_4 hcz77_5 hcz77_6 hcz77_7 hcz77_8 hcz77_9)
   (try clear hcz78_0 hcz78_1 hcz78_2 hcz78_3 hcz78_4 hcz78_5 hcz78_6)
   (try clear hcz80_0 hcz80_1 hcz80_10 hcz80_11 hcz80_12 hcz80_13 hcz80_14 hcz80_15 hcz80_2 hcz80_3 hcz80_4 hcz80_5 hcz80_6 hcz80_7 hcz80_8 hcz80_9)
   (try clear hcz82_0 hcz82_1 hcz82_10 hcz82_11 hcz82_12 hcz82_13 hcz82_14 hcz82_15 hcz82_2 hcz82_3 hcz82_4 hcz82_5 hcz82_6 hcz82_7 hcz82_8 hcz82_9)
   (try clear hcz83_0 hcz83_1 hcz83_2 hcz83_3 hcz83_4 hcz83_5 hcz83_6)
   (try clear hcz85_0 hcz85_1 hcz85_10 hcz85_11 hcz85_12 hcz85_13 hcz85_14 hcz85_15 hcz85_2 hcz85_3 hcz85_4 hcz85_5 hcz85_6 hcz85_7 hcz85_8 hcz85_9)
   (try clear hcz86_0 hcz86_1 hcz86_2 hcz86_3 hcz86_4 hcz86_5 hcz86_6)
   (try clear hcz88_0 hcz88_1 hcz88_10 hcz88_11 hcz88_12 hcz88_13 hcz88_14 hcz88_15 hcz88_2 hcz88_3 hcz88_4 hcz88_5 hcz88_6 hcz88_7 hcz88_8 hcz88_9)
   (try clear hcz89_0 hcz89_1 hcz89_2 hcz89_3 hcz89_4 hcz89_5 hcz89_6)
   (try clear hcz92_0 hcz92_1 hcz92_10 hcz92_11 hcz92_12 hcz92_13 hcz92_14 hcz92_15 hcz92_2 hcz92_3 hcz92_4 hcz92_5 hcz92_6 hcz92_7 hcz92_8 hcz92_9)
   (try clear hfz68_0 hfz68_1 hfz68_10 hfz68_11 hfz68_12 hfz68_13 hfz68_14 hfz68_15 hfz68_2 hfz68_3 hfz68_4 hfz68_5 hfz68_6 hfz68_7 hfz68_8 hfz68_9)
   (try clear hfz71_0 hfz71_1 hfz71_2 hfz71_3 hfz71_4 hfz71_5 hfz71_6)
   (try clear hfz77_0 hfz77_1 hfz77_10 hfz77_11 hfz77_12 hfz77_13 hfz77_14 hfz77_15 hfz77_2 hfz77_3 hfz77_4 hfz77_5 hfz77_6 hfz77_7 hfz77_8 hfz77_9)
   (try clear hfz78_0 hfz78_1 hfz78_2 hfz78_3 hfz78_4 hfz78_5 hfz78_6)
   (try clear hfz80_0 hfz80_1 hfz80_10 hfz80_11 hfz80_12 hfz80_13 hfz80_14 hfz80_15 hfz80_2 hfz80_3 hfz80_4 hfz80_5 hfz80_6 hfz80_7 hfz80_8 hfz80_9)
   (try clear hfz82_0 hfz82_1 hfz82_10 hfz82_11 hfz82_12 hfz82_13 hfz82_14 hfz82_15 hfz82_2 hfz82_3 hfz82_4 hfz82_5 hfz82_6 hfz82_7 hfz82_8 hfz82_9)
   (try clear hfz83_0 hfz83_1 hfz83_2 hfz83_3 hfz83_4 hfz83_5 hfz83_6)
   (try clear hfz85_0 hfz85_1 hfz85_10 hfz85_11 hfz85_12 hfz85_13 hfz85_14 hfz85_15 hfz85_2 hfz85_3 hfz85_4 hfz85_5 hfz85_6 hfz85_7 hfz85_8 hfz85_9)
   (try clear hfz86_0 hfz86_1 hfz86_2 hfz86_3 hfz86_4 hfz86_5 hfz86_6)
   (try clear hfz88_0 hfz88_1 hfz88_10 hfz88_11 hfz88_12 hfz88_13 hfz88_14 hfz88_15 hfz88_2 hfz88_3 hfz88_4 hfz88_5 hfz88_6 hfz88_7 hfz88_8 hfz88_9)
   (try clear hfz89_0 hfz89_1 hfz89_2 hfz89_3 hfz89_4 hfz89_5 hfz89_6)
   (try clear hfz92_0 hfz92_1 hfz92_10 hfz92_11 hfz92_12 hfz92_13 hfz92_14 hfz92_15 hfz92_2 hfz92_3 hfz92_4 hfz92_5 hfz92_6 hfz92_7 hfz92_8 hfz92_9)
   obtain ⟨kq, x83_66, rfl, HA, HJ66, BK153, BK195, HB⟩ := hcut
   cases kq with
   | zero => exact absurd HA.out (by simp [spec_PutItem.j1])
   | succ kj66 =>
    have H := HA.out
    clear HA
    simp only [spec_PutItem.j1] at H
    by_cases c93 : x83_66 = true
    ·
     subst c93
     have H1 : (some (([] : List Int))) = some r := by rw [if_pos rfl] at H; exact H
     clear H
     have H := H1
     clear H1
     obtain ⟨y197, hy197⟩ : ∃ y_ : List Int, y_ = (([] : List Int)) := ⟨_, rfl⟩
     replace H : (some y197) = some r := by first | (rw [hy197]; with_reducible exact H) | (have H2_ := (Option.bind_some _ _).symm.trans H; rw [hy197]; with_reducible exact H2_) | (have H2_ := (Option.bind_some _ _).symm.trans H; with_reducible exact H2_) | with_reducible exact H | (rw [hy197]; exact H) | exact H
     have Ny197 := Aside0.mk hy197
     clear hy197
     obtain rfl := Option.some.inj H
     go_wp2_with (first | ((with_reducible refine gate_dst (N := 84) rfl ?_); refine Kd.R_lit (Kd.int .u8) _ 5 ?hg (N := 84) ?hd (xs := ([] : List Int)) (inner := []) (ok := fun _ => True) (okp := fun _ => True) ?hr ?hp (fun _ hk => hk) trivial (Below.refl _ _) (Nat.le_refl _) (by simp) ?_; (case hd => rfl); (case hg => rfl); (case hr => first | (go_simp; done) | (go_simp; rfl)); (case hp => exact (Reps.none _ _)); intro v198 w94 ho95 hb hg_ hnew_; clear hg_ hnew_; (first | rw [← Ny197.out] at ho95 | (simp only [Int.reduceToNat] at ho95; rw [← Ny197.out] at ho95)); have HO199 := am_ (Kd.R_lower ho95 (below_size (qB HB))); replace BK153 := am_ (blk_below (qK BK153) hb); replace BK195 := am_ (blk_below (qK BK195) hb); replace HB := am_ (below_step (qB HB) hb); clear hb ho95))
     go_ret
     exact ⟨_, by first | rfl | (simp [errW_none, errW_some] <;> rfl) | (simp [*, errW_none, errW_some] <;> rfl), qR HO199, qB HB⟩
    ·
     replace c93 := Bool.eq_false_iff.mpr c93
     subst c93
     have H1 : ((spec_PutWord.f (([2] : List Int)) a0_9).bind fun t203 => ((some (([(a0_12) % 256] : List Int) : List Int)).bind fun y206 => (if t203.length + y206.length < 140737488355328 then ((spec_PutText.f kj66 (t203 ++ y206) a0_10).bind fun t212 => ((spec_PutWord.f t212 a0_11).bind fun t215 => ((spec_PutWord.f t215 (wrap64 (Int.tdiv a0_13 256))).bind fun t218 => ((some (([(Int.tmod a0_13 256) % 256] : List Int) : List Int)).bind fun y221 => (if t218.length + y221.length < 140737488355328 then ((spec_PutWord.f (t218 ++ y221) a0_14).bind fun t227 => ((spec_PutWord.f t227 a0_15).bind fun t230 => (some t230))) else (none)))))) else (none)))) = some r := by rw [if_neg (show ¬ (false = true) by decide)] at H; exact H
     clear H
     have H := H1
     clear H1
     obtain ⟨y200, hy200⟩ : ∃ y_ : List Int, y_ = (([2] : List Int)) := ⟨_, rfl⟩
     replace H : ((spec_PutWord.f y200 a0_9).bind fun t203 => ((some (([(a0_12) % 256] : List Int) : List Int)).bind fun y206 => (if t203.length + y206.length < 140737488355328 then ((spec_PutText.f kj66 (t203 ++ y206) a0_10).bind fun t212 => ((spec_PutWord.f t212 a0_11).bind fun t215 => ((spec_PutWord.f t215 (wrap64 (Int.tdiv a0_13 256))).bind fun t218 => ((some (([(Int.tmod a0_13 256) % 256] : List Int) : List Int)).bind fun y221 => (if t218.length + y221.length < 140737488355328 then ((spec_PutWord.f (t218 ++ y221) a0_14).bind fun t227 => ((spec_PutWord.f t227 a0_15).bind fun t230 => (some t230))) else (none)))))) else (none)))) = some r := by first | (rw [hy200]; with_reducible exact H) | (have H2_ := (Option.bind_some _ _).symm.trans H; rw [hy200]; with_reducible exact H2_) | (have H2_ := (Option.bind_some _ _).symm.trans H; with_reducible exact H2_) | with_reducible exact H | (rw [hy200]; exact H) | exact H
     have Ny200 := Aside0.mk hy200
     clear hy200
     replace H := Option.bind_eq_some_iff.mp H
     obtain ⟨t203, A960, H⟩ := H
     replace H : ((some (([(a0_12) % 256] : List Int) : List Int)).bind fun y206 => (if t203.length + y206.length < 140737488355328 then ((spec_PutText.f kj66 (t203 ++ y206) a0_10).bind fun t212 => ((spec_PutWord.f t212 a0_11).bind fun t215 => ((spec_PutWord.f t215 (wrap64 (Int.tdiv a0_13 256))).bind fun t218 => ((some (([(Int.tmod a0_13 256) % 256] : List Int) : List Int)).bind fun y221 => (if t218.length + y221.length < 140737488355328 then ((spec_PutWord.f (t218 ++ y221) a0_14).bind fun t227 => ((spec_PutWord.f t227 a0_15).bind fun t230 => (some t230))) else (none)))))) else (none))) = some r := H
     have A96 := Aside0.mk A960
     clear A960
     obtain ⟨y206, hy206⟩ : ∃ y_ : List Int, y_ = (([(a0_12) % 256] : List Int)) := ⟨_, rfl⟩
     replace H : (if t203.length + y206.length < 140737488355328 then ((spec_PutText.f kj66 (t203 ++ y206) a0_10).bind fun t212 => ((spec_PutWord.f t212 a0_11).bind fun t215 => ((spec_PutWord.f t215 (wrap64 (Int.tdiv a0_13 256))).bind fun t218 => ((some (([(Int.tmod a0_13 256) % 256] : List Int) : List Int)).bind fun y221 => (if t218.length + y221.length < 140737488355328 then ((spec_PutWord.f (t218 ++ y221) a0_14).bind fun t227 => ((spec_PutWord.f t227 a0_15).bind fun t230 => (some t230))) else (none)))))) else (none)) = some r := by first | (rw [hy206]; with_reducible exact H) | (have H2_ := (Option.bind_some _ _).symm.trans H; rw [hy206]; with_reducible exact H2_) | (have H2_ := (Option.bind_some _ _).symm.trans H; with_reducible exact H2_) | with_reducible exact H | (rw [hy206]; exact H) | exact H
     have Ny206 := Aside0.mk hy206
     clear hy206
     by_cases c97 : t203.length + y206.length < 140737488355328
     ·
      rw [if_pos c97] at H
      have LMc97 := Aside0.mk c97
      clear c97
      obtain ⟨y209, hy209⟩ : ∃ y_ : List Int, y_ = (t203 ++ y206) := ⟨_, rfl⟩
      replace H : ((spec_PutText.f kj66 y209 a0_10).bind fun t212 => ((spec_PutWord.f t212 a0_11).bind fun t215 => ((spec_PutWord.f t215 (wrap64 (Int.tdiv a0_13 256))).bind fun t218 => ((some (([(Int.tmod a0_13 256) % 256] : List Int) : List Int)).bind fun y221 => (if t218.length + y221.length < 140737488355328 then ((spec_PutWord.f (t218 ++ y221) a0_14).bind fun t227 => ((spec_PutWord.f t227 a0_15).bind fun t230 => (some t230))) else (none)))))) = some r := by first | (rw [hy209]; with_reducible exact H) | (have H2_ := (Option.bind_some _ _).symm.trans H; rw [hy209]; with_reducible exact H2_) | (have H2_ := (Option.bind_some _ _).symm.trans H; with_reducible exact H2_) | with_reducible exact H | (rw [hy209]; exact H) | exact H
      have Ny209 := Aside0.mk hy209
      clear hy209
      replace H := Option.bind_eq_some_iff.mp H
      obtain ⟨t212, A980, H⟩ := H
      replace H : ((spec_PutWord.f t212 a0_11).bind fun t215 => ((spec_PutWord.f t215 (wrap64 (Int.tdiv a0_13 256))).bind fun t218 => ((some (([(Int.tmod a0_13 256) % 256] : List Int) : List Int)).bind fun y221 => (if t218.length + y221.length < 140737488355328 then ((spec_PutWord.f (t218 ++ y221) a0_14).bind fun t227 => ((spec_PutWord.f t227 a0_15).bind fun t230 => (some t230))) else (none))))) = some r := H
      have A98 := Aside0.mk A980
      clear A980
      replace H := Option.bind_eq_some_iff.mp H
      obtain ⟨t215, A990, H⟩ := H
      replace H : ((spec_PutWord.f t215 (wrap64 (Int.tdiv a0_13 256))).bind fun t218 => ((some (([(Int.tmod a0_13 256) % 256] : List Int) : List Int)).bind fun y221 => (if t218.length + y221.length < 140737488355328 then ((spec_PutWord.f (t218 ++ y221) a0_14).bind fun t227 => ((spec_PutWord.f t227 a0_15).bind fun t230 => (some t230))) else (none)))) = some r := H
      have A99 := Aside0.mk A990
      clear A990
      replace H := Option.bind_eq_some_iff.mp H
      obtain ⟨t218, A1000, H⟩ := H
      replace H : ((some (([(Int.tmod a0_13 256) % 256] : List Int) : List Int)).bind fun y221 => (if t218.length + y221.length < 140737488355328 then ((spec_PutWord.f (t218 ++ y221) a0_14).bind fun t227 => ((spec_PutWord.f t227 a0_15).bind fun t230 => (some t230))) else (none))) = some r := H
      have A100 := Aside0.mk A1000
      clear A1000
      obtain ⟨y221, hy221⟩ : ∃ y_ : List Int, y_ = (([(Int.tmod a0_13 256) % 256] : List Int)) := ⟨_, rfl⟩
      replace H : (if t218.length + y221.length < 140737488355328 then ((spec_PutWord.f (t218 ++ y221) a0_14).bind fun t227 => ((spec_PutWord.f t227 a0_15).bind fun t230 => (some t230))) else (none)) = some r := by first | (rw [hy221]; with_reducible exact H) | (have H2_ := (Option.bind_some _ _).symm.trans H; rw [hy221]; with_reducible exact H2_) | (have H2_ := (Option.bind_some _ _).symm.trans H; with_reducible exact H2_) | with_reducible exact H | (rw [hy221]; exact H) | exact H
      have Ny221 := Aside0.mk hy221
      clear hy221
      by_cases c101 : t218.length + y221.length < 140737488355328
      ·
       rw [if_pos c101] at H
       have LMc101 := Aside0.mk c101
       clear c101
       obtain ⟨y224, hy224⟩ : ∃ y_ : List Int, y_ = (t218 ++ y221) := ⟨_, rfl⟩
       replace H : ((spec_PutWord.f y224 a0_14).bind fun t227 => ((spec_PutWord.f t227 a0_15).bind fun t230 => (some t230))) = some r := by first | (rw [hy224]; with_reducible exact H) | (have H2_ := (Option.bind_some _ _).symm.trans H; rw [hy224]; with_reducible exact H2_) | (have H2_ := (Option.bind_some _ _).symm.trans H; with_reducible exact H2_) | with_reducible exact H | (rw [hy224]; exact H) | exact H
       have Ny224 := Aside0.mk hy224
       clear hy224
       replace H := Option.bind_eq_some_iff.mp H
       obtain ⟨t227, A1020, H⟩ := H
       replace H : ((spec_PutWord.f t227 a0_15).bind fun t230 => (some t230)) = some r := H
       have A102 := Aside0.mk A1020
       clear A1020
       replace H := Option.bind_eq_some_iff.mp H
       obtain ⟨t230, A1030, H⟩ := H
       replace H : (some t230) = some r := H
       have A103 := Aside0.mk A1030
       clear A1030
       obtain rfl := Option.some.inj H
       try go_wp2
       replace BK153 := am_ (blk_drew BK153.out)
       replace BK195 := am_ (blk_drew BK195.out)
       replace HB := am_ (below_drew1 HB.out)
       refine start_ (n := 16) (S := fun w' => w'.cell? ⟨gb195, 0, none⟩ = some (.int .i64 a0_9) ∧ w'.cell? ⟨gb195, 1, none⟩ = some (.string a0_10) ∧ w'.cell? ⟨gb195, 2, none⟩ = some (.int .i64 a0_11) ∧ w'.cell? ⟨gb195, 3, none⟩ = some (.int .i64 a0_12) ∧ w'.cell? ⟨gb195, 4, none⟩ = some (.int .i64 a0_13) ∧ w'.cell? ⟨gb195, 5, none⟩ = some (.int .i64 a0_14) ∧ w'.cell? ⟨gb195, 6, none⟩ = some (.int .i64 a0_15)) (ds := []) #[false, false, false, false, false, false, false, false, false, false, false, false, false, false, false, false] (by kernel_rfl) rfl rfl (cz7 BK195.out) (fun hHeld => ?_); refine with_tabW spec_PutItem.tab11 spec_PutItem.bits11 (fun HT_ HW_ => ?_)
       generalize wc.drew = w104 at BK153 BK195 HB hHeld ⊢
       refine pure_ (i := 1) (N := some 86) (v := ?_) (a' := ?_) #[false, true, false, false, false, false, false, false, false, false, false, false, false, false, false, false] rfl rfl (any_of HT_.out (by kernel_rfl)) (fun _ _ _ h => h) (Or.inl ⟨by rfl, ?_⟩) ?_ ?_
       rotate_left
       ·
        intro w'
        go_simp
        with_reducible rfl
       rotate_left
       ·
        simp only [Act.put, List.setIfInBounds_toArray, List.set_cons_zero, List.set_cons_succ, i64_w, i32_w]
        rfl
       refine pure_ (i := 4) (N := some 89) (v := ?_) (a' := ?_) #[false, true, false, false, true, false, false, false, false, false, false, false, false, false, false, false] rfl rfl (any_of HT_.out (by kernel_rfl)) (fun _ _ _ h => h) (Or.inl ⟨by rfl, ?_⟩) ?_ ?_
       rotate_left
       ·
        intro w'
        go_simp
        with_reducible rfl
       rotate_left
       ·
        simp only [Act.put, List.setIfInBounds_toArray, List.set_cons_zero, List.set_cons_succ, i64_w, i32_w]
        rfl
       refine pure_ (i := 9) (N := some 94) (v := ?_) (a' := ?_) #[false, true, false, false, true, false, false, false, false, true, false, false, false, false, false, false] rfl rfl (any_of HT_.out (by kernel_rfl)) (fun _ _ _ h => h) (Or.inl ⟨by rfl, ?_⟩) ?_ ?_
       rotate_left
       ·
        intro w'
        go_simp
        with_reducible rfl
       rotate_left
       ·
        simp only [Act.put, List.setIfInBounds_toArray, List.set_cons_zero, List.set_cons_succ, i64_w, i32_w]
        rfl
       refine pure_ (i := 12) (N := some 97) (v := ?_) (a' := ?_) #[false, true, false, false, true, false, false, false, false, true, false, false, true, false, false, false] rfl rfl (any_of HT_.out (by kernel_rfl)) (fun _ _ _ h => h) (Or.inl ⟨by rfl, ?_⟩) ?_ ?_
       rotate_left
       ·
        intro w'
        go_simp
        with_reducible rfl
       rotate_left
       ·
        simp only [Act.put, List.setIfInBounds_toArray, List.set_cons_zero, List.set_cons_succ, i64_w, i32_w]
        rfl
       refine take_ (i := 2) (N := some 87) (v := ?_) (a' := ?_) #[false, true, true, false, true, false, false, false, false, true, false, false, true, false, false, false] rfl rfl (take_ofW HT_.out HW_.out (by kernel_rfl)) (fun _ _ _ h => h) (Or.inl ⟨by rfl, ?_⟩) hHeld ?_ ?_
       rotate_left
       ·
        rintro w' ⟨s0, s1, s2, s3, s4, s5, s6⟩
        go_simp
        with_reducible rfl
       rotate_left
       ·
        simp only [Act.put, List.setIfInBounds_toArray, List.set_cons_zero, List.set_cons_succ, i64_w, i32_w]
        rfl
       refine take_ (i := 5) (N := some 90) (v := ?_) (a' := ?_) #[false, true, true, false, true, true, false, false, false, true, false, false, true, false, false, false] rfl rfl (take_ofW HT_.out HW_.out (by kernel_rfl)) (fun _ _ _ h => h) (Or.inl ⟨by rfl, ?_⟩) hHeld ?_ ?_
       rotate_left
       ·
        rintro w' ⟨s0, s1, s2, s3, s4, s5, s6⟩
        go_simp
        with_reducible rfl
       rotate_left
       ·
        simp only [Act.put, List.setIfInBounds_toArray, List.set_cons_zero, List.set_cons_succ, i64_w, i32_w]
        rfl
       refine pure_ (i := 6) (N := some 91) (v := ?_) (a' := ?_) #[false, true, true, false, true, true, true, false, false, true, false, false, true, false, false, false] rfl rfl (any_of HT_.out (by kernel_rfl)) (fun _ _ _ h => h) (Or.inl ⟨by rfl, ?_⟩) ?_ ?_
       rotate_left
       ·
        intro w'
        go_simp
        with_reducible rfl
       rotate_left
       ·
        simp only [Act.put, List.setIfInBounds_toArray, List.set_cons_zero, List.set_cons_succ, i64_w, i32_w]
        rfl
       refine take_ (i := 10) (N := some 95) (v := ?_) (a' := ?_) #[false, true, true, false, true, true, true, false, false, true, true, false, true, false, false, false] rfl rfl (take_ofW HT_.out HW_.out (by kernel_rfl)) (fun _ _ _ h => h) (Or.inl ⟨by rfl, ?_⟩) hHeld ?_ ?_
       rotate_left
       ·
        rintro w' ⟨s0, s1, s2, s3, s4, s5, s6⟩
        go_simp
        with_reducible rfl
       rotate_left
       ·
        simp only [Act.put, List.setIfInBounds_toArray, List.set_cons_zero, List.set_cons_succ, i64_w, i32_w]
        rfl
       refine take_ (i := 13) (N := some 98) (v := ?_) (a' := ?_) #[false, true, true, false, true, true, true, false, false, true, true, false, true, true, false, false] rfl rfl (take_ofW HT_.out HW_.out (by kernel_rfl)) (fun _ _ _ h => h) (Or.inl ⟨by rfl, ?_⟩) hHeld ?_ ?_
       rotate_left
       ·
        rintro w' ⟨s0, s1, s2, s3, s4, s5, s6⟩
        go_simp
        with_reducible rfl
       rotate_left
       ·
        simp only [Act.put, List.setIfInBounds_toArray, List.set_cons_zero, List.set_cons_succ, i64_w, i32_w]
        rfl
       refine join_ (σ := Value × Value × Value) 4 #[true, true, true, true, true, true, true, true, false, true, true, false, true, true, false, false] (fun s_ => [(85, s_.1), (88, s_.2.1), (92, s_.2.2)]) (fun s_ w' => (w'.cell? ⟨gb195, 0, none⟩ = some (.int .i64 a0_9) ∧ w'.cell? ⟨gb195, 1, none⟩ = some (.string a0_10) ∧ w'.cell? ⟨gb195, 2, none⟩ = some (.int .i64 a0_11) ∧ w'.cell? ⟨gb195, 3, none⟩ = some (.int .i64 a0_12) ∧ w'.cell? ⟨gb195, 4, none⟩ = some (.int .i64 a0_13) ∧ w'.cell? ⟨gb195, 5, none⟩ = some (.int .i64 a0_14) ∧ w'.cell? ⟨gb195, 6, none⟩ = some (.int .i64 a0_15)) ∧ (Kd.R (Kd.int .u8) 5 w' w.heap.size (fun k_ => some k_ ≠ (s_.2.1 : Value).ownBlock ∧ some k_ ≠ (s_.2.2 : Value).ownBlock) s_.1 y200) ∧ (Kd.R (Kd.int .u8) 5 w' w.heap.size (fun k_ => some k_ ≠ (s_.1 : Value).ownBlock ∧ some k_ ≠ (s_.2.2 : Value).ownBlock) s_.2.1 t203) ∧ (Kd.R (Kd.int .u8) 5 w' w.heap.size (fun k_ => some k_ ≠ (s_.1 : Value).ownBlock ∧ some k_ ≠ (s_.2.1 : Value).ownBlock) s_.2.2 y206) ∧ (w'.heap[gb153]? = some (.cells #[.int .i64 a0_0, .int .i64 a0_1, .string a0_2, .int .i64 a0_3, .int .i64 a0_4, .int .i64 a0_5, .string a0_6, .int .i64 a0_7, .int .i64 a0_8, .int .i64 a0_9, .string a0_10, .int .i64 a0_11, .int .i64 a0_12, .int .i64 a0_13, .int .i64 a0_14, .int .i64 a0_15] 48 (0, 0))) ∧ (w'.heap[gb195]? = some (.cells #[.int .i64 a0_9, .string a0_10, .int .i64 a0_11, .int .i64 a0_12, .int .i64 a0_13, .int .i64 a0_14, .int .i64 a0_15] 46 (0, 0))) ∧ (Below w.heap.size w w')) ?_ ?_
       rotate_left
       ·
        intro hCont
        refine two_ (i := 0) (j := 7) (Ni := some 85) (Nj := some 92) #[true, true, true, false, true, true, true, false, false, true, true, false, true, true, false, false] #[false, true, true, false, true, true, true, true, false, true, true, false, true, true, false, false] rfl rfl rfl rfl (two_of HT_.out (by kernel_rfl)) (by decide) (by decide) (fun K hK => ?_) (fun K hK => ?_)
        ·
         skip
         refine Kd.R_lit_step (Kd.int .u8) _ 5 ?hg (N := 85) ?hd (xs := ([2] : List Int)) (inner := [.int .u8 2]) (ok := fun _ => True) (okp := fun _ => True) ?hr ?hp (fun _ hk => hk) trivial (Below.refl _ _) (Nat.le_refl _) (by simp) ?_; (case hd => rfl); (case hg => rfl); (case hr => first | (go_simp; done) | (go_simp; rfl)); (case hp => exact (Reps.one (show Kd.M (Kd.int .u8) _ _ _ 2 [.int .u8 2] from rfl) (Reps.none _ _)))
         intro v201 w105 ho106 hb hg_ hnew_
         clear hg_ hnew_
         (first | rw [← Ny200.out] at ho106 | (simp only [Int.reduceToNat] at ho106; rw [← Ny200.out] at ho106))
         have HO202 := am_ (Kd.R_lower ho106 (below_size (qB HB)))
         replace BK153 := am_ (blk_below (qK BK153) hb)
         replace BK195 := am_ (blk_below (qK BK195) hb)
         replace HB := am_ (below_step (qB HB) hb)
         clear hb ho106
         obtain ⟨Ao107, co107, eo107⟩ := Kd.R_slice HO202.out
         (first | subst eo107 | (injection eo107 with f1_ f2_ f3_; have f4_ := f1_.symm; have f5_ := f3_.symm; clear f1_ f2_ f3_; subst f4_; subst f5_))
         refine hK.out _ _ (cz7 BK195.out) (fun hHeld => ?_)
         clear hK K
         refine norm_ (a' := ?_) ?_ ?_
         rotate_left
         ·
          show Act.put _ (some 85) _ = _
          simp only [Act.put, List.setIfInBounds_toArray, List.set_cons_zero, List.set_cons_succ, i64_w, i32_w]
          rfl
         refine two_ (i := 3) (j := 7) (Ni := some 88) (Nj := some 92) #[true, true, true, true, true, true, true, false, false, true, true, false, true, true, false, false] #[true, true, true, false, true, true, true, true, false, true, true, false, true, true, false, false] rfl rfl rfl rfl (two_of HT_.out (by kernel_rfl)) (by decide) (by decide) (fun K hK => ?_) (fun K hK => ?_)
         ·
          skip
          refine goes_ Try.func75 (by kernel_rfl) rfl #[.slice Ao107 y200.length co107, .int .i64 a0_9] (by rfl) rfl rfl (by (try simp only [List.map_toArray, List.map_cons, List.map_nil]); first | done | rfl | (simp only [List.length_drop, List.length_take]; rfl)) ?_
          with_reducible refine (spec_PutWord.calls _ _ y200 a0_9 t203 _ ?side1 ?side2 A96.out).mono ?_
          (case side1 => exact qC ((Kd.R_reads' HO202.out).2.2))
          (case side2 => exact (Kd.R_reads' HO202.out).2.1)
          rintro e w108 ⟨v204, rfl, ho0, hb⟩
          refine ⟨_, rfl, ?_⟩
          have HO205 := am_ (Kd.R_lower (Kd.R_new' ho0 (Kd.R_lt (qR HO202))) (below_size (qB HB)))
          replace HO202 := am_ (Kd.R_elder' (qR HO202) (Kd.R_base ho0) hb)
          replace BK153 := am_ (blk_below (qK BK153) hb)
          replace BK195 := am_ (blk_below (qK BK195) hb)
          replace HB := am_ (below_step (qB HB) hb)
          (try clear hb ho0)
          refine hK.out _ _ (cz7 BK195.out) (fun hHeld => ?_)
          clear hK K
          refine norm_ (a' := ?_) ?_ ?_
          rotate_left
          ·
           show Act.put _ (some 88) _ = _
           simp only [Act.put, List.setIfInBounds_toArray, List.set_cons_zero, List.set_cons_succ, i64_w, i32_w]
           rfl
          refine one_ (i := 7) (N := some 92) #[true, true, true, true, true, true, true, true, false, true, true, false, true, true, false, false] rfl rfl (one_of HT_.out (by kernel_rfl)) (by decide) (fun K hK => ?_)
          refine Kd.R_lit_step (Kd.int .u8) _ 5 ?hg (N := 92) ?hd (xs := ([(a0_12) % 256] : List Int)) (inner := [.int .u8 ((a0_12) % 256)]) (ok := fun _ => True) (okp := fun _ => True) ?hr ?hp (fun _ hk => hk) trivial (Below.refl _ _) (Nat.le_refl _) (by simp) ?_; (case hd => rfl); (case hg => rfl); (case hr => first | (go_simp; done) | (go_simp; rfl)); (case hp => exact (Reps.one (show Kd.M (Kd.int .u8) _ _ _ ((a0_12) % 256) [.int .u8 ((a0_12) % 256)] from rfl) (Reps.none _ _)))
          intro v207 w109 ho110 hb hg_ hnew_
          clear hg_ hnew_
          (first | rw [← Ny206.out] at ho110 | (simp only [Int.reduceToNat] at ho110; rw [← Ny206.out] at ho110))
          have HO208 := am_ (Kd.R_lower (Kd.R_new' (Kd.R_new' ho110 (Kd.R_lt (qR HO202))) (Kd.R_lt (qR HO205))) (below_size (qB HB)))
          replace HO202 := am_ (Kd.R_elder' (qR HO202) (Kd.R_base ho110) hb)
          replace HO205 := am_ (Kd.R_elder' (qR HO205) (Kd.R_base ho110) hb)
          replace BK153 := am_ (blk_below (qK BK153) hb)
          replace BK195 := am_ (blk_below (qK BK195) hb)
          replace HB := am_ (below_step (qB HB) hb)
          clear hb ho110
          refine hK.out _ _ (cz7 BK195.out) (fun hHeld => ?_)
          clear hK K
          refine norm_ (a' := ?_) ?_ ?_
          rotate_left
          ·
           show Act.put _ (some 92) _ = _
           simp only [Act.put, List.setIfInBounds_toArray, List.set_cons_zero, List.set_cons_succ, i64_w, i32_w]
           rfl
          exact norm_ (by simp only [putAll, Act.put, List.setIfInBounds_toArray, List.set_cons_zero, List.set_cons_succ]) (hCont (.slice Ao107 y200.length co107, v204, v207) _ ⟨hHeld, (tR (Kd.R_mono HO202.out (fun _ hk => ⟨hk.1.2, hk.2⟩))), (tR (Kd.R_mono HO205.out (fun _ hk => ⟨hk.1.2, hk.2⟩))), (tR (Kd.R_mono HO208.out (fun _ hk => ⟨hk.1.2, hk.2⟩))), (qK BK153), (qK BK195), (qB HB)⟩)
         ·
          skip
          refine Kd.R_lit_step (Kd.int .u8) _ 5 ?hg (N := 92) ?hd (xs := ([(a0_12) % 256] : List Int)) (inner := [.int .u8 ((a0_12) % 256)]) (ok := fun _ => True) (okp := fun _ => True) ?hr ?hp (fun _ hk => hk) trivial (Below.refl _ _) (Nat.le_refl _) (by simp) ?_; (case hd => rfl); (case hg => rfl); (case hr => first | (go_simp; done) | (go_simp; rfl)); (case hp => exact (Reps.one (show Kd.M (Kd.int .u8) _ _ _ ((a0_12) % 256) [.int .u8 ((a0_12) % 256)] from rfl) (Reps.none _ _)))
          intro v207 w107 ho108 hb hg_ hnew_
          clear hg_ hnew_
          (first | rw [← Ny206.out] at ho108 | (simp only [Int.reduceToNat] at ho108; rw [← Ny206.out] at ho108))
          have HO208 := am_ (Kd.R_lower (Kd.R_new' ho108 (Kd.R_lt (qR HO202))) (below_size (qB HB)))
          replace HO202 := am_ (Kd.R_elder' (qR HO202) (Kd.R_base ho108) hb)
          replace BK153 := am_ (blk_below (qK BK153) hb)
          replace BK195 := am_ (blk_below (qK BK195) hb)
          replace HB := am_ (below_step (qB HB) hb)
          clear hb ho108
          obtain ⟨Ao109, co109, eo109⟩ := Kd.R_slice HO202.out
          (first | subst eo109 | (injection eo109 with f1_ f2_ f3_; have f4_ := f1_.symm; have f5_ := f3_.symm; clear f1_ f2_ f3_; subst f4_; subst f5_))
          refine hK.out _ _ (cz7 BK195.out) (fun hHeld => ?_)
          clear hK K
          refine norm_ (a' := ?_) ?_ ?_
          rotate_left
          ·
           show Act.put _ (some 92) _ = _
           simp only [Act.put, List.setIfInBounds_toArray, List.set_cons_zero, List.set_cons_succ, i64_w, i32_w]
           rfl
          refine one_ (i := 3) (N := some 88) #[true, true, true, true, true, true, true, true, false, true, true, false, true, true, false, false] rfl rfl (one_of HT_.out (by kernel_rfl)) (by decide) (fun K hK => ?_)
          refine goes_ Try.func75 (by kernel_rfl) rfl #[.slice Ao109 y200.length co109, .int .i64 a0_9] (by rfl) rfl rfl (by (try simp only [List.map_toArray, List.map_cons, List.map_nil]); first | done | rfl | (simp only [List.length_drop, List.length_take]; rfl)) ?_
          with_reducible refine (spec_PutWord.calls _ _ y200 a0_9 t203 _ ?side1 ?side2 A96.out).mono ?_
          (case side1 => exact qC ((Kd.R_reads' HO202.out).2.2))
          (case side2 => exact (Kd.R_reads' HO202.out).2.1)
          rintro e w110 ⟨v204, rfl, ho0, hb⟩
          refine ⟨_, rfl, ?_⟩
          have HO205 := am_ (Kd.R_lower (Kd.R_new' (Kd.R_new' ho0 (Kd.R_lt (qR HO202))) (Kd.R_lt (qR HO208))) (below_size (qB HB)))
          replace HO202 := am_ (Kd.R_elder' (qR HO202) (Kd.R_base ho0) hb)
          replace HO208 := am_ (Kd.R_elder' (qR HO208) (Kd.R_base ho0) hb)
          replace BK153 := am_ (blk_below (qK BK153) hb)
          replace BK195 := am_ (blk_below (qK BK195) hb)
          replace HB := am_ (below_step (qB HB) hb)
          (try clear hb ho0)
          refine hK.out _ _ (cz7 BK195.out) (fun hHeld => ?_)
          clear hK K
          refine norm_ (a' := ?_) ?_ ?_
          rotate_left
          ·
           show Act.put _ (some 88) _ = _
           simp only [Act.put, List.setIfInBounds_toArray, List.set_cons_zero, List.set_cons_succ, i64_w, i32_w]
           rfl
          exact norm_ (by simp only [putAll, Act.put, List.setIfInBounds_toArray, List.set_cons_zero, List.set_cons_succ]) (hCont (.slice Ao109 y200.length co109, v204, v207) _ ⟨hHeld, (tR (Kd.R_mono HO202.out (fun _ hk => ⟨hk.2, hk.1.2⟩))), (tR (Kd.R_mono HO205.out (fun _ hk => ⟨hk.1.2, hk.2⟩))), (tR (Kd.R_mono HO208.out (fun _ hk => ⟨hk.1.2, hk.2⟩))), (qK BK153), (qK BK195), (qB HB)⟩)
        ·
         skip
         refine Kd.R_lit_step (Kd.int .u8) _ 5 ?hg (N := 92) ?hd (xs := ([(a0_12) % 256] : List Int)) (inner := [.int .u8 ((a0_12) % 256)]) (ok := fun _ => True) (okp := fun _ => True) ?hr ?hp (fun _ hk => hk) trivial (Below.refl _ _) (Nat.le_refl _) (by simp) ?_; (case hd => rfl); (case hg => rfl); (case hr => first | (go_simp; done) | (go_simp; rfl)); (case hp => exact (Reps.one (show Kd.M (Kd.int .u8) _ _ _ ((a0_12) % 256) [.int .u8 ((a0_12) % 256)] from rfl) (Reps.none _ _)))
         intro v207 w105 ho106 hb hg_ hnew_
         clear hg_ hnew_
         (first | rw [← Ny206.out] at ho106 | (simp only [Int.reduceToNat] at ho106; rw [← Ny206.out] at ho106))
         have HO208 := am_ (Kd.R_lower ho106 (below_size (qB HB)))
         replace BK153 := am_ (blk_below (qK BK153) hb)
         replace BK195 := am_ (blk_below (qK BK195) hb)
         replace HB := am_ (below_step (qB HB) hb)
         clear hb ho106
         refine hK.out _ _ (cz7 BK195.out) (fun hHeld => ?_)
         clear hK K
         refine norm_ (a' := ?_) ?_ ?_
         rotate_left
         ·
          show Act.put _ (some 92) _ = _
          simp only [Act.put, List.setIfInBounds_toArray, List.set_cons_zero, List.set_cons_succ, i64_w, i32_w]
          rfl
         refine one_ (i := 0) (N := some 85) #[true, true, true, false, true, true, true, true, false, true, true, false, true, true, false, false] rfl rfl (one_of HT_.out (by kernel_rfl)) (by decide) (fun K hK => ?_)
         refine Kd.R_lit_step (Kd.int .u8) _ 5 ?hg (N := 85) ?hd (xs := ([2] : List Int)) (inner := [.int .u8 2]) (ok := fun _ => True) (okp := fun _ => True) ?hr ?hp (fun _ hk => hk) trivial (Below.refl _ _) (Nat.le_refl _) (by simp) ?_; (case hd => rfl); (case hg => rfl); (case hr => first | (go_simp; done) | (go_simp; rfl)); (case hp => exact (Reps.one (show Kd.M (Kd.int .u8) _ _ _ 2 [.int .u8 2] from rfl) (Reps.none _ _)))
         intro v201 w107 ho108 hb hg_ hnew_
         clear hg_ hnew_
         (first | rw [← Ny200.out] at ho108 | (simp only [Int.reduceToNat] at ho108; rw [← Ny200.out] at ho108))
         have HO202 := am_ (Kd.R_lower (Kd.R_new' ho108 (Kd.R_lt (qR HO208))) (below_size (qB HB)))
         replace HO208 := am_ (Kd.R_elder' (qR HO208) (Kd.R_base ho108) hb)
         replace BK153 := am_ (blk_below (qK BK153) hb)
         replace BK195 := am_ (blk_below (qK BK195) hb)
         replace HB := am_ (below_step (qB HB) hb)
         clear hb ho108
         obtain ⟨Ao109, co109, eo109⟩ := Kd.R_slice HO202.out
         (first | subst eo109 | (injection eo109 with f1_ f2_ f3_; have f4_ := f1_.symm; have f5_ := f3_.symm; clear f1_ f2_ f3_; subst f4_; subst f5_))
         refine hK.out _ _ (cz7 BK195.out) (fun hHeld => ?_)
         clear hK K
         refine norm_ (a' := ?_) ?_ ?_
         rotate_left
         ·
          show Act.put _ (some 85) _ = _
          simp only [Act.put, List.setIfInBounds_toArray, List.set_cons_zero, List.set_cons_succ, i64_w, i32_w]
          rfl
         refine one_ (i := 3) (N := some 88) #[true, true, true, true, true, true, true, true, false, true, true, false, true, true, false, false] rfl rfl (one_of HT_.out (by kernel_rfl)) (by decide) (fun K hK => ?_)
         refine goes_ Try.func75 (by kernel_rfl) rfl #[.slice Ao109 y200.length co109, .int .i64 a0_9] (by rfl) rfl rfl (by (try simp only [List.map_toArray, List.map_cons, List.map_nil]); first | done | rfl | (simp only [List.length_drop, List.length_take]; rfl)) ?_
         with_reducible refine (spec_PutWord.calls _ _ y200 a0_9 t203 _ ?side1 ?side2 A96.out).mono ?_
         (case side1 => exact qC ((Kd.R_reads' HO202.out).2.2))
         (case side2 => exact (Kd.R_reads' HO202.out).2.1)
         rintro e w110 ⟨v204, rfl, ho0, hb⟩
         refine ⟨_, rfl, ?_⟩
         have HO205 := am_ (Kd.R_lower (Kd.R_new' (Kd.R_new' ho0 (Kd.R_lt (qR HO208))) (Kd.R_lt (qR HO202))) (below_size (qB HB)))
         replace HO208 := am_ (Kd.R_elder' (qR HO208) (Kd.R_base ho0) hb)
         replace HO202 := am_ (Kd.R_elder' (qR HO202) (Kd.R_base ho0) hb)
         replace BK153 := am_ (blk_below (qK BK153) hb)
         replace BK195 := am_ (blk_below (qK BK195) hb)
         replace HB := am_ (below_step (qB HB) hb)
         (try clear hb ho0)
         refine hK.out _ _ (cz7 BK195.out) (fun hHeld => ?_)
         clear hK K
         refine norm_ (a' := ?_) ?_ ?_
         rotate_left
         ·
          show Act.put _ (some 88) _ = _
          simp only [Act.put, List.setIfInBounds_toArray, List.set_cons_zero, List.set_cons_succ, i64_w, i32_w]
          rfl
         exact norm_ (by simp only [putAll, Act.put, List.setIfInBounds_toArray, List.set_cons_zero, List.set_cons_succ]) (hCont (.slice Ao109 y200.length co109, v204, v207) _ ⟨hHeld, (tR (Kd.R_mono HO202.out (fun _ hk => ⟨hk.2, hk.1.2⟩))), (tR (Kd.R_mono HO205.out (fun _ hk => ⟨hk.2, hk.1.2⟩))), (tR (Kd.R_mono HO208.out (fun _ hk => ⟨hk.1.2, hk.2⟩))), (qK BK153), (qK BK195), (qB HB)⟩)
       rintro ⟨v201, v204, v207⟩ w111 ⟨hS_, h0_, h1_, h2_, h3_, h4_, h5_⟩
       have n0_ : Aside0 (Kd.R (Kd.int .u8) 5 w111 w.heap.size (fun k_ => some k_ ≠ (v204 : Value).ownBlock ∧ some k_ ≠ (v207 : Value).ownBlock) v201 y200) := ⟨h0_⟩
       have n1_ : Aside0 (Kd.R (Kd.int .u8) 5 w111 w.heap.size (fun k_ => some k_ ≠ (v201 : Value).ownBlock ∧ some k_ ≠ (v207 : Value).ownBlock) v204 t203) := ⟨h1_⟩
       have n2_ : Aside0 (Kd.R (Kd.int .u8) 5 w111 w.heap.size (fun k_ => some k_ ≠ (v201 : Value).ownBlock ∧ some k_ ≠ (v204 : Value).ownBlock) v207 y206) := ⟨h2_⟩
       have n3_ : Aside0 (w111.heap[gb153]? = some (.cells #[.int .i64 a0_0, .int .i64 a0_1, .string a0_2, .int .i64 a0_3, .int .i64 a0_4, .int .i64 a0_5, .string a0_6, .int .i64 a0_7, .int .i64 a0_8, .int .i64 a0_9, .string a0_10, .int .i64 a0_11, .int .i64 a0_12, .int .i64 a0_13, .int .i64 a0_14, .int .i64 a0_15] 48 (0, 0))) := ⟨h3_⟩
       have n4_ : Aside0 (w111.heap[gb195]? = some (.cells #[.int .i64 a0_9, .string a0_10, .int .i64 a0_11, .int .i64 a0_12, .int .i64 a0_13, .int .i64 a0_14, .int .i64 a0_15] 46 (0, 0))) := ⟨h4_⟩
       have n5_ : Aside0 (Below w.heap.size w w111) := ⟨h5_⟩
       clear BK153
       clear BK195
       clear HB
       clear h0_ h1_ h2_ h3_ h4_ h5_
       have HO202 := n0_
       have HO205 := n1_
       have HO208 := n2_
       have BK153 := n3_
       have BK195 := n4_
       have HB := n5_
       clear n0_ n1_ n2_ n3_ n4_ n5_
       have hHeld : w111.cell? ⟨gb195, 0, none⟩ = some (.int .i64 a0_9) ∧ w111.cell? ⟨gb195, 1, none⟩ = some (.string a0_10) ∧ w111.cell? ⟨gb195, 2, none⟩ = some (.int .i64 a0_11) ∧ w111.cell? ⟨gb195, 3, none⟩ = some (.int .i64 a0_12) ∧ w111.cell? ⟨gb195, 4, none⟩ = some (.int .i64 a0_13) ∧ w111.cell? ⟨gb195, 5, none⟩ = some (.int .i64 a0_14) ∧ w111.cell? ⟨gb195, 6, none⟩ = some (.int .i64 a0_15) := hS_
       obtain ⟨Ao113, co113, eo113⟩ := Kd.R_slice HO208.out
       (first | subst eo113 | (injection eo113 with f1_ f2_ f3_; have f4_ := f1_.symm; have f5_ := f3_.symm; clear f1_ f2_ f3_; subst f4_; subst f5_))
       refine norm_ (a' := ?_) ?_ ?_
       rotate_left
       ·
        simp only [putAll, Act.put, List.setIfInBounds_toArray, List.set_cons_zero, List.set_cons_succ]
        rfl
       refine one_ (i := 8) (N := some 93) #[true, true, true, true, true, true, true, true, true, true, true, false, true, true, false, false] rfl rfl (one_of HT_.out (by kernel_rfl)) (by decide) (fun K hK => ?_)
       refine Kd.R_append_rows_step (Kd.int .u8) (w0 := w) w.heap.size (by rfl) (.tmp 88) (.tmp 92) 22 5 (.int .u8 0) 1 rfl Try.underlying22 info5 rfl (by decide) (by omega) v204 t203 y206 _ _ _ (fun k_ => some k_ ≠ (v201 : Value).ownBlock ∧ some k_ ≠ (.slice Ao113 y206.length co113 : Value).ownBlock) (fun _ => False) rfl rfl ?aO ?aR (fun _ _ h => h) (fun _ h => h.elim) ?aF ?aB ?aS ?aL ?_
       (case aR => exact qC ((Kd.R_reads' HO208.out).2.2))
       (case aB => exact (qB HB))
       (case aF => exact (fun k_ hk => ⟨Kd.fresh' (Kd.R_lt (qR HO202)) k_ hk, Kd.fresh' (Kd.R_lt (qR HO208)) k_ hk⟩))
       (case aO => exact (qR HO205))
       (case aS => exact (below_size (qB HB)))
       (case aL => have := LMc97.out; omega)
       intro v210 w112 ho hb hg hat
       rw [← Ny209.out] at ho
       replace BK153 := am_ (blk_grown (qK BK153) hg (Kd.R_ne HO205.out BK153.out (by decide)))
       replace BK195 := am_ (blk_grown (qK BK195) hg (Kd.R_ne HO205.out BK195.out (by decide)))
       replace HO202 := am_ (Kd.R_after (ok := (fun k_ => some k_ ≠ (.slice Ao113 y206.length co113 : Value).ownBlock)) (tR (Kd.R_mono HO202.out (fun _ hk => ⟨hk.2, hk.1⟩))) hg hat)
       replace HO208 := am_ (Kd.R_after (ok := (fun k_ => some k_ ≠ (v201 : Value).ownBlock)) (qR HO208) hg hat)
       replace HB := am_ (hb)
       have HO211 := am_ (ho)
       clear HO205
       clear ho hb hg hat
       obtain ⟨Ao114, co114, eo114⟩ := Kd.R_slice HO211.out
       (first | subst eo114 | (injection eo114 with f1_ f2_ f3_; have f4_ := f1_.symm; have f5_ := f3_.symm; clear f1_ f2_ f3_; subst f4_; subst f5_))
       refine hK.out _ _ (cz7 BK195.out) (fun hHeld => ?_)
       clear hK K
       refine norm_ (a' := ?_) ?_ ?_
       rotate_left
       ·
        show Act.put _ (some 93) _ = _
        simp only [Act.put, List.setIfInBounds_toArray, List.set_cons_zero, List.set_cons_succ, i64_w, i32_w]
        rfl
       refine one_ (i := 11) (N := some 96) #[true, true, true, true, true, true, true, true, true, true, true, true, true, true, false, false] rfl rfl (one_of HT_.out (by kernel_rfl)) (by decide) (fun K hK => ?_)
       refine goes_ Try.func74 (by kernel_rfl) rfl #[.slice Ao114 y209.length co114, .string a0_10] (by rfl) rfl rfl (by (try simp only [List.map_toArray, List.map_cons, List.map_nil]); first | done | rfl | (simp only [List.length_drop, List.length_take]; rfl)) ?_
       with_reducible refine (spec_PutText.calls kj66 _ _ y209 a0_10 t212 _ ?side1 ?side2 A98.out).mono ?_
       (case side1 => exact qC ((Kd.R_reads' HO211.out).2.2))
       (case side2 => exact (Kd.R_reads' HO211.out).2.1)
       rintro e w115 ⟨v213, rfl, ho0, hb⟩
       refine ⟨_, rfl, ?_⟩
       have HO214 := am_ (Kd.R_lower (Kd.R_new' (Kd.R_new' (Kd.R_new' ho0 (Kd.R_lt (qR HO202))) (Kd.R_lt (qR HO208))) (Kd.R_lt (qR HO211))) (below_size (qB HB)))
       replace HO202 := am_ (Kd.R_elder' (qR HO202) (Kd.R_base ho0) hb)
       replace HO208 := am_ (Kd.R_elder' (qR HO208) (Kd.R_base ho0) hb)
       replace HO211 := am_ (Kd.R_elder' (qR HO211) (Kd.R_base ho0) hb)
       replace BK153 := am_ (blk_below (qK BK153) hb)
       replace BK195 := am_ (blk_below (qK BK195) hb)
       replace HB := am_ (below_step (qB HB) hb)
       (try clear hb ho0)
       obtain ⟨Ao116, co116, eo116⟩ := Kd.R_slice HO214.out
       (first | subst eo116 | (injection eo116 with f1_ f2_ f3_; have f4_ := f1_.symm; have f5_ := f3_.symm; clear f1_ f2_ f3_; subst f4_; subst f5_))
       refine hK.out _ _ (cz7 BK195.out) (fun hHeld => ?_)
       clear hK K
       refine norm_ (a' := ?_) ?_ ?_
       rotate_left
       ·
        show Act.put _ (some 96) _ = _
        simp only [Act.put, List.setIfInBounds_toArray, List.set_cons_zero, List.set_cons_succ, i64_w, i32_w]
        rfl
       refine one_ (i := 14) (N := some 99) #[true, true, true, true, true, true, true, true, true, true, true, true, true, true, true, false] rfl rfl (one_of HT_.out (by kernel_rfl)) (by decide) (fun K hK => ?_)
       refine goes_ Try.func75 (by kernel_rfl) rfl #[.slice Ao116 t212.length co116, .int .i64 a0_11] (by rfl) rfl rfl (by (try simp only [List.map_toArray, List.map_cons, List.map_nil]); first | done | rfl | (simp only [List.length_drop, List.length_take]; rfl)) ?_
       with_reducible refine (spec_PutWord.calls _ _ t212 a0_11 t215 _ ?side1 ?side2 A99.out).mono ?_
       (case side1 => exact qC ((Kd.R_reads' HO214.out).2.2))
       (case side2 => exact (Kd.R_reads' HO214.out).2.1)
       rintro e w117 ⟨v216, rfl, ho0, hb⟩
       refine ⟨_, rfl, ?_⟩
       have HO217 := am_ (Kd.R_lower (Kd.R_new' (Kd.R_new' (Kd.R_new' (Kd.R_new' ho0 (Kd.R_lt (qR HO202))) (Kd.R_lt (qR HO208))) (Kd.R_lt (qR HO211))) (Kd.R_lt (qR HO214))) (below_size (qB HB)))
       replace HO202 := am_ (Kd.R_elder' (qR HO202) (Kd.R_base ho0) hb)
       replace HO208 := am_ (Kd.R_elder' (qR HO208) (Kd.R_base ho0) hb)
       replace HO211 := am_ (Kd.R_elder' (qR HO211) (Kd.R_base ho0) hb)
       replace HO214 := am_ (Kd.R_elder' (qR HO214) (Kd.R_base ho0) hb)
       replace BK153 := am_ (blk_below (qK BK153) hb)
       replace BK195 := am_ (blk_below (qK BK195) hb)
       replace HB := am_ (below_step (qB HB) hb)
       (try clear hb ho0)
       refine hK.out _ _ (cz7 BK195.out) (fun hHeld => ?_)
       clear hK K
       refine norm_ (a' := ?_) ?_ ?_
       rotate_left
       ·
        show Act.put _ (some 99) _ = _
        simp only [Act.put, List.setIfInBounds_toArray, List.set_cons_zero, List.set_cons_succ, i64_w, i32_w]
        rfl
       refine pure_ (i := 15) (N := some 6) (v := ?_) (a' := ?_) #[true, true, true, true, true, true, true, true, true, true, true, true, true, true, true, true] rfl rfl (any_of HT_.out (by kernel_rfl)) (fun _ _ _ h => h) (Or.inl ⟨by rfl, ?_⟩) ?_ ?_
       rotate_left
       ·
        intro w'
        go_simp
        with_reducible rfl
       rotate_left
       ·
        simp only [Act.put, List.setIfInBounds_toArray, List.set_cons_zero, List.set_cons_succ, i64_w, i32_w]
        rfl
       refine done_ (done_of HT_.out (by kernel_rfl)) ?_
       obtain ⟨Ao118, co118, eo118⟩ := Kd.R_slice HO217.out
       subst eo118
       try go_wp2
       replace HO202 := am_ (Kd.R_drew HO202.out)
       replace HO208 := am_ (Kd.R_drew HO208.out)
       replace HO211 := am_ (Kd.R_drew HO211.out)
       replace HO214 := am_ (Kd.R_drew HO214.out)
       replace HO217 := am_ (Kd.R_drew HO217.out)
       replace BK153 := am_ (blk_drew BK153.out)
       replace BK195 := am_ (blk_drew BK195.out)
       replace HB := am_ (below_drew1 HB.out)
       refine start_ (n := 18) (S := fun w' => w'.cell? ⟨gb195, 0, none⟩ = some (.int .i64 a0_9) ∧ w'.cell? ⟨gb195, 1, none⟩ = some (.string a0_10) ∧ w'.cell? ⟨gb195, 2, none⟩ = some (.int .i64 a0_11) ∧ w'.cell? ⟨gb195, 3, none⟩ = some (.int .i64 a0_12) ∧ w'.cell? ⟨gb195, 4, none⟩ = some (.int .i64 a0_13) ∧ w'.cell? ⟨gb195, 5, none⟩ = some (.int .i64 a0_14) ∧ w'.cell? ⟨gb195, 6, none⟩ = some (.int .i64 a0_15)) (ds := []) #[false, false, false, false, false, false, false, false, false, false, false, false, false, false, false, false, false, false] (by kernel_rfl) rfl rfl (cz7 BK195.out) (fun hHeld => ?_); refine with_tabW spec_PutItem.tab12 spec_PutItem.bits12 (fun HT_ HW_ => ?_)
       generalize w117.drew = w119 at HO202 HO208 HO211 HO214 HO217 BK153 BK195 HB hHeld ⊢
       refine pure_ (i := 0) (N := some 100) (v := ?_) (a' := ?_) #[true, false, false, false, false, false, false, false, false, false, false, false, false, false, false, false, false, false] rfl rfl (any_of HT_.out (by kernel_rfl)) (fun _ _ _ h => h) (Or.inl ⟨by rfl, ?_⟩) ?_ ?_
       rotate_left
       ·
        intro w'
        go_simp
        with_reducible rfl
       rotate_left
       ·
        simp only [Act.put, List.setIfInBounds_toArray, List.set_cons_zero, List.set_cons_succ, i64_w, i32_w]
        rfl
       refine pure_ (i := 1) (N := some 101) (v := ?_) (a' := ?_) #[true, true, false, false, false, false, false, false, false, false, false, false, false, false, false, false, false, false] rfl rfl (any_of HT_.out (by kernel_rfl)) (fun _ _ _ h => h) (Or.inl ⟨by rfl, ?_⟩) ?_ ?_
       rotate_left
       ·
        intro w'
        go_simp
        with_reducible rfl
       rotate_left
       ·
        simp only [Act.put, List.setIfInBounds_toArray, List.set_cons_zero, List.set_cons_succ, i64_w, i32_w]
        rfl
       refine pure_ (i := 5) (N := some 105) (v := ?_) (a' := ?_) #[true, true, false, false, false, true, false, false, false, false, false, false, false, false, false, false, false, false] rfl rfl (any_of HT_.out (by kernel_rfl)) (fun _ _ _ h => h) (Or.inl ⟨by rfl, ?_⟩) ?_ ?_
       rotate_left
       ·
        intro w'
        go_simp
        with_reducible rfl
       rotate_left
       ·
        simp only [Act.put, List.setIfInBounds_toArray, List.set_cons_zero, List.set_cons_succ, i64_w, i32_w]
        rfl
       refine pure_ (i := 11) (N := some 111) (v := ?_) (a' := ?_) #[true, true, false, false, false, true, false, false, false, false, false, true, false, false, false, false, false, false] rfl rfl (any_of HT_.out (by kernel_rfl)) (fun _ _ _ h => h) (Or.inl ⟨by rfl, ?_⟩) ?_ ?_
       rotate_left
       ·
        intro w'
        go_simp
        with_reducible rfl
       rotate_left
       ·
        simp only [Act.put, List.setIfInBounds_toArray, List.set_cons_zero, List.set_cons_succ, i64_w, i32_w]
        rfl
       refine pure_ (i := 14) (N := some 114) (v := ?_) (a' := ?_) #[true, true, false, false, false, true, false, false, false, false, false, true, false, false, true, false, false, false] rfl rfl (any_of HT_.out (by kernel_rfl)) (fun _ _ _ h => h) (Or.inl ⟨by rfl, ?_⟩) ?_ ?_
       rotate_left
       ·
        intro w'
        go_simp
        with_reducible rfl
       rotate_left
       ·
        simp only [Act.put, List.setIfInBounds_toArray, List.set_cons_zero, List.set_cons_succ, i64_w, i32_w]
        rfl
       refine take_ (i := 2) (N := some 102) (v := ?_) (a' := ?_) #[true, true, true, false, false, true, false, false, false, false, false, true, false, false, true, false, false, false] rfl rfl (take_ofW HT_.out HW_.out (by kernel_rfl)) (fun _ _ _ h => h) (Or.inl ⟨by rfl, ?_⟩) hHeld ?_ ?_
       rotate_left
       ·
        rintro w' ⟨s0, s1, s2, s3, s4, s5, s6⟩
        go_simp
        with_reducible rfl
       rotate_left
       ·
        simp only [Act.put, List.setIfInBounds_toArray, List.set_cons_zero, List.set_cons_succ, i64_w, i32_w]
        rfl
       refine pure_ (i := 3) (N := some 103) (v := ?_) (a' := ?_) #[true, true, true, true, false, true, false, false, false, false, false, true, false, false, true, false, false, false] rfl rfl (any_of HT_.out (by kernel_rfl)) (fun _ _ _ h => h) (Or.inl ⟨by rfl, ?_⟩) ?_ ?_
       rotate_left
       ·
        intro w'
        go_simp
        with_reducible rfl
       rotate_left
       ·
        simp only [Act.put, List.setIfInBounds_toArray, List.set_cons_zero, List.set_cons_succ, i64_w, i32_w]
        rfl
       refine take_ (i := 6) (N := some 106) (v := ?_) (a' := ?_) #[true, true, true, true, false, true, true, false, false, false, false, true, false, false, true, false, false, false] rfl rfl (take_ofW HT_.out HW_.out (by kernel_rfl)) (fun _ _ _ h => h) (Or.inl ⟨by rfl, ?_⟩) hHeld ?_ ?_
       rotate_left
       ·
        rintro w' ⟨s0, s1, s2, s3, s4, s5, s6⟩
        go_simp
        with_reducible rfl
       rotate_left
       ·
        simp only [Act.put, List.setIfInBounds_toArray, List.set_cons_zero, List.set_cons_succ, i64_w, i32_w]
        rfl
       refine pure_ (i := 7) (N := some 107) (v := ?_) (a' := ?_) #[true, true, true, true, false, true, true, true, false, false, false, true, false, false, true, false, false, false] rfl rfl (any_of HT_.out (by kernel_rfl)) (fun _ _ _ h => h) (Or.inl ⟨by rfl, ?_⟩) ?_ ?_
       rotate_left
       ·
        intro w'
        go_simp
        with_reducible rfl
       rotate_left
       ·
        simp only [Act.put, List.setIfInBounds_toArray, List.set_cons_zero, List.set_cons_succ, i64_w, i32_w]
        rfl
       refine pure_ (i := 8) (N := some 108) (v := ?_) (a' := ?_) #[true, true, true, true, false, true, true, true, true, false, false, true, false, false, true, false, false, false] rfl rfl (any_of HT_.out (by kernel_rfl)) (fun _ _ _ h => h) (Or.inl ⟨by rfl, ?_⟩) ?_ ?_
       rotate_left
       ·
        intro w'
        go_simp
        with_reducible rfl
       rotate_left
       ·
        simp only [Act.put, List.setIfInBounds_toArray, List.set_cons_zero, List.set_cons_succ, i64_w, i32_w]
        rfl
       refine take_ (i := 12) (N := some 112) (v := ?_) (a' := ?_) #[true, true, true, true, false, true, true, true, true, false, false, true, true, false, true, false, false, false] rfl rfl (take_ofW HT_.out HW_.out (by kernel_rfl)) (fun _ _ _ h => h) (Or.inl ⟨by rfl, ?_⟩) hHeld ?_ ?_
       rotate_left
       ·
        rintro w' ⟨s0, s1, s2, s3, s4, s5, s6⟩
        go_simp
        with_reducible rfl
       rotate_left
       ·
        simp only [Act.put, List.setIfInBounds_toArray, List.set_cons_zero, List.set_cons_succ, i64_w, i32_w]
        rfl
       refine take_ (i := 15) (N := some 115) (v := ?_) (a' := ?_) #[true, true, true, true, false, true, true, true, true, false, false, true, true, false, true, true, false, false] rfl rfl (take_ofW HT_.out HW_.out (by kernel_rfl)) (fun _ _ _ h => h) (Or.inl ⟨by rfl, ?_⟩) hHeld ?_ ?_
       rotate_left
       ·
        rintro w' ⟨s0, s1, s2, s3, s4, s5, s6⟩
        go_simp
        with_reducible rfl
       rotate_left
       ·
        simp only [Act.put, List.setIfInBounds_toArray, List.set_cons_zero, List.set_cons_succ, i64_w, i32_w]
        rfl
       refine join_ (σ := Value × Value) 4 #[true, true, true, true, true, true, true, true, true, true, false, true, true, false, true, true, false, false] (fun s_ => [(104, s_.1), (109, s_.2)]) (fun s_ w' => (w'.cell? ⟨gb195, 0, none⟩ = some (.int .i64 a0_9) ∧ w'.cell? ⟨gb195, 1, none⟩ = some (.string a0_10) ∧ w'.cell? ⟨gb195, 2, none⟩ = some (.int .i64 a0_11) ∧ w'.cell? ⟨gb195, 3, none⟩ = some (.int .i64 a0_12) ∧ w'.cell? ⟨gb195, 4, none⟩ = some (.int .i64 a0_13) ∧ w'.cell? ⟨gb195, 5, none⟩ = some (.int .i64 a0_14) ∧ w'.cell? ⟨gb195, 6, none⟩ = some (.int .i64 a0_15)) ∧ (Kd.R (Kd.int .u8) 5 w' w.heap.size (fun k_ => some k_ ≠ (.slice Ao113 y206.length co113 : Value).ownBlock ∧ some k_ ≠ (.slice Ao114 y209.length co114 : Value).ownBlock ∧ some k_ ≠ (.slice Ao116 t212.length co116 : Value).ownBlock ∧ some k_ ≠ (.slice Ao118 t215.length co118 : Value).ownBlock ∧ some k_ ≠ (s_.1 : Value).ownBlock ∧ some k_ ≠ (s_.2 : Value).ownBlock) v201 y200) ∧ (Kd.R (Kd.int .u8) 5 w' w.heap.size (fun k_ => some k_ ≠ (v201 : Value).ownBlock ∧ some k_ ≠ (.slice Ao114 y209.length co114 : Value).ownBlock ∧ some k_ ≠ (.slice Ao116 t212.length co116 : Value).ownBlock ∧ some k_ ≠ (.slice Ao118 t215.length co118 : Value).ownBlock ∧ some k_ ≠ (s_.1 : Value).ownBlock ∧ some k_ ≠ (s_.2 : Value).ownBlock) (.slice Ao113 y206.length co113) y206) ∧ (Kd.R (Kd.int .u8) 5 w' w.heap.size (fun k_ => some k_ ≠ (v201 : Value).ownBlock ∧ some k_ ≠ (.slice Ao113 y206.length co113 : Value).ownBlock ∧ some k_ ≠ (.slice Ao116 t212.length co116 : Value).ownBlock ∧ some k_ ≠ (.slice Ao118 t215.length co118 : Value).ownBlock ∧ some k_ ≠ (s_.1 : Value).ownBlock ∧ some k_ ≠ (s_.2 : Value).ownBlock) (.slice Ao114 y209.length co114) y209) ∧ (Kd.R (Kd.int .u8) 5 w' w.heap.size (fun k_ => some k_ ≠ (v201 : Value).ownBlock ∧ some k_ ≠ (.slice Ao113 y206.length co113 : Value).ownBlock ∧ some k_ ≠ (.slice Ao114 y209.length co114 : Value).ownBlock ∧ some k_ ≠ (.slice Ao118 t215.length co118 : Value).ownBlock ∧ some k_ ≠ (s_.1 : Value).ownBlock ∧ some k_ ≠ (s_.2 : Value).ownBlock) (.slice Ao116 t212.length co116) t212) ∧ (Kd.R (Kd.int .u8) 5 w' w.heap.size (fun k_ => some k_ ≠ (v201 : Value).ownBlock ∧ some k_ ≠ (.slice Ao113 y206.length co113 : Value).ownBlock ∧ some k_ ≠ (.slice Ao114 y209.length co114 : Value).ownBlock ∧ some k_ ≠ (.slice Ao116 t212.length co116 : Value).ownBlock ∧ some k_ ≠ (s_.1 : Value).ownBlock ∧ some k_ ≠ (s_.2 : Value).ownBlock) (.slice Ao118 t215.length co118) t215) ∧ (Kd.R (Kd.int .u8) 5 w' w.heap.size (fun k_ => some k_ ≠ (v201 : Value).ownBlock ∧ some k_ ≠ (.slice Ao113 y206.length co113 : Value).ownBlock ∧ some k_ ≠ (.slice Ao114 y209.length co114 : Value).ownBlock ∧ some k_ ≠ (.slice Ao116 t212.length co116 : Value).ownBlock ∧ some k_ ≠ (.slice Ao118 t215.length co118 : Value).ownBlock ∧ some k_ ≠ (s_.2 : Value).ownBlock) s_.1 t218) ∧ (Kd.R (Kd.int .u8) 5 w' w.heap.size (fun k_ => some k_ ≠ (v201 : Value).ownBlock ∧ some k_ ≠ (.slice Ao113 y206.length co113 : Value).ownBlock ∧ some k_ ≠ (.slice Ao114 y209.length co114 : Value).ownBlock ∧ some k_ ≠ (.slice Ao116 t212.length co116 : Value).ownBlock ∧ some k_ ≠ (.slice Ao118 t215.length co118 : Value).ownBlock ∧ some k_ ≠ (s_.1 : Value).ownBlock) s_.2 y221) ∧ (w'.heap[gb153]? = some (.cells #[.int .i64 a0_0, .int .i64 a0_1, .string a0_2, .int .i64 a0_3, .int .i64 a0_4, .int .i64 a0_5, .string a0_6, .int .i64 a0_7, .int .i64 a0_8, .int .i64 a0_9, .string a0_10, .int .i64 a0_11, .int .i64 a0_12, .int .i64 a0_13, .int .i64 a0_14, .int .i64 a0_15] 48 (0, 0))) ∧ (w'.heap[gb195]? = some (.cells #[.int .i64 a0_9, .string a0_10, .int .i64 a0_11, .int .i64 a0_12, .int .i64 a0_13, .int .i64 a0_14, .int .i64 a0_15] 46 (0, 0))) ∧ (Below w.heap.size w w')) ?_ ?_
       rotate_left
       ·
        intro hCont
        refine two_ (i := 4) (j := 9) (Ni := some 104) (Nj := some 109) #[true, true, true, true, true, true, true, true, true, false, false, true, true, false, true, true, false, false] #[true, true, true, true, false, true, true, true, true, true, false, true, true, false, true, true, false, false] rfl rfl rfl rfl (two_of HT_.out (by kernel_rfl)) (by decide) (by decide) (fun K hK => ?_) (fun K hK => ?_)
        ·
         skip
         refine goes_ Try.func75 (by kernel_rfl) rfl #[.slice Ao118 t215.length co118, .int .i64 (wrap64 (Int.tdiv a0_13 256))] (by rfl) rfl rfl (by (try simp only [List.map_toArray, List.map_cons, List.map_nil]); first | done | rfl | (simp only [List.length_drop, List.length_take]; rfl)) ?_
         with_reducible refine (spec_PutWord.calls _ _ t215 (wrap64 (Int.tdiv a0_13 256)) t218 _ ?side1 ?side2 A100.out).mono ?_
         (case side1 => exact qC ((Kd.R_reads' HO217.out).2.2))
         (case side2 => exact (Kd.R_reads' HO217.out).2.1)
         rintro e w120 ⟨v219, rfl, ho0, hb⟩
         refine ⟨_, rfl, ?_⟩
         have HO220 := am_ (Kd.R_lower (Kd.R_new' (Kd.R_new' (Kd.R_new' (Kd.R_new' (Kd.R_new' ho0 (Kd.R_lt (qR HO202))) (Kd.R_lt (qR HO208))) (Kd.R_lt (qR HO211))) (Kd.R_lt (qR HO214))) (Kd.R_lt (qR HO217))) (below_size (qB HB)))
         replace HO202 := am_ (Kd.R_elder' (qR HO202) (Kd.R_base ho0) hb)
         replace HO208 := am_ (Kd.R_elder' (qR HO208) (Kd.R_base ho0) hb)
         replace HO211 := am_ (Kd.R_elder' (qR HO211) (Kd.R_base ho0) hb)
         replace HO214 := am_ (Kd.R_elder' (qR HO214) (Kd.R_base ho0) hb)
         replace HO217 := am_ (Kd.R_elder' (qR HO217) (Kd.R_base ho0) hb)
         replace BK153 := am_ (blk_below (qK BK153) hb)
         replace BK195 := am_ (blk_below (qK BK195) hb)
         replace HB := am_ (below_step (qB HB) hb)
         (try clear hb ho0)
         refine hK.out _ _ (cz7 BK195.out) (fun hHeld => ?_)
         clear hK K
         refine norm_ (a' := ?_) ?_ ?_
         rotate_left
         ·
          show Act.put _ (some 104) _ = _
          simp only [Act.put, List.setIfInBounds_toArray, List.set_cons_zero, List.set_cons_succ, i64_w, i32_w]
          rfl
         refine one_ (i := 9) (N := some 109) #[true, true, true, true, true, true, true, true, true, true, false, true, true, false, true, true, false, false] rfl rfl (one_of HT_.out (by kernel_rfl)) (by decide) (fun K hK => ?_)
         refine Kd.R_lit_step (Kd.int .u8) _ 5 ?hg (N := 109) ?hd (xs := ([(Int.tmod a0_13 256) % 256] : List Int)) (inner := [.int .u8 ((Int.tmod a0_13 256) % 256)]) (ok := fun _ => True) (okp := fun _ => True) ?hr ?hp (fun _ hk => hk) trivial (Below.refl _ _) (Nat.le_refl _) (by simp) ?_; (case hd => rfl); (case hg => rfl); (case hr => first | (go_simp; done) | (go_simp; rfl)); (case hp => exact (Reps.one (show Kd.M (Kd.int .u8) _ _ _ ((Int.tmod a0_13 256) % 256) [.int .u8 ((Int.tmod a0_13 256) % 256)] from rfl) (Reps.none _ _)))
         intro v222 w121 ho122 hb hg_ hnew_
         clear hg_ hnew_
         (first | rw [← Ny221.out] at ho122 | (simp only [Int.reduceToNat] at ho122; rw [← Ny221.out] at ho122))
         have HO223 := am_ (Kd.R_lower (Kd.R_new' (Kd.R_new' (Kd.R_new' (Kd.R_new' (Kd.R_new' (Kd.R_new' ho122 (Kd.R_lt (qR HO202))) (Kd.R_lt (qR HO208))) (Kd.R_lt (qR HO211))) (Kd.R_lt (qR HO214))) (Kd.R_lt (qR HO217))) (Kd.R_lt (qR HO220))) (below_size (qB HB)))
         replace HO202 := am_ (Kd.R_elder' (qR HO202) (Kd.R_base ho122) hb)
         replace HO208 := am_ (Kd.R_elder' (qR HO208) (Kd.R_base ho122) hb)
         replace HO211 := am_ (Kd.R_elder' (qR HO211) (Kd.R_base ho122) hb)
         replace HO214 := am_ (Kd.R_elder' (qR HO214) (Kd.R_base ho122) hb)
         replace HO217 := am_ (Kd.R_elder' (qR HO217) (Kd.R_base ho122) hb)
         replace HO220 := am_ (Kd.R_elder' (qR HO220) (Kd.R_base ho122) hb)
         replace BK153 := am_ (blk_below (qK BK153) hb)
         replace BK195 := am_ (blk_below (qK BK195) hb)
         replace HB := am_ (below_step (qB HB) hb)
         clear hb ho122
         refine hK.out _ _ (cz7 BK195.out) (fun hHeld => ?_)
         clear hK K
         refine norm_ (a' := ?_) ?_ ?_
         rotate_left
         ·
          show Act.put _ (some 109) _ = _
          simp only [Act.put, List.setIfInBounds_toArray, List.set_cons_zero, List.set_cons_succ, i64_w, i32_w]
          rfl
         exact norm_ (by simp only [putAll, Act.put, List.setIfInBounds_toArray, List.set_cons_zero, List.set_cons_succ]) (hCont (v219, v222) _ ⟨hHeld, (tR (Kd.R_mono HO202.out (fun _ hk => ⟨hk.1.1.1.1.1, ⟨hk.1.1.1.1.2, ⟨hk.1.1.1.2, ⟨hk.1.1.2, ⟨hk.1.2, hk.2⟩⟩⟩⟩⟩))), (tR (Kd.R_mono HO208.out (fun _ hk => ⟨hk.1.1.1.1.1, ⟨hk.1.1.1.1.2, ⟨hk.1.1.1.2, ⟨hk.1.1.2, ⟨hk.1.2, hk.2⟩⟩⟩⟩⟩))), (tR (Kd.R_mono HO211.out (fun _ hk => ⟨hk.1.1.1.1.1, ⟨hk.1.1.1.1.2, ⟨hk.1.1.1.2, ⟨hk.1.1.2, ⟨hk.1.2, hk.2⟩⟩⟩⟩⟩))), (tR (Kd.R_mono HO214.out (fun _ hk => ⟨hk.1.1.1.1.1.2, ⟨hk.1.1.1.1.2, ⟨hk.1.1.1.2, ⟨hk.1.1.2, ⟨hk.1.2, hk.2⟩⟩⟩⟩⟩))), (tR (Kd.R_mono HO217.out (fun _ hk => ⟨hk.1.1.1.1.1.2, ⟨hk.1.1.1.1.2, ⟨hk.1.1.1.2, ⟨hk.1.1.2, ⟨hk.1.2, hk.2⟩⟩⟩⟩⟩))), (tR (Kd.R_mono HO220.out (fun _ hk => ⟨hk.1.1.1.1.1.2, ⟨hk.1.1.1.1.2, ⟨hk.1.1.1.2, ⟨hk.1.1.2, ⟨hk.1.2, hk.2⟩⟩⟩⟩⟩))), (tR (Kd.R_mono HO223.out (fun _ hk => ⟨hk.1.1.1.1.1.2, ⟨hk.1.1.1.1.2, ⟨hk.1.1.1.2, ⟨hk.1.1.2, ⟨hk.1.2, hk.2⟩⟩⟩⟩⟩))), (qK BK153), (qK BK195), (qB HB)⟩)
        ·
         skip
         refine Kd.R_lit_step (Kd.int .u8) _ 5 ?hg (N := 109) ?hd (xs := ([(Int.tmod a0_13 256) % 256] : List Int)) (inner := [.int .u8 ((Int.tmod a0_13 256) % 256)]) (ok := fun _ => True) (okp := fun _ => True) ?hr ?hp (fun _ hk => hk) trivial (Below.refl _ _) (Nat.le_refl _) (by simp) ?_; (case hd => rfl); (case hg => rfl); (case hr => first | (go_simp; done) | (go_simp; rfl)); (case hp => exact (Reps.one (show Kd.M (Kd.int .u8) _ _ _ ((Int.tmod a0_13 256) % 256) [.int .u8 ((Int.tmod a0_13 256) % 256)] from rfl) (Reps.none _ _)))
         intro v222 w120 ho121 hb hg_ hnew_
         clear hg_ hnew_
         (first | rw [← Ny221.out] at ho121 | (simp only [Int.reduceToNat] at ho121; rw [← Ny221.out] at ho121))
         have HO223 := am_ (Kd.R_lower (Kd.R_new' (Kd.R_new' (Kd.R_new' (Kd.R_new' (Kd.R_new' ho121 (Kd.R_lt (qR HO202))) (Kd.R_lt (qR HO208))) (Kd.R_lt (qR HO211))) (Kd.R_lt (qR HO214))) (Kd.R_lt (qR HO217))) (below_size (qB HB)))
         replace HO202 := am_ (Kd.R_elder' (qR HO202) (Kd.R_base ho121) hb)
         replace HO208 := am_ (Kd.R_elder' (qR HO208) (Kd.R_base ho121) hb)
         replace HO211 := am_ (Kd.R_elder' (qR HO211) (Kd.R_base ho121) hb)
         replace HO214 := am_ (Kd.R_elder' (qR HO214) (Kd.R_base ho121) hb)
         replace HO217 := am_ (Kd.R_elder' (qR HO217) (Kd.R_base ho121) hb)
         replace BK153 := am_ (blk_below (qK BK153) hb)
         replace BK195 := am_ (blk_below (qK BK195) hb)
         replace HB := am_ (below_step (qB HB) hb)
         clear hb ho121
         refine hK.out _ _ (cz7 BK195.out) (fun hHeld => ?_)
         clear hK K
         refine norm_ (a' := ?_) ?_ ?_
         rotate_left
         ·
          show Act.put _ (some 109) _ = _
          simp only [Act.put, List.setIfInBounds_toArray, List.set_cons_zero, List.set_cons_succ, i64_w, i32_w]
          rfl
         refine one_ (i := 4) (N := some 104) #[true, true, true, true, true, true, true, true, true, true, false, true, true, false, true, true, false, false] rfl rfl (one_of HT_.out (by kernel_rfl)) (by decide) (fun K hK => ?_)
         refine goes_ Try.func75 (by kernel_rfl) rfl #[.slice Ao118 t215.length co118, .int .i64 (wrap64 (Int.tdiv a0_13 256))] (by rfl) rfl rfl (by (try simp only [List.map_toArray, List.map_cons, List.map_nil]); first | done | rfl | (simp only [List.length_drop, List.length_take]; rfl)) ?_
         with_reducible refine (spec_PutWord.calls _ _ t215 (wrap64 (Int.tdiv a0_13 256)) t218 _ ?side1 ?side2 A100.out).mono ?_
         (case side1 => exact qC ((Kd.R_reads' HO217.out).2.2))
         (case side2 => exact (Kd.R_reads' HO217.out).2.1)
         rintro e w122 ⟨v219, rfl, ho0, hb⟩
         refine ⟨_, rfl, ?_⟩
         have HO220 := am_ (Kd.R_lower (Kd.R_new' (Kd.R_new' (Kd.R_new' (Kd.R_new' (Kd.R_new' (Kd.R_new' ho0 (Kd.R_lt (qR HO202))) (Kd.R_lt (qR HO208))) (Kd.R_lt (qR HO211))) (Kd.R_lt (qR HO214))) (Kd.R_lt (qR HO217))) (Kd.R_lt (qR HO223))) (below_size (qB HB)))
         replace HO202 := am_ (Kd.R_elder' (qR HO202) (Kd.R_base ho0) hb)
         replace HO208 := am_ (Kd.R_elder' (qR HO208) (Kd.R_base ho0) hb)
         replace HO211 := am_ (Kd.R_elder' (qR HO211) (Kd.R_base ho0) hb)
         replace HO214 := am_ (Kd.R_elder' (qR HO214) (Kd.R_base ho0) hb)
         replace HO217 := am_ (Kd.R_elder' (qR HO217) (Kd.R_base ho0) hb)
         replace HO223 := am_ (Kd.R_elder' (qR HO223) (Kd.R_base ho0) hb)
         replace BK153 := am_ (blk_below (qK BK153) hb)
         replace BK195 := am_ (blk_below (qK BK195) hb)
         replace HB := am_ (below_step (qB HB) hb)
         (try clear hb ho0)
         refine hK.out _ _ (cz7 BK195.out) (fun hHeld => ?_)
         clear hK K
         refine norm_ (a' := ?_) ?_ ?_
         rotate_left
         ·
          show Act.put _ (some 104) _ = _
          simp only [Act.put, List.setIfInBounds_toArray, List.set_cons_zero, List.set_cons_succ, i64_w, i32_w]
          rfl
         exact norm_ (by simp only [putAll, Act.put, List.setIfInBounds_toArray, List.set_cons_zero, List.set_cons_succ]) (hCont (v219, v222) _ ⟨hHeld, (tR (Kd.R_mono HO202.out (fun _ hk => ⟨hk.1.1.1.1.1, ⟨hk.1.1.1.1.2, ⟨hk.1.1.1.2, ⟨hk.1.1.2, ⟨hk.2, hk.1.2⟩⟩⟩⟩⟩))), (tR (Kd.R_mono HO208.out (fun _ hk => ⟨hk.1.1.1.1.1, ⟨hk.1.1.1.1.2, ⟨hk.1.1.1.2, ⟨hk.1.1.2, ⟨hk.2, hk.1.2⟩⟩⟩⟩⟩))), (tR (Kd.R_mono HO211.out (fun _ hk => ⟨hk.1.1.1.1.1, ⟨hk.1.1.1.1.2, ⟨hk.1.1.1.2, ⟨hk.1.1.2, ⟨hk.2, hk.1.2⟩⟩⟩⟩⟩))), (tR (Kd.R_mono HO214.out (fun _ hk => ⟨hk.1.1.1.1.1.2, ⟨hk.1.1.1.1.2, ⟨hk.1.1.1.2, ⟨hk.1.1.2, ⟨hk.2, hk.1.2⟩⟩⟩⟩⟩))), (tR (Kd.R_mono HO217.out (fun _ hk => ⟨hk.1.1.1.1.1.2, ⟨hk.1.1.1.1.2, ⟨hk.1.1.1.2, ⟨hk.1.1.2, ⟨hk.2, hk.1.2⟩⟩⟩⟩⟩))), (tR (Kd.R_mono HO220.out (fun _ hk => ⟨hk.1.1.1.1.1.2, ⟨hk.1.1.1.1.2, ⟨hk.1.1.1.2, ⟨hk.1.1.2, ⟨hk.1.2, hk.2⟩⟩⟩⟩⟩))), (tR (Kd.R_mono HO223.out (fun _ hk => ⟨hk.1.1.1.1.1.2, ⟨hk.1.1.1.1.2, ⟨hk.1.1.1.2, ⟨hk.1.1.2, ⟨hk.1.2, hk.2⟩⟩⟩⟩⟩))), (qK BK153), (qK BK195), (qB HB)⟩)
       rintro ⟨v219, v222⟩ w123 ⟨hS_, h0_, h1_, h2_, h3_, h4_, h5_, h6_, h7_, h8_, h9_⟩
       have n0_ : Aside0 (Kd.R (Kd.int .u8) 5 w123 w.heap.size (fun k_ => some k_ ≠ (.slice Ao113 y206.length co113 : Value).ownBlock ∧ some k_ ≠ (.slice Ao114 y209.length co114 : Value).ownBlock ∧ some k_ ≠ (.slice Ao116 t212.length co116 : Value).ownBlock ∧ some k_ ≠ (.slice Ao118 t215.length co118 : Value).ownBlock ∧ some k_ ≠ (v219 : Value).ownBlock ∧ some k_ ≠ (v222 : Value).ownBlock) v201 y200) := ⟨h0_⟩
       have n1_ : Aside0 (Kd.R (Kd.int .u8) 5 w123 w.heap.size (fun k_ => some k_ ≠ (v201 : Value).ownBlock ∧ some k_ ≠ (.slice Ao114 y209.length co114 : Value).ownBlock ∧ some k_ ≠ (.slice Ao116 t212.length co116 : Value).ownBlock ∧ some k_ ≠ (.slice Ao118 t215.length co118 : Value).ownBlock ∧ some k_ ≠ (v219 : Value).ownBlock ∧ some k_ ≠ (v222 : Value).ownBlock) (.slice Ao113 y206.length co113) y206) := ⟨h1_⟩
       have n2_ : Aside0 (Kd.R (Kd.int .u8) 5 w123 w.heap.size (fun k_ => some k_ ≠ (v201 : Value).ownBlock ∧ some k_ ≠ (.slice Ao113 y206.length co113 : Value).ownBlock ∧ some k_ ≠ (.slice Ao116 t212.length co116 : Value).ownBlock ∧ some k_ ≠ (.slice Ao118 t215.length co118 : Value).ownBlock ∧ some k_ ≠ (v219 : Value).ownBlock ∧ some k_ ≠ (v222 : Value).ownBlock) (.slice Ao114 y209.length co114) y209) := ⟨h2_⟩
       have n3_ : Aside0 (Kd.R (Kd.int .u8) 5 w123 w.heap.size (fun k_ => some k_ ≠ (v201 : Value).ownBlock ∧ some k_ ≠ (.slice Ao113 y206.length co113 : Value).ownBlock ∧ some k_ ≠ (.slice Ao114 y209.length co114 : Value).ownBlock ∧ some k_ ≠ (.slice Ao118 t215.length co118 : Value).ownBlock ∧ some k_ ≠ (v219 : Value).ownBlock ∧ some k_ ≠ (v222 : Value).ownBlock) (.slice Ao116 t212.length co116) t212) := ⟨h3_⟩
       have n4_ : Aside0 (Kd.R (Kd.int .u8) 5 w123 w.heap.size (fun k_ => some k_ ≠ (v201 : Value).ownBlock ∧ some k_ ≠ (.slice Ao113 y206.length co113 : Value).ownBlock ∧ some k_ ≠ (.slice Ao114 y209.length co114 : Value).ownBlock ∧ some k_ ≠ (.slice Ao116 t212.length co116 : Value).ownBlock ∧ some k_ ≠ (v219 : Value).ownBlock ∧ some k_ ≠ (v222 : Value).ownBlock) (.slice Ao118 t215.length co118) t215) := ⟨h4_⟩
       have n5_ : Aside0 (Kd.R (Kd.int .u8) 5 w123 w.heap.size (fun k_ => some k_ ≠ (v201 : Value).ownBlock ∧ some k_ ≠ (.slice Ao113 y206.length co113 : Value).ownBlock ∧ some k_ ≠ (.slice Ao114 y209.length co114 : Value).ownBlock ∧ some k_ ≠ (.slice Ao116 t212.length co116 : Value).ownBlock ∧ some k_ ≠ (.slice Ao118 t215.length co118 : Value).ownBlock ∧ some k_ ≠ (v222 : Value).ownBlock) v219 t218) := ⟨h5_⟩
       have n6_ : Aside0 (Kd.R (Kd.int .u8) 5 w123 w.heap.size (fun k_ => some k_ ≠ (v201 : Value).ownBlock ∧ some k_ ≠ (.slice Ao113 y206.length co113 : Value).ownBlock ∧ some k_ ≠ (.slice Ao114 y209.length co114 : Value).ownBlock ∧ some k_ ≠ (.slice Ao116 t212.length co116 : Value).ownBlock ∧ some k_ ≠ (.slice Ao118 t215.length co118 : Value).ownBlock ∧ some k_ ≠ (v219 : Value).ownBlock) v222 y221) := ⟨h6_⟩
       have n7_ : Aside0 (w123.heap[gb153]? = some (.cells #[.int .i64 a0_0, .int .i64 a0_1, .string a0_2, .int .i64 a0_3, .int .i64 a0_4, .int .i64 a0_5, .string a0_6, .int .i64 a0_7, .int .i64 a0_8, .int .i64 a0_9, .string a0_10, .int .i64 a0_11, .int .i64 a0_12, .int .i64 a0_13, .int .i64 a0_14, .int .i64 a0_15] 48 (0, 0))) := ⟨h7_⟩
       have n8_ : Aside0 (w123.heap[gb195]? = some (.cells #[.int .i64 a0_9, .string a0_10, .int .i64 a0_11, .int .i64 a0_12, .int .i64 a0_13, .int .i64 a0_14, .int .i64 a0_15] 46 (0, 0))) := ⟨h8_⟩
       have n9_ : Aside0 (Below w.heap.size w w123) := ⟨h9_⟩
       clear HO202
       clear HO208
       clear HO211
       clear HO214
       clear HO217
       clear BK153
       clear BK195
       clear HB
       clear h0_ h1_ h2_ h3_ h4_ h5_ h6_ h7_ h8_ h9_
       have HO202 := n0_
       have HO208 := n1_
       have HO211 := n2_
       have HO214 := n3_
       have HO217 := n4_
       have HO220 := n5_
       have HO223 := n6_
       have BK153 := n7_
       have BK195 := n8_
       have HB := n9_
       clear n0_ n1_ n2_ n3_ n4_ n5_ n6_ n7_ n8_ n9_
       have hHeld : w123.cell? ⟨gb195, 0, none⟩ = some (.int .i64 a0_9) ∧ w123.cell? ⟨gb195, 1, none⟩ = some (.string a0_10) ∧ w123.cell? ⟨gb195, 2, none⟩ = some (.int .i64 a0_11) ∧ w123.cell? ⟨gb195, 3, none⟩ = some (.int .i64 a0_12) ∧ w123.cell? ⟨gb195, 4, none⟩ = some (.int .i64 a0_13) ∧ w123.cell? ⟨gb195, 5, none⟩ = some (.int .i64 a0_14) ∧ w123.cell? ⟨gb195, 6, none⟩ = some (.int .i64 a0_15) := hS_
       obtain ⟨Ao125, co125, eo125⟩ := Kd.R_slice HO223.out
       (first | subst eo125 | (injection eo125 with f1_ f2_ f3_; have f4_ := f1_.symm; have f5_ := f3_.symm; clear f1_ f2_ f3_; subst f4_; subst f5_))
       refine norm_ (a' := ?_) ?_ ?_
       rotate_left
       ·
        simp only [putAll, Act.put, List.setIfInBounds_toArray, List.set_cons_zero, List.set_cons_succ]
        rfl
       refine one_ (i := 10) (N := some 110) #[true, true, true, true, true, true, true, true, true, true, true, true, true, false, true, true, false, false] rfl rfl (one_of HT_.out (by kernel_rfl)) (by decide) (fun K hK => ?_)
       refine Kd.R_append_rows_step (Kd.int .u8) (w0 := w) w.heap.size (by rfl) (.tmp 104) (.tmp 109) 22 5 (.int .u8 0) 1 rfl Try.underlying22 info5 rfl (by decide) (by omega) v219 t218 y221 _ _ _ (fun k_ => some k_ ≠ (v201 : Value).ownBlock ∧ some k_ ≠ (.slice Ao113 y206.length co113 : Value).ownBlock ∧ some k_ ≠ (.slice Ao114 y209.length co114 : Value).ownBlock ∧ some k_ ≠ (.slice Ao116 t212.length co116 : Value).ownBlock ∧ some k_ ≠ (.slice Ao118 t215.length co118 : Value).ownBlock ∧ some k_ ≠ (.slice Ao125 y221.length co125 : Value).ownBlock) (fun _ => False) rfl rfl ?aO ?aR (fun _ _ h => h) (fun _ h => h.elim) ?aF ?aB ?aS ?aL ?_
       (case aR => exact qC ((Kd.R_reads' HO223.out).2.2))
       (case aB => exact (qB HB))
       (case aF => exact (fun k_ hk => ⟨Kd.fresh' (Kd.R_lt (qR HO202)) k_ hk, Kd.fresh' (Kd.R_lt (qR HO208)) k_ hk, Kd.fresh' (Kd.R_lt (qR HO211)) k_ hk, Kd.fresh' (Kd.R_lt (qR HO214)) k_ hk, Kd.fresh' (Kd.R_lt (qR HO217)) k_ hk, Kd.fresh' (Kd.R_lt (qR HO223)) k_ hk⟩))
       (case aO => exact (qR HO220))
       (case aS => exact (below_size (qB HB)))
       (case aL => have := LMc101.out; omega)
       intro v225 w124 ho hb hg hat
       rw [← Ny224.out] at ho
       replace BK153 := am_ (blk_grown (qK BK153) hg (Kd.R_ne HO220.out BK153.out (by decide)))
       replace BK195 := am_ (blk_grown (qK BK195) hg (Kd.R_ne HO220.out BK195.out (by decide)))
       replace HO202 := am_ (Kd.R_after (ok := (fun k_ => some k_ ≠ (.slice Ao113 y206.length co113 : Value).ownBlock ∧ some k_ ≠ (.slice Ao114 y209.length co114 : Value).ownBlock ∧ some k_ ≠ (.slice Ao116 t212.length co116 : Value).ownBlock ∧ some k_ ≠ (.slice Ao118 t215.length co118 : Value).ownBlock ∧ some k_ ≠ (.slice Ao125 y221.length co125 : Value).ownBlock)) (tR (Kd.R_mono HO202.out (fun _ hk => ⟨⟨hk.1, ⟨hk.2.1, ⟨hk.2.2.1, ⟨hk.2.2.2.1, hk.2.2.2.2.2⟩⟩⟩⟩, hk.2.2.2.2.1⟩))) hg hat)
       replace HO208 := am_ (Kd.R_after (ok := (fun k_ => some k_ ≠ (v201 : Value).ownBlock ∧ some k_ ≠ (.slice Ao114 y209.length co114 : Value).ownBlock ∧ some k_ ≠ (.slice Ao116 t212.length co116 : Value).ownBlock ∧ some k_ ≠ (.slice Ao118 t215.length co118 : Value).ownBlock ∧ some k_ ≠ (.slice Ao125 y221.length co125 : Value).ownBlock)) (tR (Kd.R_mono HO208.out (fun _ hk => ⟨⟨hk.1, ⟨hk.2.1, ⟨hk.2.2.1, ⟨hk.2.2.2.1, hk.2.2.2.2.2⟩⟩⟩⟩, hk.2.2.2.2.1⟩))) hg hat)
       replace HO211 := am_ (Kd.R_after (ok := (fun k_ => some k_ ≠ (v201 : Value).ownBlock ∧ some k_ ≠ (.slice Ao113 y206.length co113 : Value).ownBlock ∧ some k_ ≠ (.slice Ao116 t212.length co116 : Value).ownBlock ∧ some k_ ≠ (.slice Ao118 t215.length co118 : Value).ownBlock ∧ some k_ ≠ (.slice Ao125 y221.length co125 : Value).ownBlock)) (tR (Kd.R_mono HO211.out (fun _ hk => ⟨⟨hk.1, ⟨hk.2.1, ⟨hk.2.2.1, ⟨hk.2.2.2.1, hk.2.2.2.2.2⟩⟩⟩⟩, hk.2.2.2.2.1⟩))) hg hat)
       replace HO214 := am_ (Kd.R_after (ok := (fun k_ => some k_ ≠ (v201 : Value).ownBlock ∧ some k_ ≠ (.slice Ao113 y206.length co113 : Value).ownBlock ∧ some k_ ≠ (.slice Ao114 y209.length co114 : Value).ownBlock ∧ some k_ ≠ (.slice Ao118 t215.length co118 : Value).ownBlock ∧ some k_ ≠ (.slice Ao125 y221.length co125 : Value).ownBlock)) (tR (Kd.R_mono HO214.out (fun _ hk => ⟨⟨hk.1, ⟨hk.2.1, ⟨hk.2.2.1, ⟨hk.2.2.2.1, hk.2.2.2.2.2⟩⟩⟩⟩, hk.2.2.2.2.1⟩))) hg hat)
       replace HO217 := am_ (Kd.R_after (ok := (fun k_ => some k_ ≠ (v201 : Value).ownBlock ∧ some k_ ≠ (.slice Ao113 y206.length co113 : Value).ownBlock ∧ some k_ ≠ (.slice Ao114 y209.length co114 : Value).ownBlock ∧ some k_ ≠ (.slice Ao116 t212.length co116 : Value).ownBlock ∧ some k_ ≠ (.slice Ao125 y221.length co125 : Value).ownBlock)) (tR (Kd.R_mono HO217.out (fun _ hk => ⟨⟨hk.1, ⟨hk.2.1, ⟨hk.2.2.1, ⟨hk.2.2.2.1, hk.2.2.2.2.2⟩⟩⟩⟩, hk.2.2.2.2.1⟩))) hg hat)
       replace HO223 := am_ (Kd.R_after (ok := (fun k_ => some k_ ≠ (v201 : Value).ownBlock ∧ some k_ ≠ (.slice Ao113 y206.length co113 : Value).ownBlock ∧ some k_ ≠ (.slice Ao114 y209.length co114 : Value).ownBlock ∧ some k_ ≠ (.slice Ao116 t212.length co116 : Value).ownBlock ∧ some k_ ≠ (.slice Ao118 t215.length co118 : Value).ownBlock)) (tR (Kd.R_mono HO223.out (fun _ hk => ⟨⟨hk.1, ⟨hk.2.1, ⟨hk.2.2.1, ⟨hk.2.2.2.1, hk.2.2.2.2.1⟩⟩⟩⟩, hk.2.2.2.2.2⟩))) hg hat)
       replace HB := am_ (hb)
       have HO226 := am_ (ho)
       clear HO220
       clear ho hb hg hat
       obtain ⟨Ao126, co126, eo126⟩ := Kd.R_slice HO226.out
       (first | subst eo126 | (injection eo126 with f1_ f2_ f3_; have f4_ := f1_.symm; have f5_ := f3_.symm; clear f1_ f2_ f3_; subst f4_; subst f5_))
       refine hK.out _ _ (cz7 BK195.out) (fun hHeld => ?_)
       clear hK K
       refine norm_ (a' := ?_) ?_ ?_
       rotate_left
       ·
        show Act.put _ (some 110) _ = _
        simp only [Act.put, List.setIfInBounds_toArray, List.set_cons_zero, List.set_cons_succ, i64_w, i32_w]
        rfl
       refine one_ (i := 13) (N := some 113) #[true, true, true, true, true, true, true, true, true, true, true, true, true, true, true, true, false, false] rfl rfl (one_of HT_.out (by kernel_rfl)) (by decide) (fun K hK => ?_)
       refine goes_ Try.func75 (by kernel_rfl) rfl #[.slice Ao126 y224.length co126, .int .i64 a0_14] (by rfl) rfl rfl (by (try simp only [List.map_toArray, List.map_cons, List.map_nil]); first | done | rfl | (simp only [List.length_drop, List.length_take]; rfl)) ?_
       with_reducible refine (spec_PutWord.calls _ _ y224 a0_14 t227 _ ?side1 ?side2 A102.out).mono ?_
       (case side1 => exact qC ((Kd.R_reads' HO226.out).2.2))
       (case side2 => exact (Kd.R_reads' HO226.out).2.1)
       rintro e w127 ⟨v228, rfl, ho0, hb⟩
       refine ⟨_, rfl, ?_⟩
       have HO229 := am_ (Kd.R_lower (Kd.R_new' (Kd.R_new' (Kd.R_new' (Kd.R_new' (Kd.R_new' (Kd.R_new' (Kd.R_new' ho0 (Kd.R_lt (qR HO202))) (Kd.R_lt (qR HO208))) (Kd.R_lt (qR HO211))) (Kd.R_lt (qR HO214))) (Kd.R_lt (qR HO217))) (Kd.R_lt (qR HO223))) (Kd.R_lt (qR HO226))) (below_size (qB HB)))
       replace HO202 := am_ (Kd.R_elder' (qR HO202) (Kd.R_base ho0) hb)
       replace HO208 := am_ (Kd.R_elder' (qR HO208) (Kd.R_base ho0) hb)
       replace HO211 := am_ (Kd.R_elder' (qR HO211) (Kd.R_base ho0) hb)
       replace HO214 := am_ (Kd.R_elder' (qR HO214) (Kd.R_base ho0) hb)
       replace HO217 := am_ (Kd.R_elder' (qR HO217) (Kd.R_base ho0) hb)
       replace HO223 := am_ (Kd.R_elder' (qR HO223) (Kd.R_base ho0) hb)
       replace HO226 := am_ (Kd.R_elder' (qR HO226) (Kd.R_base ho0) hb)
       replace BK153 := am_ (blk_below (qK BK153) hb)
       replace BK195 := am_ (blk_below (qK BK195) hb)
       replace HB := am_ (below_step (qB HB) hb)
       (try clear hb ho0)
       obtain ⟨Ao128, co128, eo128⟩ := Kd.R_slice HO229.out
       (first | subst eo128 | (injection eo128 with f1_ f2_ f3_; have f4_ := f1_.symm; have f5_ := f3_.symm; clear f1_ f2_ f3_; subst f4_; subst f5_))
       refine hK.out _ _ (cz7 BK195.out) (fun hHeld => ?_)
       clear hK K
       refine norm_ (a' := ?_) ?_ ?_
       rotate_left
       ·
        show Act.put _ (some 113) _ = _
        simp only [Act.put, List.setIfInBounds_toArray, List.set_cons_zero, List.set_cons_succ, i64_w, i32_w]
        rfl
       refine one_ (i := 16) (N := some 116) #[true, true, true, true, true, true, true, true, true, true, true, true, true, true, true, true, true, false] rfl rfl (one_of HT_.out (by kernel_rfl)) (by decide) (fun K hK => ?_)
       refine goes_ Try.func75 (by kernel_rfl) rfl #[.slice Ao128 t227.length co128, .int .i64 a0_15] (by rfl) rfl rfl (by (try simp only [List.map_toArray, List.map_cons, List.map_nil]); first | done | rfl | (simp only [List.length_drop, List.length_take]; rfl)) ?_
       with_reducible refine (spec_PutWord.calls _ _ t227 a0_15 t230 _ ?side1 ?side2 A103.out).mono ?_
       (case side1 => exact qC ((Kd.R_reads' HO229.out).2.2))
       (case side2 => exact (Kd.R_reads' HO229.out).2.1)
       rintro e w129 ⟨v231, rfl, ho0, hb⟩
       refine ⟨_, rfl, ?_⟩
       have HO232 := am_ (Kd.R_lower (Kd.R_new' (Kd.R_new' (Kd.R_new' (Kd.R_new' (Kd.R_new' (Kd.R_new' (Kd.R_new' (Kd.R_new' ho0 (Kd.R_lt (qR HO202))) (Kd.R_lt (qR HO208))) (Kd.R_lt (qR HO211))) (Kd.R_lt (qR HO214))) (Kd.R_lt (qR HO217))) (Kd.R_lt (qR HO223))) (Kd.R_lt (qR HO226))) (Kd.R_lt (qR HO229))) (below_size (qB HB)))
       replace HO202 := am_ (Kd.R_elder' (qR HO202) (Kd.R_base ho0) hb)
       replace HO208 := am_ (Kd.R_elder' (qR HO208) (Kd.R_base ho0) hb)
       replace HO211 := am_ (Kd.R_elder' (qR HO211) (Kd.R_base ho0) hb)
       replace HO214 := am_ (Kd.R_elder' (qR HO214) (Kd.R_base ho0) hb)
       replace HO217 := am_ (Kd.R_elder' (qR HO217) (Kd.R_base ho0) hb)
       replace HO223 := am_ (Kd.R_elder' (qR HO223) (Kd.R_base ho0) hb)
       replace HO226 := am_ (Kd.R_elder' (qR HO226) (Kd.R_base ho0) hb)
       replace HO229 := am_ (Kd.R_elder' (qR HO229) (Kd.R_base ho0) hb)
       replace BK153 := am_ (blk_below (qK BK153) hb)
       replace BK195 := am_ (blk_below (qK BK195) hb)
       replace HB := am_ (below_step (qB HB) hb)
       (try clear hb ho0)
       refine hK.out _ _ (cz7 BK195.out) (fun hHeld => ?_)
       clear hK K
       refine norm_ (a' := ?_) ?_ ?_
       rotate_left
       ·
        show Act.put _ (some 116) _ = _
        simp only [Act.put, List.setIfInBounds_toArray, List.set_cons_zero, List.set_cons_succ, i64_w, i32_w]
        rfl
       refine pure_ (i := 17) (N := some 2) (v := ?_) (a' := ?_) #[true, true, true, true, true, true, true, true, true, true, true, true, true, true, true, true, true, true] rfl rfl (any_of HT_.out (by kernel_rfl)) (fun _ _ _ h => h) (Or.inl ⟨by rfl, ?_⟩) ?_ ?_
       rotate_left
       ·
        intro w'
        go_simp
        with_reducible rfl
       rotate_left
       ·
        simp only [Act.put, List.setIfInBounds_toArray, List.set_cons_zero, List.set_cons_succ, i64_w, i32_w]
        rfl
       refine done_ (done_of HT_.out (by kernel_rfl)) ?_
       try go_wp2
       go_ret
       exact ⟨_, by first | rfl | (simp [errW_none, errW_some] <;> rfl) | (simp [*, errW_none, errW_some] <;> rfl), by (with_reducible repeat (first | apply Kd.R_alloc | apply Kd.R_drewN | apply Kd.R_drew)); exact Kd.R_mono HO232.out (fun _ hk => trivial), qB HB⟩
      ·
       rw [if_neg c101] at H
       exact absurd H (by simp)
     ·
      rw [if_neg c97] at H
      exact absurd H (by simp)

end Go.Proofs.Ytahfemlfdpbkkaa.PFnExactCtlOk
