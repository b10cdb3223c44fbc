-- Written by a program of this session (myprint.py, over the kit's print): contracts of FnItems
import Derived.Test.YtiffahfpfgnjnaaPFnItemsx0
import Derived.Test.YtiffahfpfgnjnaaPFnItemsx1
import Derived.Test.YtiffahfpfgnjnaaPFnItemsx2
import Derived.Test.YtiffahfpfgnjnaaPFnItemsx14
import Derived.Test.YtiffahfpfgnjnaaPFnItemsx15
namespace Go.Proofs.Ytiffahfpfgnjnaa.PFnItems
open Go.RowKit Go.Proofs.YtiffahfpfgnjnaaW.PrintWords Go.Proofs.YtiffahfpfgnjnaaW.PrintLast Go.Proofs.YtiffahfpfgnjnaaW.PrintMore Go.Proofs.YtiffahfpfgnjnaaV
attribute [local go_sem] max2_int min2_int max_two min_two max_three min_three max_four min_four   -- for this text's walks alone
set_option linter.unusedVariables false
set_option linter.unusedSimpArgs false

attribute [local go_sem high] eqA25 eqA27
/-! ### spec_PutItem: function 20 -/
mutual
def spec_PutItem.j0 : Nat → Bool → Int → ByteArray → Int → Int → Int → ByteArray → Int → Int → Option (List Int)
 | 0, _, _, _, _, _, _, _, _, _ => none
 | k + 1, x25, x605000, x605001, x605002, x605003, x605004, x605005, x605006, x605007 => if x25 = true then (some (([] : List Int))) else ((spec_PutWord.f (([1] : List Int)) x605000).bind fun t612 => ((some (([(x605002) % 256] : List Int) : List Int)).bind fun y615 => (if t612.length + y615.length < 140737488355328 then ((spec_PutText.f k (t612 ++ y615) x605001).bind fun t621 => ((spec_PutWord.f t621 x605003).bind fun t624 => ((spec_PutWord.f t624 (wrap64 (Int.tdiv x605004 256))).bind fun t627 => ((some (([(Int.tmod x605004 256) % 256] : List Int) : List Int)).bind fun y630 => (if t627.length + y630.length < 140737488355328 then ((spec_PutText.f k (t627 ++ y630) x605005).bind fun t636 => ((spec_PutWord.f t636 x605006).bind fun t639 => ((spec_PutWord.f t639 x605007).bind fun t642 => (some t642)))) else (none)))))) else (none))))
def spec_PutItem.j1 : Nat → Bool → Int → ByteArray → Int → Int → Int → Int → Int → Option (List Int)
 | 0, _, _, _, _, _, _, _, _ => none
 | k + 1, x83, x646000, x646001, x646002, x646003, x646004, x646005, x646006 => if x83 = true then (some (([] : List Int))) else ((spec_PutWord.f (([2] : List Int)) x646000).bind fun t653 => ((some (([(x646003) % 256] : List Int) : List Int)).bind fun y656 => (if t653.length + y656.length < 140737488355328 then ((spec_PutText.f k (t653 ++ y656) x646001).bind fun t662 => ((spec_PutWord.f t662 x646002).bind fun t665 => ((spec_PutWord.f t665 (wrap64 (Int.tdiv x646004 256))).bind fun t668 => ((some (([(Int.tmod x646004 256) % 256] : List Int) : List Int)).bind fun y671 => (if t668.length + y671.length < 140737488355328 then ((spec_PutWord.f (t668 ++ y671) x646005).bind fun t677 => ((spec_PutWord.f t677 x646006).bind fun t680 => (some t680))) else (none)))))) else (none))))
end
def spec_PutItem.f (k : Nat) (a0_0 : Int) (a0_1 : Int) (a0_2 : ByteArray) (a0_3 : Int) (a0_4 : Int) (a0_5 : Int) (a0_6 : ByteArray) (a0_7 : Int) (a0_8 : Int) (a0_9 : Int) (a0_10 : ByteArray) (a0_11 : Int) (a0_12 : Int) (a0_13 : Int) (a0_14 : Int) (a0_15 : Int) : Option (List Int) := if a0_0 = 1 then ((spec_AskerOk.f k a0_1 a0_2 a0_3 a0_4 a0_5 a0_6 a0_7 a0_8).bind fun t605 => (if t605 = true then (if (!(a0_9 == 0) || (!(a0_10.toList == ([] : List UInt8)) || (!(a0_11 == 0) || (!(a0_12 == 0) || (!(a0_13 == 0) || (!(a0_14 == 0) || (!(a0_15 == 0)))))))) = true then (spec_PutItem.j0 k true a0_1 a0_2 a0_3 a0_4 a0_5 a0_6 a0_7 a0_8) else (spec_PutItem.j0 k (decide (a0_8 > 65535)) a0_1 a0_2 a0_3 a0_4 a0_5 a0_6 a0_7 a0_8)) else (spec_PutItem.j0 k true a0_1 a0_2 a0_3 a0_4 a0_5 a0_6 a0_7 a0_8))) else (if a0_0 = 2 then ((spec_LineOk.f k a0_9 a0_10 a0_11 a0_12 a0_13 a0_14 a0_15).bind fun t646 => (if t646 = true then (if (!(a0_1 == 0) || (!(a0_2.toList == ([] : List UInt8)) || (!(a0_3 == 0) || (!(a0_4 == 0) || (!(a0_5 == 0) || (!(a0_6.toList == ([] : List UInt8)) || (!(a0_7 == 0) || (!(a0_8 == 0))))))))) = true then (spec_PutItem.j1 k true a0_9 a0_10 a0_11 a0_12 a0_13 a0_14 a0_15) else (spec_PutItem.j1 k (decide (a0_15 > 65535)) a0_9 a0_10 a0_11 a0_12 a0_13 a0_14 a0_15)) else (spec_PutItem.j1 k true a0_9 a0_10 a0_11 a0_12 a0_13 a0_14 a0_15))) else (spec_PutItem.j1 k true a0_9 a0_10 a0_11 a0_12 a0_13 a0_14 a0_15))
theorem spec_PutItem.mono_l : ∀ k, (∀ y0 y1 y2 y3 y4 y5 y6 y7 y8, LeO (spec_PutItem.j0 k y0 y1 y2 y3 y4 y5 y6 y7 y8) (spec_PutItem.j0 (k + 1) y0 y1 y2 y3 y4 y5 y6 y7 y8)) ∧ (∀ y0 y1 y2 y3 y4 y5 y6 y7, LeO (spec_PutItem.j1 k y0 y1 y2 y3 y4 y5 y6 y7) (spec_PutItem.j1 (k + 1) y0 y1 y2 y3 y4 y5 y6 y7))
 | 0 => ⟨fun _ _ _ _ _ _ _ _ _ r h => by simp [spec_PutItem.j0] at h, fun _ _ _ _ _ _ _ _ r h => by simp [spec_PutItem.j1] at h⟩
 | k + 1 => by
  obtain ⟨ih0, ih1⟩ := spec_PutItem.mono_l k
  refine ⟨?_, ?_⟩
  ·
   intro y0 y1 y2 y3 y4 y5 y6 y7 y8
   unfold spec_PutItem.j0
   repeat' first
   | (with_reducible exact ih0 _ _ _ _ _ _ _ _ _)
   | (with_reducible exact ih1 _ _ _ _ _ _ _ _)
   | (with_reducible exact spec_AskerOk.mono _ _ _ _ _ _ _ _ _)
   | (with_reducible exact spec_LineOk.mono _ _ _ _ _ _ _ _)
   | (with_reducible exact spec_PutText.mono _ _ _)
   | (with_reducible exact LeO.refl _)
   | (with_reducible exact LeO.none _)
   | (with_reducible refine LeO.ite ?_ ?_)
   | (with_reducible refine LeO.bind ?_ (fun _ => ?_))
  ·
   intro y0 y1 y2 y3 y4 y5 y6 y7
   unfold spec_PutItem.j1
   repeat' first
   | (with_reducible exact ih0 _ _ _ _ _ _ _ _ _)
   | (with_reducible exact ih1 _ _ _ _ _ _ _ _)
   | (with_reducible exact spec_AskerOk.mono _ _ _ _ _ _ _ _ _)
   | (with_reducible exact spec_LineOk.mono _ _ _ _ _ _ _ _)
   | (with_reducible exact spec_PutText.mono _ _ _)
   | (with_reducible exact LeO.refl _)
   | (with_reducible exact LeO.none _)
   | (with_reducible refine LeO.ite ?_ ?_)
   | (with_reducible refine LeO.bind ?_ (fun _ => ?_))
theorem spec_PutItem.mono : ∀ a0 a1 a2 a3 a4 a5 a6 a7 a8 a9 a10 a11 a12 a13 a14 a15 k, LeO (spec_PutItem.f k a0 a1 a2 a3 a4 a5 a6 a7 a8 a9 a10 a11 a12 a13 a14 a15) (spec_PutItem.f (k + 1) a0 a1 a2 a3 a4 a5 a6 a7 a8 a9 a10 a11 a12 a13 a14 a15) := by
 intro a0 a1 a2 a3 a4 a5 a6 a7 a8 a9 a10 a11 a12 a13 a14 a15 k
 obtain ⟨ih0, ih1⟩ := spec_PutItem.mono_l k
 unfold spec_PutItem.f
 repeat' first
   | (with_reducible exact ih0 _ _ _ _ _ _ _ _ _)
   | (with_reducible exact ih1 _ _ _ _ _ _ _ _)
   | (with_reducible exact spec_AskerOk.mono _ _ _ _ _ _ _ _ _)
   | (with_reducible exact spec_LineOk.mono _ _ _ _ _ _ _ _)
   | (with_reducible exact spec_PutText.mono _ _ _)
   | (with_reducible exact LeO.refl _)
   | (with_reducible exact LeO.none _)
   | (with_reducible refine LeO.ite ?_ ?_)
   | (with_reducible refine LeO.bind ?_ (fun _ => ?_))
def spec_PutItem.T5 : Bool × List (List Nat × List Nat) := (true, [([], []), ([], []), ([1], [1]), ([0, 2], [0, 2]), ([], []), ([4], [4]), ([5], [5]), ([6], [6]), ([3, 7, 3], [3, 7]), ([], []), ([9], [9]), ([8, 10, 8], [8, 10]), ([11, 11, 0, 1, 2, 3, 4, 5, 6, 7, 8, 9, 10, 11], [11])])
def spec_PutItem.B5 : List Nat := [0, 0, 2, 7, 0, 16, 48, 112, 255, 0, 512, 2047, 4095]
theorem spec_PutItem.tab5 : rtab .any (opsOf Try.f20 5) = spec_PutItem.T5 := by kernel_rfl
theorem spec_PutItem.bits5 : waitsOk spec_PutItem.T5.2 spec_PutItem.B5 = true := by kernel_rfl
def spec_PutItem.T6 : Bool × List (List Nat × List Nat) := (true, [([], []), ([], []), ([1], [1]), ([0, 2], [0, 2]), ([], []), ([4], [4]), ([5], [5]), ([3, 6, 3], [3, 6]), ([], []), ([8], [8]), ([9], [9]), ([10], [10]), ([11], [11]), ([7, 12, 7], [7, 12]), ([13, 13, 0, 1, 2, 3, 4, 5, 6, 7, 8, 9, 10, 11, 12, 13], [0, 13])])
def spec_PutItem.B6 : List Nat := [0, 0, 2, 7, 0, 16, 48, 127, 0, 256, 768, 1792, 3840, 8191, 16383]
theorem spec_PutItem.tab6 : rtab .any (opsOf Try.f20 6) = spec_PutItem.T6 := by kernel_rfl
theorem spec_PutItem.bits6 : waitsOk spec_PutItem.T6.2 spec_PutItem.B6 = true := by kernel_rfl
def spec_PutItem.T7 : Bool × List (List Nat × List Nat) := (true, [([], []), ([], []), ([1], [1]), ([0, 2], [0, 2]), ([], []), ([4], [4]), ([3, 5, 3], [3, 5]), ([], []), ([7], [7]), ([6, 8, 6], [6, 8]), ([9, 9, 0, 1, 2, 3, 4, 5, 6, 7, 8, 9], [9])])
def spec_PutItem.B7 : List Nat := [0, 0, 2, 7, 0, 16, 63, 0, 128, 511, 1023]
theorem spec_PutItem.tab7 : rtab .any (opsOf Try.f20 7) = spec_PutItem.T7 := by kernel_rfl
theorem spec_PutItem.bits7 : waitsOk spec_PutItem.T7.2 spec_PutItem.B7 = true := by kernel_rfl
def spec_PutItem.T11 : Bool × List (List Nat × List Nat) := (true, [([], []), ([], []), ([1], [1]), ([0, 2], [0, 2]), ([], []), ([4], [4]), ([5], [5]), ([6], [6]), ([3, 7, 3], [3, 7]), ([], []), ([9], [9]), ([8, 10, 8], [8, 10]), ([], []), ([12], [12]), ([11, 13, 11], [11, 13]), ([14, 14, 0, 1, 2, 3, 4, 5, 6, 7, 8, 9, 10, 11, 12, 13, 14], [14])])
def spec_PutItem.B11 : List Nat := [0, 0, 2, 7, 0, 16, 48, 112, 255, 0, 512, 2047, 0, 4096, 16383, 32767]
theorem spec_PutItem.tab11 : rtab .any (opsOf Try.f20 11) = spec_PutItem.T11 := by kernel_rfl
theorem spec_PutItem.bits11 : waitsOk spec_PutItem.T11.2 spec_PutItem.B11 = true := by kernel_rfl
def spec_PutItem.T12 : Bool × List (List Nat × List Nat) := (true, [([], []), ([], []), ([1], [1]), ([2], [2]), ([0, 3], [0, 3]), ([], []), ([5], [5]), ([6], [6]), ([7], [7]), ([8], [8]), ([4, 9, 4], [4, 9]), ([], []), ([11], [11]), ([10, 12, 10], [10, 12]), ([], []), ([14], [14]), ([13, 15, 13], [13, 15]), ([16, 16, 0, 1, 2, 3, 4, 5, 6, 7, 8, 9, 10, 11, 12, 13, 14, 15, 16], [16])])
def spec_PutItem.B12 : List Nat := [0, 0, 2, 6, 15, 0, 32, 96, 224, 480, 1023, 0, 2048, 8191, 0, 16384, 65535, 131071]
theorem spec_PutItem.tab12 : rtab .any (opsOf Try.f20 12) = spec_PutItem.T12 := by kernel_rfl
theorem spec_PutItem.bits12 : waitsOk spec_PutItem.T12.2 spec_PutItem.B12 = true := by kernel_rfl
set_option maxHeartbeats 8000000 in
set_option maxRecDepth 100000 in
theorem spec_PutItem.calls (k : Nat) (a0_0 : Int) (a0_1 : Int) (a0_2 : ByteArray) (a0_3 : Int) (a0_4 : Int) (a0_5 : Int) (a0_6 : ByteArray) (a0_7 : Int) (a0_8 : Int) (a0_9 : Int) (a0_10 : ByteArray) (a0_11 : Int) (a0_12 : Int) (a0_13 : Int) (a0_14 : Int) (a0_15 : Int) (r : List Int) (w : World) (h : spec_PutItem.f k a0_0 a0_1 a0_2 a0_3 a0_4 a0_5 a0_6 a0_7 a0_8 a0_9 a0_10 a0_11 a0_12 a0_13 a0_14 a0_15 = some r) :
  Calls Try.prog 20 #[.agg #[.int .i64 a0_0, .int .i64 a0_1, .string a0_2, .int .i64 a0_3, .int .i64 a0_4, .int .i64 a0_5, .string a0_6, .int .i64 a0_7, .int .i64 a0_8, .int .i64 a0_9, .string a0_10, .int .i64 a0_11, .int .i64 a0_12, .int .i64 a0_13, .int .i64 a0_14, .int .i64 a0_15]] w fun e w' => ∃ v0_ : Value, e = .returned (v0_) ∧ Kd.R (Kd.int .u8) 5 w' w.heap.size (fun _ => True) v0_ r ∧ Below w.heap.size w w' := by
 have hu29 := Try.underlying29
 have hu25 := Try.underlying25
 have hu27 := Try.underlying27
 have HB := Aside0.mk (Below.refl w.heap.size w)
 have H := h
 unfold spec_PutItem.f at H
 clear h
 have HC2 := Aside0.mk H
 clear H
 go_enter Try.func20, Try.ntmps20
 go_upto_if 9 with (first | ((with_reducible refine gate_dst (N := 1) rfl ?_); refine box_event ?hg (N := 1) ?hd (cs := #[.int .i64 a0_0, .int .i64 a0_1, .string a0_2, .int .i64 a0_3, .int .i64 a0_4, .int .i64 a0_5, .string a0_6, .int .i64 a0_7, .int .i64 a0_8, .int .i64 a0_9, .string a0_10, .int .i64 a0_11, .int .i64 a0_12, .int .i64 a0_13, .int .i64 a0_14, .int .i64 a0_15]) (t := 29) ?hr ?_; (case hd => rfl); (case hg => rfl); (case hr => first | (go_simp; done) | (go_simp; rfl)); intro gb603 hg w3 hbox hb; have BK603 := am_ (hbox); have GW603 := gA_ hg HB; have GE603 := GW603; have IGE603 := gI_ GE603; replace HB := bS_ HB hb; clear hb hbox hg; (try clear zK603); have zK603 := cz16 BK603.out; (try clear fK603); have fK603 := fz16 BK603.out))
 (try simp only [Act.put, List.setIfInBounds_toArray, List.set_cons_zero, List.set_cons_succ])
 have H := HC2.out
 clear HC2
 by_cases c5 : a0_0 = 1
 rotate_left
 ·
  rw [if_neg c5] at H
  have c5b0 : (a0_0 == 1) = false := beq_eq_false_iff_ne.mpr c5
  have c5b1 : (a0_0 != 1) = true := bne_iff_ne.mpr c5
  (first | rw [c5b0] | rw [c5b1] | (simp only [i64_w, i32_w]; rw [c5b0]) | skip)
  have HC67 := Aside0.mk H
  clear H
  (try clear zK603)
  have zK603 := cz16 BK603.out
  (try clear fK603)
  have fK603 := fz16 BK603.out
  go_upto_region 9 with (first | ((with_reducible refine gate_dst (N := 5) rfl ?_); refine box_event ?hg (N := 5) ?hd (cs := #[.int .i64 0, .string (⟨#[]⟩ : ByteArray), .int .i64 0, .int .i64 0, .int .i64 0, .int .i64 0, .int .i64 0]) (t := 27) ?hr ?_; (case hd => rfl); (case hg => rfl); (case hr => first | (go_simp; done) | (go_simp; rfl)); intro gb645 hg w69 hbox hb; have BK645 := am_ (hbox); have GW645 := gA_ hg HB; have GE645 := GW645; have IGE645 := gI_ GE645; replace HB := bS_ HB hb; have NB603_645 := am_ ((gN_ hg (qK BK603))); have NB645_603 := am_ ((gM_ hg (qK BK603))); replace BK603 := bK_ BK603 hb; clear hb hbox hg; have hnb70 := NB645_603.out; have hnc70 := NB603_645.out; (try clear zK645); have zK645 := cz7 BK645.out; (try clear fK645); have fK645 := fz7 BK645.out))
  (try simp only [Act.put, List.setIfInBounds_toArray, List.set_cons_zero, List.set_cons_succ])
  go_cut [83] (fun v83 wc => ∃ (kq : Nat) (x83_66 : Bool), v83 = .bool x83_66 ∧ Aside0 (spec_PutItem.j1 kq x83_66 a0_9 a0_10 a0_11 a0_12 a0_13 a0_14 a0_15 = some r) ∧ Aside0 (kq ≤ k) ∧ Aside0 (wc.heap[gb603]? = some (.cells #[.int .i64 a0_0, .int .i64 a0_1, .string a0_2, .int .i64 a0_3, .int .i64 a0_4, .int .i64 a0_5, .string a0_6, .int .i64 a0_7, .int .i64 a0_8, .int .i64 a0_9, .string a0_10, .int .i64 a0_11, .int .i64 a0_12, .int .i64 a0_13, .int .i64 a0_14, .int .i64 a0_15] 29 (0, 0))) ∧ Aside0 (wc.heap[gb645]? = some (.cells #[.int .i64 a0_9, .string a0_10, .int .i64 a0_11, .int .i64 a0_12, .int .i64 a0_13, .int .i64 a0_14, .int .i64 a0_15] 27 (0, 0))) ∧ Aside0 (Below w.heap.size w wc))
  case first =>
   have H := HC67.out
   clear HC67
   by_cases c72 : a0_0 = 2
   rotate_left
   ·
    rw [if_neg c72] at H
    have c72b0 : (a0_0 == 2) = false := beq_eq_false_iff_ne.mpr c72
    have c72b1 : (a0_0 != 2) = true := bne_iff_ne.mpr c72
    (first | rw [c72b0] | rw [c72b1] | (simp only [i64_w, i32_w]; rw [c72b0]) | skip)
    have H' := Aside0.mk H
    clear H
    have hnb91 := NB603_645.out
    have hnc91 := NB645_603.out
    (try clear zK603)
    have zK603 := cz16 BK603.out
    (try clear fK603)
    have fK603 := fz16 BK603.out
    go_wp2
    go_meet
    case rel => exact ⟨_, (true), eqq_, H', ⟨by first | omega | exact Nat.le_refl _⟩, ⟨by (with_reducible repeat (first | refine blk_drewN ?_ _ | refine blk_drew ?_ | refine blk_alloc ?_ _)); refine blk_far7 ?_ NB603_645.out; exact qK BK603⟩, ⟨by (with_reducible repeat (first | refine blk_drewN ?_ _ | refine blk_drew ?_ | refine blk_alloc ?_ _)); refine blk_all7 (show _ = some (Go.Obj.cells #[.int .i64 0, .string (⟨#[]⟩ : ByteArray), .int .i64 0, .int .i64 0, .int .i64 0, .int .i64 0, .int .i64 0] _ (0, 0)) from ?_); exact qK BK645⟩, ⟨qB HB⟩⟩
   rw [if_pos c72] at H
   have c72b0 : (a0_0 == 2) = true := beq_iff_eq.mpr c72
   have c72b1 : (a0_0 != 2) = false := bne_eq_false_iff_eq.mpr c72
   clear c72
   (first | rw [c72b0] | rw [c72b1] | (simp only [i64_w, i32_w]; rw [c72b0]) | skip)
   replace H := bd_ H
   obtain ⟨t646, A73, H⟩ := H
   by_cases c74 : t646 = true
   rotate_left
   ·
    replace c74 := Bool.eq_false_iff.mpr c74
    subst c74
    rw [if_neg (show ¬ (false = true) by decide)] at H
    have H' := Aside0.mk H
    clear H
    have hnb87 := NB603_645.out
    have hnc87 := NB645_603.out
    (try clear zK603)
    have zK603 := cz16 BK603.out
    (try clear fK603)
    have fK603 := fz16 BK603.out
    (try clear zK645)
    have zK645 := cz7 BK645.out
    (try clear fK645)
    have fK645 := fz7 BK645.out
    go_wp2_with (first | (go_at_call 19; (with_reducible refine (spec_LineOk.calls k a0_9 a0_10 a0_11 a0_12 a0_13 a0_14 a0_15 false _ A73.out).mono ?_); rintro e w90 ⟨rfl, hb⟩; replace BK603 := am_ (blk_below (g := gb603) (o := .cells #[.int .i64 a0_0, .int .i64 a0_1, .string a0_2, .int .i64 a0_3, .int .i64 a0_4, .int .i64 a0_5, .string a0_6, .int .i64 a0_7, .int .i64 a0_8, .int .i64 a0_9, .string a0_10, .int .i64 a0_11, .int .i64 a0_12, .int .i64 a0_13, .int .i64 a0_14, .int .i64 a0_15] 29 (0, 0)) (by (with_reducible repeat (first | refine blk_drewN ?_ _ | refine blk_drew ?_ | refine blk_alloc ?_ _)); refine blk_far7 ?_ NB603_645.out; exact qK BK603) hb); replace BK645 := am_ (blk_below (g := gb645) (o := .cells #[.int .i64 a0_9, .string a0_10, .int .i64 a0_11, .int .i64 a0_12, .int .i64 a0_13, .int .i64 a0_14, .int .i64 a0_15] 27 (0, 0)) (by exact blk_all7 (qK BK645)) hb); replace HB := bS_ HB hb; (try clear hb)))
    go_meet
    case rel => exact ⟨_, (true), eqq_, H', ⟨by first | omega | exact Nat.le_refl _⟩, ⟨qK BK603⟩, ⟨qK BK645⟩, ⟨qB HB⟩⟩
   subst c74
   rw [if_pos rfl] at H
   by_cases c75 : (!(a0_1 == 0) || (!(a0_2.toList == ([] : List UInt8)) || (!(a0_3 == 0) || (!(a0_4 == 0) || (!(a0_5 == 0) || (!(a0_6.toList == ([] : List UInt8)) || (!(a0_7 == 0) || (!(a0_8 == 0))))))))) = true
   ·
    rw [if_pos c75] at H
    have c75b0 : (!(a0_1 == 0) || (!(a0_2.toList == ([] : List UInt8)) || (!(a0_3 == 0) || (!(a0_4 == 0) || (!(a0_5 == 0) || (!(a0_6.toList == ([] : List UInt8)) || (!(a0_7 == 0) || (!(a0_8 == 0))))))))) = true := c75
    (try (have c75b0e := c75b0; simp only [beq_nil, bne_nil] at c75b0e))
    clear c75
    have H' := Aside0.mk H
    clear H
    have hnb76 := NB603_645.out
    have hnc76 := NB645_603.out
    (try clear zK603)
    have zK603 := cz16 BK603.out
    (try clear fK603)
    have fK603 := fz16 BK603.out
    (try clear zK645)
    have zK645 := cz7 BK645.out
    (try clear fK645)
    have fK645 := fz7 BK645.out
    go_wp2_with (first | (go_at_call 19; (with_reducible refine (spec_LineOk.calls k a0_9 a0_10 a0_11 a0_12 a0_13 a0_14 a0_15 true _ A73.out).mono ?_); rintro e w79 ⟨rfl, hb⟩; replace BK603 := am_ (blk_below (g := gb603) (o := .cells #[.int .i64 a0_0, .int .i64 a0_1, .string a0_2, .int .i64 a0_3, .int .i64 a0_4, .int .i64 a0_5, .string a0_6, .int .i64 a0_7, .int .i64 a0_8, .int .i64 a0_9, .string a0_10, .int .i64 a0_11, .int .i64 a0_12, .int .i64 a0_13, .int .i64 a0_14, .int .i64 a0_15] 29 (0, 0)) (by (with_reducible repeat (first | refine blk_drewN ?_ _ | refine blk_drew ?_ | refine blk_alloc ?_ _)); refine blk_far7 ?_ NB603_645.out; exact qK BK603) hb); replace BK645 := am_ (blk_below (g := gb645) (o := .cells #[.int .i64 a0_9, .string a0_10, .int .i64 a0_11, .int .i64 a0_12, .int .i64 a0_13, .int .i64 a0_14, .int .i64 a0_15] 27 (0, 0)) (by exact blk_all7 (qK BK645)) hb); replace HB := bS_ HB hb; (try clear hb); (try clear zK603); have zK603 := cz16 BK603.out; (try clear fK603); have fK603 := fz16 BK603.out))
    go_meet
    case rel => exact ⟨_, (true), eqq_, H', ⟨by first | omega | exact Nat.le_refl _⟩, ⟨qK BK603⟩, ⟨qK BK645⟩, ⟨qB HB⟩⟩
   rw [if_neg c75] at H
   have c75b0 : (!(a0_1 == 0) || (!(a0_2.toList == ([] : List UInt8)) || (!(a0_3 == 0) || (!(a0_4 == 0) || (!(a0_5 == 0) || (!(a0_6.toList == ([] : List UInt8)) || (!(a0_7 == 0) || (!(a0_8 == 0))))))))) = false := by simpa using c75
   (try (have c75b0e := c75b0; simp only [beq_nil, bne_nil] at c75b0e))
   clear c75
   have H' := Aside0.mk H
   clear H
   have hnb81 := NB603_645.out
   have hnc81 := NB645_603.out
   (try clear zK603)
   have zK603 := cz16 BK603.out
   (try clear fK603)
   have fK603 := fz16 BK603.out
   (try clear zK645)
   have zK645 := cz7 BK645.out
   (try clear fK645)
   have fK645 := fz7 BK645.out
   go_wp2_with (first | (go_at_call 19; (with_reducible refine (spec_LineOk.calls k a0_9 a0_10 a0_11 a0_12 a0_13 a0_14 a0_15 true _ A73.out).mono ?_); rintro e w84 ⟨rfl, hb⟩; replace BK603 := am_ (blk_below (g := gb603) (o := .cells #[.int .i64 a0_0, .int .i64 a0_1, .string a0_2, .int .i64 a0_3, .int .i64 a0_4, .int .i64 a0_5, .string a0_6, .int .i64 a0_7, .int .i64 a0_8, .int .i64 a0_9, .string a0_10, .int .i64 a0_11, .int .i64 a0_12, .int .i64 a0_13, .int .i64 a0_14, .int .i64 a0_15] 29 (0, 0)) (by (with_reducible repeat (first | refine blk_drewN ?_ _ | refine blk_drew ?_ | refine blk_alloc ?_ _)); refine blk_far7 ?_ NB603_645.out; exact qK BK603) hb); replace BK645 := am_ (blk_below (g := gb645) (o := .cells #[.int .i64 a0_9, .string a0_10, .int .i64 a0_11, .int .i64 a0_12, .int .i64 a0_13, .int .i64 a0_14, .int .i64 a0_15] 27 (0, 0)) (by exact blk_all7 (qK BK645)) hb); replace HB := bS_ HB hb; (try clear hb); (try clear zK603); have zK603 := cz16 BK603.out; (try clear fK603); have fK603 := fz16 BK603.out; (try clear zK645); have zK645 := cz7 BK645.out; (try clear fK645); have fK645 := fz7 BK645.out))
   go_meet
   case rel => exact ⟨_, (decide (a0_15 > 65535)), eqq_, H', ⟨by first | omega | exact Nat.le_refl _⟩, ⟨qK BK603⟩, ⟨qK BK645⟩, ⟨qB HB⟩⟩
  case rest =>
   clear HC67
   try clear p2
   try clear c3
   try clear c5
   try clear c5b0
   try clear c5b1
   try clear c7
   try clear c8
   try clear c9
   try clear c30
   try clear c34
   try clear c70
   try clear c72
   try clear c72b0
   try clear c72b1
   try clear c74
   try clear c75
   try clear c75b0
   try clear c76
   try clear c81
   try clear c87
   try clear c88
   try clear c89
   try clear c91
   (try clear zK603)
   (try clear zK645)
   (try clear zK603)
   (try clear zK645)
   (try clear zK603)
   (try clear zK603)
   (try clear zK645)
   (try clear zK603)
   (try clear zK645)
   (try clear zK603)
   (try clear zK645)
   (try clear zK603)
   (try clear fK603)
   (try clear fK645)
   (try clear fK603)
   (try clear fK645)
   (try clear fK603)
   (try clear fK603)
   (try clear fK645)
   (try clear fK603)
   (try clear fK645)
   (try clear fK603)
   (try clear fK645)
   (try clear fK603)
   obtain ⟨kq, x83_66, rfl, HA, HJ66, BK603, BK645, HB⟩ := hcut
   cases kq with
   | zero => exact absurd HA.out (by simp [spec_PutItem.j1])
   | succ kj66 =>
    have H := HA.out
    clear HA
    simp only [spec_PutItem.j1] at H
    by_cases c93 : x83_66 = true
    ·
     subst c93
     rw [if_pos rfl] at H
     obtain ⟨y647, hy647⟩ : ∃ y_ : List Int, y_ = (([] : List Int)) := ⟨_, rfl⟩
     rw [← hy647] at H
     have Ny647 := Aside0.mk hy647
     clear hy647
     obtain rfl := Option.some.inj H
     go_wp2_with (first | ((with_reducible refine gate_dst (N := 84) rfl ?_); refine Kd.R_lit (Kd.int .u8) _ 5 ?hg (N := 84) ?hd (xs := ([] : List Int)) (inner := []) (ok := fun _ => True) (okp := fun _ => True) ?hr ?hp (fun _ hk => hk) trivial (Below.refl _ _) (Nat.le_refl _) (by simp) ?_; (case hd => rfl); (case hg => rfl); (case hr => first | (go_simp; done) | (go_simp; rfl)); (case hp => exact (Reps.none _ _)); intro v648 w94 ho95 hb hg_ hnew_; clear hg_ hnew_; (first | rw [← Ny647.out] at ho95 | (simp only [Int.reduceToNat] at ho95; rw [← Ny647.out] at ho95)); have HO649 := am_ (Kd.R_lower ho95 (below_size (qB HB))); replace BK603 := bK_ BK603 hb; replace BK645 := bK_ BK645 hb; replace HB := bS_ HB hb; clear hb ho95))
     go_ret
     exact ⟨_, er_, qR HO649, qB HB⟩
    replace c93 := Bool.eq_false_iff.mpr c93
    subst c93
    rw [if_neg (show ¬ (false = true) by decide)] at H
    obtain ⟨y650, hy650⟩ : ∃ y_ : List Int, y_ = (([2] : List Int)) := ⟨_, rfl⟩
    rw [← hy650] at H
    have Ny650 := Aside0.mk hy650
    clear hy650
    replace H := bd_ H
    obtain ⟨t653, A96, H⟩ := H
    obtain ⟨y656, hy656⟩ : ∃ y_ : List Int, y_ = (([(a0_12) % 256] : List Int)) := ⟨_, rfl⟩
    replace H := mk_ H hy656
    (try dsimp only at H)
    have Ny656 := Aside0.mk hy656
    clear hy656
    by_cases c97 : t653.length + y656.length < 140737488355328
    case neg => exact nn_ c97 H
    rw [if_pos c97] at H
    have LMc97 := Aside0.mk c97
    clear c97
    obtain ⟨y659, hy659⟩ : ∃ y_ : List Int, y_ = (t653 ++ y656) := ⟨_, rfl⟩
    replace H : ((spec_PutText.f kj66 y659 a0_10).bind fun t662 => ((spec_PutWord.f t662 a0_11).bind fun t665 => ((spec_PutWord.f t665 (wrap64 (Int.tdiv a0_13 256))).bind fun t668 => ((some (([(Int.tmod a0_13 256) % 256] : List Int) : List Int)).bind fun y671 => (if t668.length + y671.length < 140737488355328 then ((spec_PutWord.f (t668 ++ y671) a0_14).bind fun t677 => ((spec_PutWord.f t677 a0_15).bind fun t680 => (some t680))) else (none)))))) = some r := by first | (rw [hy659]; with_reducible exact H) | (have H2_ := (Option.bind_some _ _).symm.trans H; rw [hy659]; with_reducible exact H2_) | (have H2_ := (Option.bind_some _ _).symm.trans H; with_reducible exact H2_) | with_reducible exact H | (rw [hy659]; exact H) | exact H
    have Ny659 := Aside0.mk hy659
    clear hy659
    replace H := bd_ H
    obtain ⟨t662, A98, H⟩ := H
    replace H := bd_ H
    obtain ⟨t665, A99, H⟩ := H
    replace H := bd_ H
    obtain ⟨t668, A100, H⟩ := H
    obtain ⟨y671, hy671⟩ : ∃ y_ : List Int, y_ = (([(Int.tmod a0_13 256) % 256] : List Int)) := ⟨_, rfl⟩
    replace H := mk_ H hy671
    (try dsimp only at H)
    have Ny671 := Aside0.mk hy671
    clear hy671
    by_cases c101 : t668.length + y671.length < 140737488355328
    case neg => exact nn_ c101 H
    rw [if_pos c101] at H
    have LMc101 := Aside0.mk c101
    clear c101
    obtain ⟨y674, hy674⟩ : ∃ y_ : List Int, y_ = (t668 ++ y671) := ⟨_, rfl⟩
    replace H : ((spec_PutWord.f y674 a0_14).bind fun t677 => ((spec_PutWord.f t677 a0_15).bind fun t680 => (some t680))) = some r := by first | (rw [hy674]; with_reducible exact H) | (have H2_ := (Option.bind_some _ _).symm.trans H; rw [hy674]; with_reducible exact H2_) | (have H2_ := (Option.bind_some _ _).symm.trans H; with_reducible exact H2_) | with_reducible exact H | (rw [hy674]; exact H) | exact H
    have Ny674 := Aside0.mk hy674
    clear hy674
    replace H := bd_ H
    obtain ⟨t677, A102, H⟩ := H
    replace H := bd_ H
    obtain ⟨t680, A103, H⟩ := H
    obtain rfl := Option.some.inj H
    try go_wp2
    replace BK603 := am_ (blk_drew BK603.out)
    replace BK645 := am_ (blk_drew BK645.out)
    replace HB := am_ (below_drew1 HB.out)
    refine start_ (n := 16) (S := fun w' => w'.cell? ⟨gb645, 0, none⟩ = some (.int .i64 a0_9) ∧ w'.cell? ⟨gb645, 1, none⟩ = some (.string a0_10) ∧ w'.cell? ⟨gb645, 2, none⟩ = some (.int .i64 a0_11) ∧ w'.cell? ⟨gb645, 3, none⟩ = some (.int .i64 a0_12) ∧ w'.cell? ⟨gb645, 4, none⟩ = some (.int .i64 a0_13) ∧ w'.cell? ⟨gb645, 5, none⟩ = some (.int .i64 a0_14) ∧ w'.cell? ⟨gb645, 6, none⟩ = some (.int .i64 a0_15)) (ds := []) (rl [0,16]) (by kernel_rfl) rfl rfl (cz7 BK645.out) (fun hHeld => ?_); refine with_tabW spec_PutItem.tab11 spec_PutItem.bits11 (fun HT_ HW_ => ?_)
    generalize wc.drew = w104 at BK603 BK645 HB hHeld ⊢
    refine pz_ (i := 1) (N := some 86) HT_ (rl [0,1,1,14]) rfl rfl ?_
    refine pz_ (i := 4) (N := some 89) HT_ (rl [0,1,1,2,1,11]) rfl rfl ?_
    refine pz_ (i := 9) (N := some 94) HT_ (rl [0,1,1,2,1,4,1,6]) rfl rfl ?_
    refine pz_ (i := 12) (N := some 97) HT_ (rl [0,1,1,2,1,4,1,2,1,3]) rfl rfl ?_
    refine tz_ (i := 2) (N := some 87) HT_ HW_ (rl [0,1,2,1,1,4,1,2,1,3]) rfl rfl hHeld ?_
    refine tz_ (i := 5) (N := some 90) HT_ HW_ (rl [0,1,2,1,2,3,1,2,1,3]) rfl rfl hHeld ?_
    refine pz_ (i := 6) (N := some 91) HT_ (rl [0,1,2,1,3,2,1,2,1,3]) rfl rfl ?_
    refine tz_ (i := 10) (N := some 95) HT_ HW_ (rl [0,1,2,1,3,2,2,1,1,3]) rfl rfl hHeld ?_
    refine tz_ (i := 13) (N := some 98) HT_ HW_ (rl [0,1,2,1,3,2,2,1,2,2]) rfl rfl hHeld ?_
    refine join_ (σ := Value × Value × Value) 4 (rl [8,1,2,1,2,2]) (fun s_ => [(85, s_.1), (88, s_.2.1), (92, s_.2.2)]) (fun s_ w' => (w'.cell? ⟨gb645, 0, none⟩ = some (.int .i64 a0_9) ∧ w'.cell? ⟨gb645, 1, none⟩ = some (.string a0_10) ∧ w'.cell? ⟨gb645, 2, none⟩ = some (.int .i64 a0_11) ∧ w'.cell? ⟨gb645, 3, none⟩ = some (.int .i64 a0_12) ∧ w'.cell? ⟨gb645, 4, none⟩ = some (.int .i64 a0_13) ∧ w'.cell? ⟨gb645, 5, none⟩ = some (.int .i64 a0_14) ∧ w'.cell? ⟨gb645, 6, none⟩ = some (.int .i64 a0_15)) ∧ (Kd.R (Kd.int .u8) 5 w' w.heap.size (fun k_ => some k_ ≠ (s_.2.1 : Value).ownBlock ∧ some k_ ≠ (s_.2.2 : Value).ownBlock) s_.1 y650) ∧ (Kd.R (Kd.int .u8) 5 w' w.heap.size (fun k_ => some k_ ≠ (s_.1 : Value).ownBlock ∧ some k_ ≠ (s_.2.2 : Value).ownBlock) s_.2.1 t653) ∧ (Kd.R (Kd.int .u8) 5 w' w.heap.size (fun k_ => some k_ ≠ (s_.1 : Value).ownBlock ∧ some k_ ≠ (s_.2.1 : Value).ownBlock) s_.2.2 y656) ∧ (w'.heap[gb603]? = some (.cells #[.int .i64 a0_0, .int .i64 a0_1, .string a0_2, .int .i64 a0_3, .int .i64 a0_4, .int .i64 a0_5, .string a0_6, .int .i64 a0_7, .int .i64 a0_8, .int .i64 a0_9, .string a0_10, .int .i64 a0_11, .int .i64 a0_12, .int .i64 a0_13, .int .i64 a0_14, .int .i64 a0_15] 29 (0, 0))) ∧ (w'.heap[gb645]? = some (.cells #[.int .i64 a0_9, .string a0_10, .int .i64 a0_11, .int .i64 a0_12, .int .i64 a0_13, .int .i64 a0_14, .int .i64 a0_15] 27 (0, 0))) ∧ (Below w.heap.size w w')) ?_ ?_
    rotate_left
    ·
     intro hCont
     refine two_ (i := 0) (j := 7) (Ni := some 85) (Nj := some 92) (rl [3,1,3,2,2,1,2,2]) (rl [0,1,2,1,4,1,2,1,2,2]) rfl rfl rfl rfl (two_of HT_.out (by kernel_rfl)) (by decide) (by decide) (fun K hK => ?_) (fun K hK => ?_)
     ·
      skip
      refine Kd.R_lit_step (Kd.int .u8) _ 5 ?hg (N := 85) ?hd (xs := ([2] : List Int)) (inner := [.int .u8 2]) (ok := fun _ => True) (okp := fun _ => True) ?hr ?hp (fun _ hk => hk) trivial (Below.refl _ _) (Nat.le_refl _) (by simp) ?_; (case hd => rfl); (case hg => rfl); (case hr => first | (go_simp; done) | (go_simp; rfl)); (case hp => exact (Reps.one (show Kd.M (Kd.int .u8) _ _ _ 2 [.int .u8 2] from rfl) (Reps.none _ _)))
      intro v651 w105 ho106 hb hg_ hnew_
      clear hg_ hnew_
      (first | rw [← Ny650.out] at ho106 | (simp only [Int.reduceToNat] at ho106; rw [← Ny650.out] at ho106))
      have HO652 := am_ (Kd.R_lower ho106 (below_size (qB HB)))
      replace BK603 := bK_ BK603 hb
      replace BK645 := bK_ BK645 hb
      replace HB := bS_ HB hb
      clear hb ho106
      obtain ⟨Ao107, co107, eo107⟩ := Kd.R_slice HO652.out
      (first | subst eo107 | (injection eo107 with f1_ f2_ f3_; have f4_ := f1_.symm; have f5_ := f3_.symm; clear f1_ f2_ f3_; subst f4_; subst f5_))
      refine hK.out _ _ (cz7 BK645.out) (fun hHeld => ?_)
      clear hK K
      refine norm_ (a' := ?_) ?_ ?_
      rotate_left
      ·
       show Act.put _ (some 85) _ = _
       exact ap_
      refine two_ (i := 3) (j := 7) (Ni := some 88) (Nj := some 92) (rl [7,2,2,1,2,2]) (rl [3,1,4,1,2,1,2,2]) rfl rfl rfl rfl (two_of HT_.out (by kernel_rfl)) (by decide) (by decide) (fun K hK => ?_) (fun K hK => ?_)
      ·
       skip
       refine goes_ Try.func89 (by kernel_rfl) rfl #[.slice Ao107 y650.length co107, .int .i64 a0_9] (by rfl) rfl rfl la_ ?_
       with_reducible refine (spec_PutWord.calls _ _ y650 a0_9 t653 _ ?side1 ?side2 A96.out).mono ?_
       (case side1 => exact qC ((Kd.R_reads' HO652.out).2.2))
       (case side2 => exact (Kd.R_reads' HO652.out).2.1)
       rintro e w108 ⟨v654, rfl, ho0, hb⟩
       refine ⟨_, rfl, ?_⟩
       have HO655 := am_ (Kd.R_lower (Kd.R_new' ho0 (Kd.R_lt (qR HO652))) (below_size (qB HB)))
       replace HO652 := eA_ HO652 ho0 hb
       replace BK603 := bK_ BK603 hb
       replace BK645 := bK_ BK645 hb
       replace HB := bS_ HB hb
       (try clear hb ho0)
       refine hK.out _ _ (cz7 BK645.out) (fun hHeld => ?_)
       clear hK K
       refine norm_ (a' := ?_) ?_ ?_
       rotate_left
       ·
        show Act.put _ (some 88) _ = _
        exact ap_
       refine one_ (i := 7) (N := some 92) (rl [8,1,2,1,2,2]) rfl rfl (one_of HT_.out (by kernel_rfl)) (by decide) (fun K hK => ?_)
       refine Kd.R_lit_step (Kd.int .u8) _ 5 ?hg (N := 92) ?hd (xs := ([(a0_12) % 256] : List Int)) (inner := [.int .u8 ((a0_12) % 256)]) (ok := fun _ => True) (okp := fun _ => True) ?hr ?hp (fun _ hk => hk) trivial (Below.refl _ _) (Nat.le_refl _) (by simp) ?_; (case hd => rfl); (case hg => rfl); (case hr => first | (go_simp; done) | (go_simp; rfl)); (case hp => exact (Reps.one (show Kd.M (Kd.int .u8) _ _ _ ((a0_12) % 256) [.int .u8 ((a0_12) % 256)] from rfl) (Reps.none _ _)))
       intro v657 w109 ho110 hb hg_ hnew_
       clear hg_ hnew_
       (first | rw [← Ny656.out] at ho110 | (simp only [Int.reduceToNat] at ho110; rw [← Ny656.out] at ho110))
       have HO658 := am_ (Kd.R_lower (Kd.R_new' (Kd.R_new' ho110 (Kd.R_lt (qR HO652))) (Kd.R_lt (qR HO655))) (below_size (qB HB)))
       replace HO652 := eA_ HO652 ho110 hb
       replace HO655 := eA_ HO655 ho110 hb
       replace BK603 := bK_ BK603 hb
       replace BK645 := bK_ BK645 hb
       replace HB := bS_ HB hb
       clear hb ho110
       refine hK.out _ _ (cz7 BK645.out) (fun hHeld => ?_)
       clear hK K
       refine norm_ (a' := ?_) ?_ ?_
       rotate_left
       ·
        show Act.put _ (some 92) _ = _
        exact ap_
       exact norm_ (by simp only [putAll, Act.put, List.setIfInBounds_toArray, List.set_cons_zero, List.set_cons_succ]) (hCont (.slice Ao107 y650.length co107, v654, v657) _ ⟨hHeld, (tR (Kd.R_mono HO652.out (fun _ hk => ⟨hk.1.2, hk.2⟩))), (tR (Kd.R_mono HO655.out (fun _ hk => ⟨hk.1.2, hk.2⟩))), (tR (Kd.R_mono HO658.out (fun _ hk => ⟨hk.1.2, hk.2⟩))), (qK BK603), (qK BK645), (qB HB)⟩)
      ·
       skip
       refine Kd.R_lit_step (Kd.int .u8) _ 5 ?hg (N := 92) ?hd (xs := ([(a0_12) % 256] : List Int)) (inner := [.int .u8 ((a0_12) % 256)]) (ok := fun _ => True) (okp := fun _ => True) ?hr ?hp (fun _ hk => hk) trivial (Below.refl _ _) (Nat.le_refl _) (by simp) ?_; (case hd => rfl); (case hg => rfl); (case hr => first | (go_simp; done) | (go_simp; rfl)); (case hp => exact (Reps.one (show Kd.M (Kd.int .u8) _ _ _ ((a0_12) % 256) [.int .u8 ((a0_12) % 256)] from rfl) (Reps.none _ _)))
       intro v657 w107 ho108 hb hg_ hnew_
       clear hg_ hnew_
       (first | rw [← Ny656.out] at ho108 | (simp only [Int.reduceToNat] at ho108; rw [← Ny656.out] at ho108))
       have HO658 := am_ (Kd.R_lower (Kd.R_new' ho108 (Kd.R_lt (qR HO652))) (below_size (qB HB)))
       replace HO652 := eA_ HO652 ho108 hb
       replace BK603 := bK_ BK603 hb
       replace BK645 := bK_ BK645 hb
       replace HB := bS_ HB hb
       clear hb ho108
       obtain ⟨Ao109, co109, eo109⟩ := Kd.R_slice HO652.out
       (first | subst eo109 | (injection eo109 with f1_ f2_ f3_; have f4_ := f1_.symm; have f5_ := f3_.symm; clear f1_ f2_ f3_; subst f4_; subst f5_))
       refine hK.out _ _ (cz7 BK645.out) (fun hHeld => ?_)
       clear hK K
       refine norm_ (a' := ?_) ?_ ?_
       rotate_left
       ·
        show Act.put _ (some 92) _ = _
        exact ap_
       refine one_ (i := 3) (N := some 88) (rl [8,1,2,1,2,2]) rfl rfl (one_of HT_.out (by kernel_rfl)) (by decide) (fun K hK => ?_)
       refine goes_ Try.func89 (by kernel_rfl) rfl #[.slice Ao109 y650.length co109, .int .i64 a0_9] (by rfl) rfl rfl la_ ?_
       with_reducible refine (spec_PutWord.calls _ _ y650 a0_9 t653 _ ?side1 ?side2 A96.out).mono ?_
       (case side1 => exact qC ((Kd.R_reads' HO652.out).2.2))
       (case side2 => exact (Kd.R_reads' HO652.out).2.1)
       rintro e w110 ⟨v654, rfl, ho0, hb⟩
       refine ⟨_, rfl, ?_⟩
       have HO655 := am_ (Kd.R_lower (Kd.R_new' (Kd.R_new' ho0 (Kd.R_lt (qR HO652))) (Kd.R_lt (qR HO658))) (below_size (qB HB)))
       replace HO652 := eA_ HO652 ho0 hb
       replace HO658 := eA_ HO658 ho0 hb
       replace BK603 := bK_ BK603 hb
       replace BK645 := bK_ BK645 hb
       replace HB := bS_ HB hb
       (try clear hb ho0)
       refine hK.out _ _ (cz7 BK645.out) (fun hHeld => ?_)
       clear hK K
       refine norm_ (a' := ?_) ?_ ?_
       rotate_left
       ·
        show Act.put _ (some 88) _ = _
        exact ap_
       exact norm_ (by simp only [putAll, Act.put, List.setIfInBounds_toArray, List.set_cons_zero, List.set_cons_succ]) (hCont (.slice Ao109 y650.length co109, v654, v657) _ ⟨hHeld, (tR (Kd.R_mono HO652.out (fun _ hk => ⟨hk.2, hk.1.2⟩))), (tR (Kd.R_mono HO655.out (fun _ hk => ⟨hk.1.2, hk.2⟩))), (tR (Kd.R_mono HO658.out (fun _ hk => ⟨hk.1.2, hk.2⟩))), (qK BK603), (qK BK645), (qB HB)⟩)
     ·
      skip
      refine Kd.R_lit_step (Kd.int .u8) _ 5 ?hg (N := 92) ?hd (xs := ([(a0_12) % 256] : List Int)) (inner := [.int .u8 ((a0_12) % 256)]) (ok := fun _ => True) (okp := fun _ => True) ?hr ?hp (fun _ hk => hk) trivial (Below.refl _ _) (Nat.le_refl _) (by simp) ?_; (case hd => rfl); (case hg => rfl); (case hr => first | (go_simp; done) | (go_simp; rfl)); (case hp => exact (Reps.one (show Kd.M (Kd.int .u8) _ _ _ ((a0_12) % 256) [.int .u8 ((a0_12) % 256)] from rfl) (Reps.none _ _)))
      intro v657 w105 ho106 hb hg_ hnew_
      clear hg_ hnew_
      (first | rw [← Ny656.out] at ho106 | (simp only [Int.reduceToNat] at ho106; rw [← Ny656.out] at ho106))
      have HO658 := am_ (Kd.R_lower ho106 (below_size (qB HB)))
      replace BK603 := bK_ BK603 hb
      replace BK645 := bK_ BK645 hb
      replace HB := bS_ HB hb
      clear hb ho106
      refine hK.out _ _ (cz7 BK645.out) (fun hHeld => ?_)
      clear hK K
      refine norm_ (a' := ?_) ?_ ?_
      rotate_left
      ·
       show Act.put _ (some 92) _ = _
       exact ap_
      refine one_ (i := 0) (N := some 85) (rl [3,1,4,1,2,1,2,2]) rfl rfl (one_of HT_.out (by kernel_rfl)) (by decide) (fun K hK => ?_)
      refine Kd.R_lit_step (Kd.int .u8) _ 5 ?hg (N := 85) ?hd (xs := ([2] : List Int)) (inner := [.int .u8 2]) (ok := fun _ => True) (okp := fun _ => True) ?hr ?hp (fun _ hk => hk) trivial (Below.refl _ _) (Nat.le_refl _) (by simp) ?_; (case hd => rfl); (case hg => rfl); (case hr => first | (go_simp; done) | (go_simp; rfl)); (case hp => exact (Reps.one (show Kd.M (Kd.int .u8) _ _ _ 2 [.int .u8 2] from rfl) (Reps.none _ _)))
      intro v651 w107 ho108 hb hg_ hnew_
      clear hg_ hnew_
      (first | rw [← Ny650.out] at ho108 | (simp only [Int.reduceToNat] at ho108; rw [← Ny650.out] at ho108))
      have HO652 := am_ (Kd.R_lower (Kd.R_new' ho108 (Kd.R_lt (qR HO658))) (below_size (qB HB)))
      replace HO658 := eA_ HO658 ho108 hb
      replace BK603 := bK_ BK603 hb
      replace BK645 := bK_ BK645 hb
      replace HB := bS_ HB hb
      clear hb ho108
      obtain ⟨Ao109, co109, eo109⟩ := Kd.R_slice HO652.out
      (first | subst eo109 | (injection eo109 with f1_ f2_ f3_; have f4_ := f1_.symm; have f5_ := f3_.symm; clear f1_ f2_ f3_; subst f4_; subst f5_))
      refine hK.out _ _ (cz7 BK645.out) (fun hHeld => ?_)
      clear hK K
      refine norm_ (a' := ?_) ?_ ?_
      rotate_left
      ·
       show Act.put _ (some 85) _ = _
       exact ap_
      refine one_ (i := 3) (N := some 88) (rl [8,1,2,1,2,2]) rfl rfl (one_of HT_.out (by kernel_rfl)) (by decide) (fun K hK => ?_)
      refine goes_ Try.func89 (by kernel_rfl) rfl #[.slice Ao109 y650.length co109, .int .i64 a0_9] (by rfl) rfl rfl la_ ?_
      with_reducible refine (spec_PutWord.calls _ _ y650 a0_9 t653 _ ?side1 ?side2 A96.out).mono ?_
      (case side1 => exact qC ((Kd.R_reads' HO652.out).2.2))
      (case side2 => exact (Kd.R_reads' HO652.out).2.1)
      rintro e w110 ⟨v654, rfl, ho0, hb⟩
      refine ⟨_, rfl, ?_⟩
      have HO655 := am_ (Kd.R_lower (Kd.R_new' (Kd.R_new' ho0 (Kd.R_lt (qR HO658))) (Kd.R_lt (qR HO652))) (below_size (qB HB)))
      replace HO658 := eA_ HO658 ho0 hb
      replace HO652 := eA_ HO652 ho0 hb
      replace BK603 := bK_ BK603 hb
      replace BK645 := bK_ BK645 hb
      replace HB := bS_ HB hb
      (try clear hb ho0)
      refine hK.out _ _ (cz7 BK645.out) (fun hHeld => ?_)
      clear hK K
      refine norm_ (a' := ?_) ?_ ?_
      rotate_left
      ·
       show Act.put _ (some 88) _ = _
       exact ap_
      exact norm_ (by simp only [putAll, Act.put, List.setIfInBounds_toArray, List.set_cons_zero, List.set_cons_succ]) (hCont (.slice Ao109 y650.length co109, v654, v657) _ ⟨hHeld, (tR (Kd.R_mono HO652.out (fun _ hk => ⟨hk.2, hk.1.2⟩))), (tR (Kd.R_mono HO655.out (fun _ hk => ⟨hk.2, hk.1.2⟩))), (tR (Kd.R_mono HO658.out (fun _ hk => ⟨hk.1.2, hk.2⟩))), (qK BK603), (qK BK645), (qB HB)⟩)
    rintro ⟨v651, v654, v657⟩ w111 ⟨hS_, h0_, h1_, h2_, h3_, h4_, h5_⟩
    have n0_ : Aside0 (Kd.R (Kd.int .u8) 5 w111 w.heap.size (fun k_ => some k_ ≠ (v654 : Value).ownBlock ∧ some k_ ≠ (v657 : Value).ownBlock) v651 y650) := ⟨h0_⟩
    have n1_ : Aside0 (Kd.R (Kd.int .u8) 5 w111 w.heap.size (fun k_ => some k_ ≠ (v651 : Value).ownBlock ∧ some k_ ≠ (v657 : Value).ownBlock) v654 t653) := ⟨h1_⟩
    have n2_ : Aside0 (Kd.R (Kd.int .u8) 5 w111 w.heap.size (fun k_ => some k_ ≠ (v651 : Value).ownBlock ∧ some k_ ≠ (v654 : Value).ownBlock) v657 y656) := ⟨h2_⟩
    have n3_ : Aside0 (w111.heap[gb603]? = some (.cells #[.int .i64 a0_0, .int .i64 a0_1, .string a0_2, .int .i64 a0_3, .int .i64 a0_4, .int .i64 a0_5, .string a0_6, .int .i64 a0_7, .int .i64 a0_8, .int .i64 a0_9, .string a0_10, .int .i64 a0_11, .int .i64 a0_12, .int .i64 a0_13, .int .i64 a0_14, .int .i64 a0_15] 29 (0, 0))) := ⟨h3_⟩
    have n4_ : Aside0 (w111.heap[gb645]? = some (.cells #[.int .i64 a0_9, .string a0_10, .int .i64 a0_11, .int .i64 a0_12, .int .i64 a0_13, .int .i64 a0_14, .int .i64 a0_15] 27 (0, 0))) := ⟨h4_⟩
    have n5_ : Aside0 (Below w.heap.size w w111) := ⟨h5_⟩
    clear BK603
    clear BK645
    clear HB
    clear h0_ h1_ h2_ h3_ h4_ h5_
    have HO652 := n0_
    have HO655 := n1_
    have HO658 := n2_
    have BK603 := n3_
    have BK645 := n4_
    have HB := n5_
    clear n0_ n1_ n2_ n3_ n4_ n5_
    have hHeld : w111.cell? ⟨gb645, 0, none⟩ = some (.int .i64 a0_9) ∧ w111.cell? ⟨gb645, 1, none⟩ = some (.string a0_10) ∧ w111.cell? ⟨gb645, 2, none⟩ = some (.int .i64 a0_11) ∧ w111.cell? ⟨gb645, 3, none⟩ = some (.int .i64 a0_12) ∧ w111.cell? ⟨gb645, 4, none⟩ = some (.int .i64 a0_13) ∧ w111.cell? ⟨gb645, 5, none⟩ = some (.int .i64 a0_14) ∧ w111.cell? ⟨gb645, 6, none⟩ = some (.int .i64 a0_15) := hS_
    obtain ⟨Ao113, co113, eo113⟩ := Kd.R_slice HO658.out
    (first | subst eo113 | (injection eo113 with f1_ f2_ f3_; have f4_ := f1_.symm; have f5_ := f3_.symm; clear f1_ f2_ f3_; subst f4_; subst f5_))
    refine norm_ (a' := ?_) ?_ ?_
    rotate_left
    ·
     simp only [putAll, Act.put, List.setIfInBounds_toArray, List.set_cons_zero, List.set_cons_succ]
     rfl
    refine one_ (i := 8) (N := some 93) (rl [11,1,2,2]) rfl rfl (one_of HT_.out (by kernel_rfl)) (by decide) (fun K hK => ?_)
    refine Kd.R_append_rows_step (Kd.int .u8) (w0 := w) w.heap.size (by rfl) (.tmp 88) (.tmp 92) 22 5 (.int .u8 0) 1 rfl Try.underlying22 info5 rfl (by decide) (by omega) v654 t653 y656 _ _ _ (fun k_ => some k_ ≠ (v651 : Value).ownBlock ∧ some k_ ≠ (.slice Ao113 y656.length co113 : Value).ownBlock) (fun _ => False) rfl rfl ?aO ?aR (fun _ _ h => h) (fun _ h => h.elim) ?aF ?aB ?aS ?aL ?_
    (case aR => exact qC ((Kd.R_reads' HO658.out).2.2))
    (case aB => exact (qB HB))
    (case aF => exact (fun k_ hk => ⟨Kd.fresh' (Kd.R_lt (qR HO652)) k_ hk, Kd.fresh' (Kd.R_lt (qR HO658)) k_ hk⟩))
    (case aO => exact (qR HO655))
    (case aS => exact (below_size (qB HB)))
    (case aL => have := LMc97.out; omega)
    intro v660 w112 ho hb hg hat
    rw [← Ny659.out] at ho
    replace BK603 := am_ (blk_grown (qK BK603) hg (Kd.R_ne HO655.out BK603.out (by decide)))
    replace BK645 := am_ (blk_grown (qK BK645) hg (Kd.R_ne HO655.out BK645.out (by decide)))
    replace HO652 := am_ (Kd.R_after (ok := (fun k_ => some k_ ≠ (.slice Ao113 y656.length co113 : Value).ownBlock)) (tR (Kd.R_mono HO652.out (fun _ hk => ⟨hk.2, hk.1⟩))) hg hat)
    replace HO658 := am_ (Kd.R_after (ok := (fun k_ => some k_ ≠ (v651 : Value).ownBlock)) (qR HO658) hg hat)
    replace HB := am_ (hb)
    have HO661 := am_ (ho)
    clear HO655
    clear ho hb hg hat
    obtain ⟨Ao114, co114, eo114⟩ := Kd.R_slice HO661.out
    (first | subst eo114 | (injection eo114 with f1_ f2_ f3_; have f4_ := f1_.symm; have f5_ := f3_.symm; clear f1_ f2_ f3_; subst f4_; subst f5_))
    refine hK.out _ _ (cz7 BK645.out) (fun hHeld => ?_)
    clear hK K
    refine norm_ (a' := ?_) ?_ ?_
    rotate_left
    ·
     show Act.put _ (some 93) _ = _
     exact ap_
    refine one_ (i := 11) (N := some 96) (rl [14,2]) rfl rfl (one_of HT_.out (by kernel_rfl)) (by decide) (fun K hK => ?_)
    refine goes_ Try.func88 (by kernel_rfl) rfl #[.slice Ao114 y659.length co114, .string a0_10] (by rfl) rfl rfl la_ ?_
    with_reducible refine (spec_PutText.calls kj66 _ _ y659 a0_10 t662 _ ?side1 ?side2 A98.out).mono ?_
    (case side1 => exact qC ((Kd.R_reads' HO661.out).2.2))
    (case side2 => exact (Kd.R_reads' HO661.out).2.1)
    rintro e w115 ⟨v663, rfl, ho0, hb⟩
    refine ⟨_, rfl, ?_⟩
    have HO664 := am_ (Kd.R_lower (Kd.R_new' (Kd.R_new' (Kd.R_new' ho0 (Kd.R_lt (qR HO652))) (Kd.R_lt (qR HO658))) (Kd.R_lt (qR HO661))) (below_size (qB HB)))
    replace HO652 := eA_ HO652 ho0 hb
    replace HO658 := eA_ HO658 ho0 hb
    replace HO661 := eA_ HO661 ho0 hb
    replace BK603 := bK_ BK603 hb
    replace BK645 := bK_ BK645 hb
    replace HB := bS_ HB hb
    (try clear hb ho0)
    obtain ⟨Ao116, co116, eo116⟩ := Kd.R_slice HO664.out
    (first | subst eo116 | (injection eo116 with f1_ f2_ f3_; have f4_ := f1_.symm; have f5_ := f3_.symm; clear f1_ f2_ f3_; subst f4_; subst f5_))
    refine hK.out _ _ (cz7 BK645.out) (fun hHeld => ?_)
    clear hK K
    refine norm_ (a' := ?_) ?_ ?_
    rotate_left
    ·
     show Act.put _ (some 96) _ = _
     exact ap_
    refine one_ (i := 14) (N := some 99) (rl [15,1]) rfl rfl (one_of HT_.out (by kernel_rfl)) (by decide) (fun K hK => ?_)
    refine goes_ Try.func89 (by kernel_rfl) rfl #[.slice Ao116 t662.length co116, .int .i64 a0_11] (by rfl) rfl rfl la_ ?_
    with_reducible refine (spec_PutWord.calls _ _ t662 a0_11 t665 _ ?side1 ?side2 A99.out).mono ?_
    (case side1 => exact qC ((Kd.R_reads' HO664.out).2.2))
    (case side2 => exact (Kd.R_reads' HO664.out).2.1)
    rintro e w117 ⟨v666, rfl, ho0, hb⟩
    refine ⟨_, rfl, ?_⟩
    have HO667 := am_ (Kd.R_lower (Kd.R_new' (Kd.R_new' (Kd.R_new' (Kd.R_new' ho0 (Kd.R_lt (qR HO652))) (Kd.R_lt (qR HO658))) (Kd.R_lt (qR HO661))) (Kd.R_lt (qR HO664))) (below_size (qB HB)))
    replace HO652 := eA_ HO652 ho0 hb
    replace HO658 := eA_ HO658 ho0 hb
    replace HO661 := eA_ HO661 ho0 hb
    replace HO664 := eA_ HO664 ho0 hb
    replace BK603 := bK_ BK603 hb
    replace BK645 := bK_ BK645 hb
    replace HB := bS_ HB hb
    (try clear hb ho0)
    refine hK.out _ _ (cz7 BK645.out) (fun hHeld => ?_)
    clear hK K
    refine norm_ (a' := ?_) ?_ ?_
    rotate_left
    ·
     show Act.put _ (some 99) _ = _
     exact ap_
    refine pz_ (i := 15) (N := some 6) HT_ (rl [16]) rfl rfl ?_
    refine done_ (done_of HT_.out (by kernel_rfl)) ?_
    obtain ⟨Ao118, co118, eo118⟩ := Kd.R_slice HO667.out
    subst eo118
    try go_wp2
    replace HO652 := am_ (Kd.R_drew HO652.out)
    replace HO658 := am_ (Kd.R_drew HO658.out)
    replace HO661 := am_ (Kd.R_drew HO661.out)
    replace HO664 := am_ (Kd.R_drew HO664.out)
    replace HO667 := am_ (Kd.R_drew HO667.out)
    replace BK603 := am_ (blk_drew BK603.out)
    replace BK645 := am_ (blk_drew BK645.out)
    replace HB := am_ (below_drew1 HB.out)
    refine start_ (n := 18) (S := fun w' => w'.cell? ⟨gb645, 0, none⟩ = some (.int .i64 a0_9) ∧ w'.cell? ⟨gb645, 1, none⟩ = some (.string a0_10) ∧ w'.cell? ⟨gb645, 2, none⟩ = some (.int .i64 a0_11) ∧ w'.cell? ⟨gb645, 3, none⟩ = some (.int .i64 a0_12) ∧ w'.cell? ⟨gb645, 4, none⟩ = some (.int .i64 a0_13) ∧ w'.cell? ⟨gb645, 5, none⟩ = some (.int .i64 a0_14) ∧ w'.cell? ⟨gb645, 6, none⟩ = some (.int .i64 a0_15)) (ds := []) (rl [0,18]) (by kernel_rfl) rfl rfl (cz7 BK645.out) (fun hHeld => ?_); refine with_tabW spec_PutItem.tab12 spec_PutItem.bits12 (fun HT_ HW_ => ?_)
    generalize w117.drew = w119 at HO652 HO658 HO661 HO664 HO667 BK603 BK645 HB hHeld ⊢
    refine pz_ (i := 0) (N := some 100) HT_ (rl [1,17]) rfl rfl ?_
    refine pz_ (i := 1) (N := some 101) HT_ (rl [2,16]) rfl rfl ?_
    refine pz_ (i := 5) (N := some 105) HT_ (rl [2,3,1,12]) rfl rfl ?_
    refine pz_ (i := 11) (N := some 111) HT_ (rl [2,3,1,5,1,6]) rfl rfl ?_
    refine pz_ (i := 14) (N := some 114) HT_ (rl [2,3,1,5,1,2,1,3]) rfl rfl ?_
    refine tz_ (i := 2) (N := some 102) HT_ HW_ (rl [3,2,1,5,1,2,1,3]) rfl rfl hHeld ?_
    refine pz_ (i := 3) (N := some 103) HT_ (rl [4,1,1,5,1,2,1,3]) rfl rfl ?_
    refine tz_ (i := 6) (N := some 106) HT_ HW_ (rl [4,1,2,4,1,2,1,3]) rfl rfl hHeld ?_
    refine pz_ (i := 7) (N := some 107) HT_ (rl [4,1,3,3,1,2,1,3]) rfl rfl ?_
    refine pz_ (i := 8) (N := some 108) HT_ (rl [4,1,4,2,1,2,1,3]) rfl rfl ?_
    refine tz_ (i := 12) (N := some 112) HT_ HW_ (rl [4,1,4,2,2,1,1,3]) rfl rfl hHeld ?_
    refine tz_ (i := 15) (N := some 115) HT_ HW_ (rl [4,1,4,2,2,1,2,2]) rfl rfl hHeld ?_
    refine join_ (σ := Value × Value) 4 (rl [10,1,2,1,2,2]) (fun s_ => [(104, s_.1), (109, s_.2)]) (fun s_ w' => (w'.cell? ⟨gb645, 0, none⟩ = some (.int .i64 a0_9) ∧ w'.cell? ⟨gb645, 1, none⟩ = some (.string a0_10) ∧ w'.cell? ⟨gb645, 2, none⟩ = some (.int .i64 a0_11) ∧ w'.cell? ⟨gb645, 3, none⟩ = some (.int .i64 a0_12) ∧ w'.cell? ⟨gb645, 4, none⟩ = some (.int .i64 a0_13) ∧ w'.cell? ⟨gb645, 5, none⟩ = some (.int .i64 a0_14) ∧ w'.cell? ⟨gb645, 6, none⟩ = some (.int .i64 a0_15)) ∧ (Kd.R (Kd.int .u8) 5 w' w.heap.size (fun k_ => some k_ ≠ (.slice Ao113 y656.length co113 : Value).ownBlock ∧ some k_ ≠ (.slice Ao114 y659.length co114 : Value).ownBlock ∧ some k_ ≠ (.slice Ao116 t662.length co116 : Value).ownBlock ∧ some k_ ≠ (.slice Ao118 t665.length co118 : Value).ownBlock ∧ some k_ ≠ (s_.1 : Value).ownBlock ∧ some k_ ≠ (s_.2 : Value).ownBlock) v651 y650) ∧ (Kd.R (Kd.int .u8) 5 w' w.heap.size (fun k_ => some k_ ≠ (v651 : Value).ownBlock ∧ some k_ ≠ (.slice Ao114 y659.length co114 : Value).ownBlock ∧ some k_ ≠ (.slice Ao116 t662.length co116 : Value).ownBlock ∧ some k_ ≠ (.slice Ao118 t665.length co118 : Value).ownBlock ∧ some k_ ≠ (s_.1 : Value).ownBlock ∧ some k_ ≠ (s_.2 : Value).ownBlock) (.slice Ao113 y656.length co113) y656) ∧ (Kd.R (Kd.int .u8) 5 w' w.heap.size (fun k_ => some k_ ≠ (v651 : Value).ownBlock ∧ some k_ ≠ (.slice Ao113 y656.length co113 : Value).ownBlock ∧ some k_ ≠ (.slice Ao116 t662.length co116 : Value).ownBlock ∧ some k_ ≠ (.slice Ao118 t665.length co118 : Value).ownBlock ∧ some k_ ≠ (s_.1 : Value).ownBlock ∧ some k_ ≠ (s_.2 : Value).ownBlock) (.slice Ao114 y659.length co114) y659) ∧ (Kd.R (Kd.int .u8) 5 w' w.heap.size (fun k_ => some k_ ≠ (v651 : Value).ownBlock ∧ some k_ ≠ (.slice Ao113 y656.length co113 : Value).ownBlock ∧ some k_ ≠ (.slice Ao114 y659.length co114 : Value).ownBlock ∧ some k_ ≠ (.slice Ao118 t665.length co118 : Value).ownBlock ∧ some k_ ≠ (s_.1 : Value).ownBlock ∧ some k_ ≠ (s_.2 : Value).ownBlock) (.slice Ao116 t662.length co116) t662) ∧ (Kd.R (Kd.int .u8) 5 w' w.heap.size (fun k_ => some k_ ≠ (v651 : Value).ownBlock ∧ some k_ ≠ (.slice Ao113 y656.length co113 : Value).ownBlock ∧ some k_ ≠ (.slice Ao114 y659.length co114 : Value).ownBlock ∧ some k_ ≠ (.slice Ao116 t662.length co116 : Value).ownBlock ∧ some k_ ≠ (s_.1 : Value).ownBlock ∧ some k_ ≠ (s_.2 : Value).ownBlock) (.slice Ao118 t665.length co118) t665) ∧ (Kd.R (Kd.int .u8) 5 w' w.heap.size (fun k_ => some k_ ≠ (v651 : Value).ownBlock ∧ some k_ ≠ (.slice Ao113 y656.length co113 : Value).ownBlock ∧ some k_ ≠ (.slice Ao114 y659.length co114 : Value).ownBlock ∧ some k_ ≠ (.slice Ao116 t662.length co116 : Value).ownBlock ∧ some k_ ≠ (.slice Ao118 t665.length co118 : Value).ownBlock ∧ some k_ ≠ (s_.2 : Value).ownBlock) s_.1 t668) ∧ (Kd.R (Kd.int .u8) 5 w' w.heap.size (fun k_ => some k_ ≠ (v651 : Value).ownBlock ∧ some k_ ≠ (.slice Ao113 y656.length co113 : Value).ownBlock ∧ some k_ ≠ (.slice Ao114 y659.length co114 : Value).ownBlock ∧ some k_ ≠ (.slice Ao116 t662.length co116 : Value).ownBlock ∧ some k_ ≠ (.slice Ao118 t665.length co118 : Value).ownBlock ∧ some k_ ≠ (s_.1 : Value).ownBlock) s_.2 y671) ∧ (w'.heap[gb603]? = some (.cells #[.int .i64 a0_0, .int .i64 a0_1, .string a0_2, .int .i64 a0_3, .int .i64 a0_4, .int .i64 a0_5, .string a0_6, .int .i64 a0_7, .int .i64 a0_8, .int .i64 a0_9, .string a0_10, .int .i64 a0_11, .int .i64 a0_12, .int .i64 a0_13, .int .i64 a0_14, .int .i64 a0_15] 29 (0, 0))) ∧ (w'.heap[gb645]? = some (.cells #[.int .i64 a0_9, .string a0_10, .int .i64 a0_11, .int .i64 a0_12, .int .i64 a0_13, .int .i64 a0_14, .int .i64 a0_15] 27 (0, 0))) ∧ (Below w.heap.size w w')) ?_ ?_
    rotate_left
    ·
     intro hCont
     refine two_ (i := 4) (j := 9) (Ni := some 104) (Nj := some 109) (rl [9,2,2,1,2,2]) (rl [4,1,5,1,2,1,2,2]) rfl rfl rfl rfl (two_of HT_.out (by kernel_rfl)) (by decide) (by decide) (fun K hK => ?_) (fun K hK => ?_)
     ·
      skip
      refine goes_ Try.func89 (by kernel_rfl) rfl #[.slice Ao118 t665.length co118, .int .i64 (wrap64 (Int.tdiv a0_13 256))] (by rfl) rfl rfl la_ ?_
      with_reducible refine (spec_PutWord.calls _ _ t665 (wrap64 (Int.tdiv a0_13 256)) t668 _ ?side1 ?side2 A100.out).mono ?_
      (case side1 => exact qC ((Kd.R_reads' HO667.out).2.2))
      (case side2 => exact (Kd.R_reads' HO667.out).2.1)
      rintro e w120 ⟨v669, rfl, ho0, hb⟩
      refine ⟨_, rfl, ?_⟩
      have HO670 := am_ (Kd.R_lower (Kd.R_new' (Kd.R_new' (Kd.R_new' (Kd.R_new' (Kd.R_new' ho0 (Kd.R_lt (qR HO652))) (Kd.R_lt (qR HO658))) (Kd.R_lt (qR HO661))) (Kd.R_lt (qR HO664))) (Kd.R_lt (qR HO667))) (below_size (qB HB)))
      replace HO652 := eA_ HO652 ho0 hb
      replace HO658 := eA_ HO658 ho0 hb
      replace HO661 := eA_ HO661 ho0 hb
      replace HO664 := eA_ HO664 ho0 hb
      replace HO667 := eA_ HO667 ho0 hb
      replace BK603 := bK_ BK603 hb
      replace BK645 := bK_ BK645 hb
      replace HB := bS_ HB hb
      (try clear hb ho0)
      refine hK.out _ _ (cz7 BK645.out) (fun hHeld => ?_)
      clear hK K
      refine norm_ (a' := ?_) ?_ ?_
      rotate_left
      ·
       show Act.put _ (some 104) _ = _
       exact ap_
      refine one_ (i := 9) (N := some 109) (rl [10,1,2,1,2,2]) rfl rfl (one_of HT_.out (by kernel_rfl)) (by decide) (fun K hK => ?_)
      refine Kd.R_lit_step (Kd.int .u8) _ 5 ?hg (N := 109) ?hd (xs := ([(Int.tmod a0_13 256) % 256] : List Int)) (inner := [.int .u8 ((Int.tmod a0_13 256) % 256)]) (ok := fun _ => True) (okp := fun _ => True) ?hr ?hp (fun _ hk => hk) trivial (Below.refl _ _) (Nat.le_refl _) (by simp) ?_; (case hd => rfl); (case hg => rfl); (case hr => first | (go_simp; done) | (go_simp; rfl)); (case hp => exact (Reps.one (show Kd.M (Kd.int .u8) _ _ _ ((Int.tmod a0_13 256) % 256) [.int .u8 ((Int.tmod a0_13 256) % 256)] from rfl) (Reps.none _ _)))
      intro v672 w121 ho122 hb hg_ hnew_
      clear hg_ hnew_
      (first | rw [← Ny671.out] at ho122 | (simp only [Int.reduceToNat] at ho122; rw [← Ny671.out] at ho122))
      have HO673 := am_ (Kd.R_lower (Kd.R_new' (Kd.R_new' (Kd.R_new' (Kd.R_new' (Kd.R_new' (Kd.R_new' ho122 (Kd.R_lt (qR HO652))) (Kd.R_lt (qR HO658))) (Kd.R_lt (qR HO661))) (Kd.R_lt (qR HO664))) (Kd.R_lt (qR HO667))) (Kd.R_lt (qR HO670))) (below_size (qB HB)))
      replace HO652 := eA_ HO652 ho122 hb
      replace HO658 := eA_ HO658 ho122 hb
      replace HO661 := eA_ HO661 ho122 hb
      replace HO664 := eA_ HO664 ho122 hb
      replace HO667 := eA_ HO667 ho122 hb
      replace HO670 := eA_ HO670 ho122 hb
      replace BK603 := bK_ BK603 hb
      replace BK645 := bK_ BK645 hb
      replace HB := bS_ HB hb
      clear hb ho122
      refine hK.out _ _ (cz7 BK645.out) (fun hHeld => ?_)
      clear hK K
      refine norm_ (a' := ?_) ?_ ?_
      rotate_left
      ·
       show Act.put _ (some 109) _ = _
       exact ap_
      exact norm_ (by simp only [putAll, Act.put, List.setIfInBounds_toArray, List.set_cons_zero, List.set_cons_succ]) (hCont (v669, v672) _ ⟨hHeld, (tR (Kd.R_mono HO652.out (fun _ hk => ⟨hk.1.1.1.1.1, ⟨hk.1.1.1.1.2, ⟨hk.1.1.1.2, ⟨hk.1.1.2, ⟨hk.1.2, hk.2⟩⟩⟩⟩⟩))), (tR (Kd.R_mono HO658.out (fun _ hk => ⟨hk.1.1.1.1.1, ⟨hk.1.1.1.1.2, ⟨hk.1.1.1.2, ⟨hk.1.1.2, ⟨hk.1.2, hk.2⟩⟩⟩⟩⟩))), (tR (Kd.R_mono HO661.out (fun _ hk => ⟨hk.1.1.1.1.1, ⟨hk.1.1.1.1.2, ⟨hk.1.1.1.2, ⟨hk.1.1.2, ⟨hk.1.2, hk.2⟩⟩⟩⟩⟩))), (tR (Kd.R_mono HO664.out (fun _ hk => ⟨hk.1.1.1.1.1.2, ⟨hk.1.1.1.1.2, ⟨hk.1.1.1.2, ⟨hk.1.1.2, ⟨hk.1.2, hk.2⟩⟩⟩⟩⟩))), (tR (Kd.R_mono HO667.out (fun _ hk => ⟨hk.1.1.1.1.1.2, ⟨hk.1.1.1.1.2, ⟨hk.1.1.1.2, ⟨hk.1.1.2, ⟨hk.1.2, hk.2⟩⟩⟩⟩⟩))), (tR (Kd.R_mono HO670.out (fun _ hk => ⟨hk.1.1.1.1.1.2, ⟨hk.1.1.1.1.2, ⟨hk.1.1.1.2, ⟨hk.1.1.2, ⟨hk.1.2, hk.2⟩⟩⟩⟩⟩))), (tR (Kd.R_mono HO673.out (fun _ hk => ⟨hk.1.1.1.1.1.2, ⟨hk.1.1.1.1.2, ⟨hk.1.1.1.2, ⟨hk.1.1.2, ⟨hk.1.2, hk.2⟩⟩⟩⟩⟩))), (qK BK603), (qK BK645), (qB HB)⟩)
     ·
      skip
      refine Kd.R_lit_step (Kd.int .u8) _ 5 ?hg (N := 109) ?hd (xs := ([(Int.tmod a0_13 256) % 256] : List Int)) (inner := [.int .u8 ((Int.tmod a0_13 256) % 256)]) (ok := fun _ => True) (okp := fun _ => True) ?hr ?hp (fun _ hk => hk) trivial (Below.refl _ _) (Nat.le_refl _) (by simp) ?_; (case hd => rfl); (case hg => rfl); (case hr => first | (go_simp; done) | (go_simp; rfl)); (case hp => exact (Reps.one (show Kd.M (Kd.int .u8) _ _ _ ((Int.tmod a0_13 256) % 256) [.int .u8 ((Int.tmod a0_13 256) % 256)] from rfl) (Reps.none _ _)))
      intro v672 w120 ho121 hb hg_ hnew_
      clear hg_ hnew_
      (first | rw [← Ny671.out] at ho121 | (simp only [Int.reduceToNat] at ho121; rw [← Ny671.out] at ho121))
      have HO673 := am_ (Kd.R_lower (Kd.R_new' (Kd.R_new' (Kd.R_new' (Kd.R_new' (Kd.R_new' ho121 (Kd.R_lt (qR HO652))) (Kd.R_lt (qR HO658))) (Kd.R_lt (qR HO661))) (Kd.R_lt (qR HO664))) (Kd.R_lt (qR HO667))) (below_size (qB HB)))
      replace HO652 := eA_ HO652 ho121 hb
      replace HO658 := eA_ HO658 ho121 hb
      replace HO661 := eA_ HO661 ho121 hb
      replace HO664 := eA_ HO664 ho121 hb
      replace HO667 := eA_ HO667 ho121 hb
      replace BK603 := bK_ BK603 hb
      replace BK645 := bK_ BK645 hb
      replace HB := bS_ HB hb
      clear hb ho121
      refine hK.out _ _ (cz7 BK645.out) (fun hHeld => ?_)
      clear hK K
      refine norm_ (a' := ?_) ?_ ?_
      rotate_left
      ·
       show Act.put _ (some 109) _ = _
       exact ap_
      refine one_ (i := 4) (N := some 104) (rl [10,1,2,1,2,2]) rfl rfl (one_of HT_.out (by kernel_rfl)) (by decide) (fun K hK => ?_)
      refine goes_ Try.func89 (by kernel_rfl) rfl #[.slice Ao118 t665.length co118, .int .i64 (wrap64 (Int.tdiv a0_13 256))] (by rfl) rfl rfl la_ ?_
      with_reducible refine (spec_PutWord.calls _ _ t665 (wrap64 (Int.tdiv a0_13 256)) t668 _ ?side1 ?side2 A100.out).mono ?_
      (case side1 => exact qC ((Kd.R_reads' HO667.out).2.2))
      (case side2 => exact (Kd.R_reads' HO667.out).2.1)
      rintro e w122 ⟨v669, rfl, ho0, hb⟩
      refine ⟨_, rfl, ?_⟩
      have HO670 := am_ (Kd.R_lower (Kd.R_new' (Kd.R_new' (Kd.R_new' (Kd.R_new' (Kd.R_new' (Kd.R_new' ho0 (Kd.R_lt (qR HO652))) (Kd.R_lt (qR HO658))) (Kd.R_lt (qR HO661))) (Kd.R_lt (qR HO664))) (Kd.R_lt (qR HO667))) (Kd.R_lt (qR HO673))) (below_size (qB HB)))
      replace HO652 := eA_ HO652 ho0 hb
      replace HO658 := eA_ HO658 ho0 hb
      replace HO661 := eA_ HO661 ho0 hb
      replace HO664 := eA_ HO664 ho0 hb
      replace HO667 := eA_ HO667 ho0 hb
      replace HO673 := eA_ HO673 ho0 hb
      replace BK603 := bK_ BK603 hb
      replace BK645 := bK_ BK645 hb
      replace HB := bS_ HB hb
      (try clear hb ho0)
      refine hK.out _ _ (cz7 BK645.out) (fun hHeld => ?_)
      clear hK K
      refine norm_ (a' := ?_) ?_ ?_
      rotate_left
      ·
       show Act.put _ (some 104) _ = _
       exact ap_
      exact norm_ (by simp only [putAll, Act.put, List.setIfInBounds_toArray, List.set_cons_zero, List.set_cons_succ]) (hCont (v669, v672) _ ⟨hHeld, (tR (Kd.R_mono HO652.out (fun _ hk => ⟨hk.1.1.1.1.1, ⟨hk.1.1.1.1.2, ⟨hk.1.1.1.2, ⟨hk.1.1.2, ⟨hk.2, hk.1.2⟩⟩⟩⟩⟩))), (tR (Kd.R_mono HO658.out (fun _ hk => ⟨hk.1.1.1.1.1, ⟨hk.1.1.1.1.2, ⟨hk.1.1.1.2, ⟨hk.1.1.2, ⟨hk.2, hk.1.2⟩⟩⟩⟩⟩))), (tR (Kd.R_mono HO661.out (fun _ hk => ⟨hk.1.1.1.1.1, ⟨hk.1.1.1.1.2, ⟨hk.1.1.1.2, ⟨hk.1.1.2, ⟨hk.2, hk.1.2⟩⟩⟩⟩⟩))), (tR (Kd.R_mono HO664.out (fun _ hk => ⟨hk.1.1.1.1.1.2, ⟨hk.1.1.1.1.2, ⟨hk.1.1.1.2, ⟨hk.1.1.2, ⟨hk.2, hk.1.2⟩⟩⟩⟩⟩))), (tR (Kd.R_mono HO667.out (fun _ hk => ⟨hk.1.1.1.1.1.2, ⟨hk.1.1.1.1.2, ⟨hk.1.1.1.2, ⟨hk.1.1.2, ⟨hk.2, hk.1.2⟩⟩⟩⟩⟩))), (tR (Kd.R_mono HO670.out (fun _ hk => ⟨hk.1.1.1.1.1.2, ⟨hk.1.1.1.1.2, ⟨hk.1.1.1.2, ⟨hk.1.1.2, ⟨hk.1.2, hk.2⟩⟩⟩⟩⟩))), (tR (Kd.R_mono HO673.out (fun _ hk => ⟨hk.1.1.1.1.1.2, ⟨hk.1.1.1.1.2, ⟨hk.1.1.1.2, ⟨hk.1.1.2, ⟨hk.1.2, hk.2⟩⟩⟩⟩⟩))), (qK BK603), (qK BK645), (qB HB)⟩)
    rintro ⟨v669, v672⟩ w123 ⟨hS_, h0_, h1_, h2_, h3_, h4_, h5_, h6_, h7_, h8_, h9_⟩
    have n0_ : Aside0 (Kd.R (Kd.int .u8) 5 w123 w.heap.size (fun k_ => some k_ ≠ (.slice Ao113 y656.length co113 : Value).ownBlock ∧ some k_ ≠ (.slice Ao114 y659.length co114 : Value).ownBlock ∧ some k_ ≠ (.slice Ao116 t662.length co116 : Value).ownBlock ∧ some k_ ≠ (.slice Ao118 t665.length co118 : Value).ownBlock ∧ some k_ ≠ (v669 : Value).ownBlock ∧ some k_ ≠ (v672 : Value).ownBlock) v651 y650) := ⟨h0_⟩
    have n1_ : Aside0 (Kd.R (Kd.int .u8) 5 w123 w.heap.size (fun k_ => some k_ ≠ (v651 : Value).ownBlock ∧ some k_ ≠ (.slice Ao114 y659.length co114 : Value).ownBlock ∧ some k_ ≠ (.slice Ao116 t662.length co116 : Value).ownBlock ∧ some k_ ≠ (.slice Ao118 t665.length co118 : Value).ownBlock ∧ some k_ ≠ (v669 : Value).ownBlock ∧ some k_ ≠ (v672 : Value).ownBlock) (.slice Ao113 y656.length co113) y656) := ⟨h1_⟩
    have n2_ : Aside0 (Kd.R (Kd.int .u8) 5 w123 w.heap.size (fun k_ => some k_ ≠ (v651 : Value).ownBlock ∧ some k_ ≠ (.slice Ao113 y656.length co113 : Value).ownBlock ∧ some k_ ≠ (.slice Ao116 t662.length co116 : Value).ownBlock ∧ some k_ ≠ (.slice Ao118 t665.length co118 : Value).ownBlock ∧ some k_ ≠ (v669 : Value).ownBlock ∧ some k_ ≠ (v672 : Value).ownBlock) (.slice Ao114 y659.length co114) y659) := ⟨h2_⟩
    have n3_ : Aside0 (Kd.R (Kd.int .u8) 5 w123 w.heap.size (fun k_ => some k_ ≠ (v651 : Value).ownBlock ∧ some k_ ≠ (.slice Ao113 y656.length co113 : Value).ownBlock ∧ some k_ ≠ (.slice Ao114 y659.length co114 : Value).ownBlock ∧ some k_ ≠ (.slice Ao118 t665.length co118 : Value).ownBlock ∧ some k_ ≠ (v669 : Value).ownBlock ∧ some k_ ≠ (v672 : Value).ownBlock) (.slice Ao116 t662.length co116) t662) := ⟨h3_⟩
    have n4_ : Aside0 (Kd.R (Kd.int .u8) 5 w123 w.heap.size (fun k_ => some k_ ≠ (v651 : Value).ownBlock ∧ some k_ ≠ (.slice Ao113 y656.length co113 : Value).ownBlock ∧ some k_ ≠ (.slice Ao114 y659.length co114 : Value).ownBlock ∧ some k_ ≠ (.slice Ao116 t662.length co116 : Value).ownBlock ∧ some k_ ≠ (v669 : Value).ownBlock ∧ some k_ ≠ (v672 : Value).ownBlock) (.slice Ao118 t665.length co118) t665) := ⟨h4_⟩
    have n5_ : Aside0 (Kd.R (Kd.int .u8) 5 w123 w.heap.size (fun k_ => some k_ ≠ (v651 : Value).ownBlock ∧ some k_ ≠ (.slice Ao113 y656.length co113 : Value).ownBlock ∧ some k_ ≠ (.slice Ao114 y659.length co114 : Value).ownBlock ∧ some k_ ≠ (.slice Ao116 t662.length co116 : Value).ownBlock ∧ some k_ ≠ (.slice Ao118 t665.length co118 : Value).ownBlock ∧ some k_ ≠ (v672 : Value).ownBlock) v669 t668) := ⟨h5_⟩
    have n6_ : Aside0 (Kd.R (Kd.int .u8) 5 w123 w.heap.size (fun k_ => some k_ ≠ (v651 : Value).ownBlock ∧ some k_ ≠ (.slice Ao113 y656.length co113 : Value).ownBlock ∧ some k_ ≠ (.slice Ao114 y659.length co114 : Value).ownBlock ∧ some k_ ≠ (.slice Ao116 t662.length co116 : Value).ownBlock ∧ some k_ ≠ (.slice Ao118 t665.length co118 : Value).ownBlock ∧ some k_ ≠ (v669 : Value).ownBlock) v672 y671) := ⟨h6_⟩
    have n7_ : Aside0 (w123.heap[gb603]? = some (.cells #[.int .i64 a0_0, .int .i64 a0_1, .string a0_2, .int .i64 a0_3, .int .i64 a0_4, .int .i64 a0_5, .string a0_6, .int .i64 a0_7, .int .i64 a0_8, .int .i64 a0_9, .string a0_10, .int .i64 a0_11, .int .i64 a0_12, .int .i64 a0_13, .int .i64 a0_14, .int .i64 a0_15] 29 (0, 0))) := ⟨h7_⟩
    have n8_ : Aside0 (w123.heap[gb645]? = some (.cells #[.int .i64 a0_9, .string a0_10, .int .i64 a0_11, .int .i64 a0_12, .int .i64 a0_13, .int .i64 a0_14, .int .i64 a0_15] 27 (0, 0))) := ⟨h8_⟩
    have n9_ : Aside0 (Below w.heap.size w w123) := ⟨h9_⟩
    clear HO652
    clear HO658
    clear HO661
    clear HO664
    clear HO667
    clear BK603
    clear BK645
    clear HB
    clear h0_ h1_ h2_ h3_ h4_ h5_ h6_ h7_ h8_ h9_
    have HO652 := n0_
    have HO658 := n1_
    have HO661 := n2_
    have HO664 := n3_
    have HO667 := n4_
    have HO670 := n5_
    have HO673 := n6_
    have BK603 := n7_
    have BK645 := n8_
    have HB := n9_
    clear n0_ n1_ n2_ n3_ n4_ n5_ n6_ n7_ n8_ n9_
    have hHeld : w123.cell? ⟨gb645, 0, none⟩ = some (.int .i64 a0_9) ∧ w123.cell? ⟨gb645, 1, none⟩ = some (.string a0_10) ∧ w123.cell? ⟨gb645, 2, none⟩ = some (.int .i64 a0_11) ∧ w123.cell? ⟨gb645, 3, none⟩ = some (.int .i64 a0_12) ∧ w123.cell? ⟨gb645, 4, none⟩ = some (.int .i64 a0_13) ∧ w123.cell? ⟨gb645, 5, none⟩ = some (.int .i64 a0_14) ∧ w123.cell? ⟨gb645, 6, none⟩ = some (.int .i64 a0_15) := hS_
    obtain ⟨Ao125, co125, eo125⟩ := Kd.R_slice HO673.out
    (first | subst eo125 | (injection eo125 with f1_ f2_ f3_; have f4_ := f1_.symm; have f5_ := f3_.symm; clear f1_ f2_ f3_; subst f4_; subst f5_))
    refine norm_ (a' := ?_) ?_ ?_
    rotate_left
    ·
     simp only [putAll, Act.put, List.setIfInBounds_toArray, List.set_cons_zero, List.set_cons_succ]
     rfl
    refine one_ (i := 10) (N := some 110) (rl [13,1,2,2]) rfl rfl (one_of HT_.out (by kernel_rfl)) (by decide) (fun K hK => ?_)
    refine Kd.R_append_rows_step (Kd.int .u8) (w0 := w) w.heap.size (by rfl) (.tmp 104) (.tmp 109) 22 5 (.int .u8 0) 1 rfl Try.underlying22 info5 rfl (by decide) (by omega) v669 t668 y671 _ _ _ (fun k_ => some k_ ≠ (v651 : Value).ownBlock ∧ some k_ ≠ (.slice Ao113 y656.length co113 : Value).ownBlock ∧ some k_ ≠ (.slice Ao114 y659.length co114 : Value).ownBlock ∧ some k_ ≠ (.slice Ao116 t662.length co116 : Value).ownBlock ∧ some k_ ≠ (.slice Ao118 t665.length co118 : Value).ownBlock ∧ some k_ ≠ (.slice Ao125 y671.length co125 : Value).ownBlock) (fun _ => False) rfl rfl ?aO ?aR (fun _ _ h => h) (fun _ h => h.elim) ?aF ?aB ?aS ?aL ?_
    (case aR => exact qC ((Kd.R_reads' HO673.out).2.2))
    (case aB => exact (qB HB))
    (case aF => exact (fun k_ hk => ⟨Kd.fresh' (Kd.R_lt (qR HO652)) k_ hk, Kd.fresh' (Kd.R_lt (qR HO658)) k_ hk, Kd.fresh' (Kd.R_lt (qR HO661)) k_ hk, Kd.fresh' (Kd.R_lt (qR HO664)) k_ hk, Kd.fresh' (Kd.R_lt (qR HO667)) k_ hk, Kd.fresh' (Kd.R_lt (qR HO673)) k_ hk⟩))
    (case aO => exact (qR HO670))
    (case aS => exact (below_size (qB HB)))
    (case aL => have := LMc101.out; omega)
    intro v675 w124 ho hb hg hat
    rw [← Ny674.out] at ho
    replace BK603 := am_ (blk_grown (qK BK603) hg (Kd.R_ne HO670.out BK603.out (by decide)))
    replace BK645 := am_ (blk_grown (qK BK645) hg (Kd.R_ne HO670.out BK645.out (by decide)))
    replace HO652 := am_ (Kd.R_after (ok := (fun k_ => some k_ ≠ (.slice Ao113 y656.length co113 : Value).ownBlock ∧ some k_ ≠ (.slice Ao114 y659.length co114 : Value).ownBlock ∧ some k_ ≠ (.slice Ao116 t662.length co116 : Value).ownBlock ∧ some k_ ≠ (.slice Ao118 t665.length co118 : Value).ownBlock ∧ some k_ ≠ (.slice Ao125 y671.length co125 : Value).ownBlock)) (tR (Kd.R_mono HO652.out (fun _ hk => ⟨⟨hk.1, ⟨hk.2.1, ⟨hk.2.2.1, ⟨hk.2.2.2.1, hk.2.2.2.2.2⟩⟩⟩⟩, hk.2.2.2.2.1⟩))) hg hat)
    replace HO658 := am_ (Kd.R_after (ok := (fun k_ => some k_ ≠ (v651 : Value).ownBlock ∧ some k_ ≠ (.slice Ao114 y659.length co114 : Value).ownBlock ∧ some k_ ≠ (.slice Ao116 t662.length co116 : Value).ownBlock ∧ some k_ ≠ (.slice Ao118 t665.length co118 : Value).ownBlock ∧ some k_ ≠ (.slice Ao125 y671.length co125 : Value).ownBlock)) (tR (Kd.R_mono HO658.out (fun _ hk => ⟨⟨hk.1, ⟨hk.2.1, ⟨hk.2.2.1, ⟨hk.2.2.2.1, hk.2.2.2.2.2⟩⟩⟩⟩, hk.2.2.2.2.1⟩))) hg hat)
    replace HO661 := am_ (Kd.R_after (ok := (fun k_ => some k_ ≠ (v651 : Value).ownBlock ∧ some k_ ≠ (.slice Ao113 y656.length co113 : Value).ownBlock ∧ some k_ ≠ (.slice Ao116 t662.length co116 : Value).ownBlock ∧ some k_ ≠ (.slice Ao118 t665.length co118 : Value).ownBlock ∧ some k_ ≠ (.slice Ao125 y671.length co125 : Value).ownBlock)) (tR (Kd.R_mono HO661.out (fun _ hk => ⟨⟨hk.1, ⟨hk.2.1, ⟨hk.2.2.1, ⟨hk.2.2.2.1, hk.2.2.2.2.2⟩⟩⟩⟩, hk.2.2.2.2.1⟩))) hg hat)
    replace HO664 := am_ (Kd.R_after (ok := (fun k_ => some k_ ≠ (v651 : Value).ownBlock ∧ some k_ ≠ (.slice Ao113 y656.length co113 : Value).ownBlock ∧ some k_ ≠ (.slice Ao114 y659.length co114 : Value).ownBlock ∧ some k_ ≠ (.slice Ao118 t665.length co118 : Value).ownBlock ∧ some k_ ≠ (.slice Ao125 y671.length co125 : Value).ownBlock)) (tR (Kd.R_mono HO664.out (fun _ hk => ⟨⟨hk.1, ⟨hk.2.1, ⟨hk.2.2.1, ⟨hk.2.2.2.1, hk.2.2.2.2.2⟩⟩⟩⟩, hk.2.2.2.2.1⟩))) hg hat)
    replace HO667 := am_ (Kd.R_after (ok := (fun k_ => some k_ ≠ (v651 : Value).ownBlock ∧ some k_ ≠ (.slice Ao113 y656.length co113 : Value).ownBlock ∧ some k_ ≠ (.slice Ao114 y659.length co114 : Value).ownBlock ∧ some k_ ≠ (.slice Ao116 t662.length co116 : Value).ownBlock ∧ some k_ ≠ (.slice Ao125 y671.length co125 : Value).ownBlock)) (tR (Kd.R_mono HO667.out (fun _ hk => ⟨⟨hk.1, ⟨hk.2.1, ⟨hk.2.2.1, ⟨hk.2.2.2.1, hk.2.2.2.2.2⟩⟩⟩⟩, hk.2.2.2.2.1⟩))) hg hat)
    replace HO673 := am_ (Kd.R_after (ok := (fun k_ => some k_ ≠ (v651 : Value).ownBlock ∧ some k_ ≠ (.slice Ao113 y656.length co113 : Value).ownBlock ∧ some k_ ≠ (.slice Ao114 y659.length co114 : Value).ownBlock ∧ some k_ ≠ (.slice Ao116 t662.length co116 : Value).ownBlock ∧ some k_ ≠ (.slice Ao118 t665.length co118 : Value).ownBlock)) (tR (Kd.R_mono HO673.out (fun _ hk => ⟨⟨hk.1, ⟨hk.2.1, ⟨hk.2.2.1, ⟨hk.2.2.2.1, hk.2.2.2.2.1⟩⟩⟩⟩, hk.2.2.2.2.2⟩))) hg hat)
    replace HB := am_ (hb)
    have HO676 := am_ (ho)
    clear HO670
    clear ho hb hg hat
    obtain ⟨Ao126, co126, eo126⟩ := Kd.R_slice HO676.out
    (first | subst eo126 | (injection eo126 with f1_ f2_ f3_; have f4_ := f1_.symm; have f5_ := f3_.symm; clear f1_ f2_ f3_; subst f4_; subst f5_))
    refine hK.out _ _ (cz7 BK645.out) (fun hHeld => ?_)
    clear hK K
    refine norm_ (a' := ?_) ?_ ?_
    rotate_left
    ·
     show Act.put _ (some 110) _ = _
     exact ap_
    refine one_ (i := 13) (N := some 113) (rl [16,2]) rfl rfl (one_of HT_.out (by kernel_rfl)) (by decide) (fun K hK => ?_)
    refine goes_ Try.func89 (by kernel_rfl) rfl #[.slice Ao126 y674.length co126, .int .i64 a0_14] (by rfl) rfl rfl la_ ?_
    with_reducible refine (spec_PutWord.calls _ _ y674 a0_14 t677 _ ?side1 ?side2 A102.out).mono ?_
    (case side1 => exact qC ((Kd.R_reads' HO676.out).2.2))
    (case side2 => exact (Kd.R_reads' HO676.out).2.1)
    rintro e w127 ⟨v678, rfl, ho0, hb⟩
    refine ⟨_, rfl, ?_⟩
    have HO679 := am_ (Kd.R_lower (Kd.R_new' (Kd.R_new' (Kd.R_new' (Kd.R_new' (Kd.R_new' (Kd.R_new' (Kd.R_new' ho0 (Kd.R_lt (qR HO652))) (Kd.R_lt (qR HO658))) (Kd.R_lt (qR HO661))) (Kd.R_lt (qR HO664))) (Kd.R_lt (qR HO667))) (Kd.R_lt (qR HO673))) (Kd.R_lt (qR HO676))) (below_size (qB HB)))
    replace HO652 := eA_ HO652 ho0 hb
    replace HO658 := eA_ HO658 ho0 hb
    replace HO661 := eA_ HO661 ho0 hb
    replace HO664 := eA_ HO664 ho0 hb
    replace HO667 := eA_ HO667 ho0 hb
    replace HO673 := eA_ HO673 ho0 hb
    replace HO676 := eA_ HO676 ho0 hb
    replace BK603 := bK_ BK603 hb
    replace BK645 := bK_ BK645 hb
    replace HB := bS_ HB hb
    (try clear hb ho0)
    obtain ⟨Ao128, co128, eo128⟩ := Kd.R_slice HO679.out
    (first | subst eo128 | (injection eo128 with f1_ f2_ f3_; have f4_ := f1_.symm; have f5_ := f3_.symm; clear f1_ f2_ f3_; subst f4_; subst f5_))
    refine hK.out _ _ (cz7 BK645.out) (fun hHeld => ?_)
    clear hK K
    refine norm_ (a' := ?_) ?_ ?_
    rotate_left
    ·
     show Act.put _ (some 113) _ = _
     exact ap_
    refine one_ (i := 16) (N := some 116) (rl [17,1]) rfl rfl (one_of HT_.out (by kernel_rfl)) (by decide) (fun K hK => ?_)
    refine goes_ Try.func89 (by kernel_rfl) rfl #[.slice Ao128 t677.length co128, .int .i64 a0_15] (by rfl) rfl rfl la_ ?_
    with_reducible refine (spec_PutWord.calls _ _ t677 a0_15 t680 _ ?side1 ?side2 A103.out).mono ?_
    (case side1 => exact qC ((Kd.R_reads' HO679.out).2.2))
    (case side2 => exact (Kd.R_reads' HO679.out).2.1)
    rintro e w129 ⟨v681, rfl, ho0, hb⟩
    refine ⟨_, rfl, ?_⟩
    have HO682 := am_ (Kd.R_lower (Kd.R_new' (Kd.R_new' (Kd.R_new' (Kd.R_new' (Kd.R_new' (Kd.R_new' (Kd.R_new' (Kd.R_new' ho0 (Kd.R_lt (qR HO652))) (Kd.R_lt (qR HO658))) (Kd.R_lt (qR HO661))) (Kd.R_lt (qR HO664))) (Kd.R_lt (qR HO667))) (Kd.R_lt (qR HO673))) (Kd.R_lt (qR HO676))) (Kd.R_lt (qR HO679))) (below_size (qB HB)))
    replace HO652 := eA_ HO652 ho0 hb
    replace HO658 := eA_ HO658 ho0 hb
    replace HO661 := eA_ HO661 ho0 hb
    replace HO664 := eA_ HO664 ho0 hb
    replace HO667 := eA_ HO667 ho0 hb
    replace HO673 := eA_ HO673 ho0 hb
    replace HO676 := eA_ HO676 ho0 hb
    replace HO679 := eA_ HO679 ho0 hb
    replace BK603 := bK_ BK603 hb
    replace BK645 := bK_ BK645 hb
    replace HB := bS_ HB hb
    (try clear hb ho0)
    refine hK.out _ _ (cz7 BK645.out) (fun hHeld => ?_)
    clear hK K
    refine norm_ (a' := ?_) ?_ ?_
    rotate_left
    ·
     show Act.put _ (some 116) _ = _
     exact ap_
    refine pz_ (i := 17) (N := some 2) HT_ (rl [18]) rfl rfl ?_
    refine done_ (done_of HT_.out (by kernel_rfl)) ?_
    try go_wp2
    go_ret
    exact ⟨_, er_, by (with_reducible repeat (first | apply Kd.R_alloc | apply Kd.R_drewN | apply Kd.R_drew)); exact Kd.R_mono HO682.out (fun _ hk => trivial), qB HB⟩
 rw [if_pos c5] at H
 have c5b0 : (a0_0 == 1) = true := beq_iff_eq.mpr c5
 have c5b1 : (a0_0 != 1) = false := bne_eq_false_iff_eq.mpr c5
 clear c5
 (first | rw [c5b0] | rw [c5b1] | (simp only [i64_w, i32_w]; rw [c5b0]) | skip)
 have HC6 := Aside0.mk H
 clear H
 (try clear zK603)
 have zK603 := cz16 BK603.out
 (try clear fK603)
 have fK603 := fz16 BK603.out
 go_upto_region 3 with (first | ((with_reducible refine gate_dst (N := 3) rfl ?_); refine box_event ?hg (N := 3) ?hd (cs := #[.int .i64 0, .string (⟨#[]⟩ : ByteArray), .int .i64 0, .int .i64 0, .int .i64 0, .string (⟨#[]⟩ : ByteArray), .int .i64 0, .int .i64 0]) (t := 25) ?hr ?_; (case hd => rfl); (case hg => rfl); (case hr => first | (go_simp; done) | (go_simp; rfl)); intro gb604 hg w8 hbox hb; have BK604 := am_ (hbox); have GW604 := gA_ hg HB; have GE604 := GW604; have IGE604 := gI_ GE604; replace HB := bS_ HB hb; have NB603_604 := am_ ((gN_ hg (qK BK603))); have NB604_603 := am_ ((gM_ hg (qK BK603))); replace BK603 := bK_ BK603 hb; clear hb hbox hg; have hnb9 := NB604_603.out; have hnc9 := NB603_604.out; (try clear zK604); have zK604 := cz8 BK604.out; (try clear fK604); have fK604 := fz8 BK604.out))
 (try simp only [Act.put, List.setIfInBounds_toArray, List.set_cons_zero, List.set_cons_succ])
 go_cut [25] (fun v25 wc => ∃ (kq : Nat) (x25_5 : Bool), v25 = .bool x25_5 ∧ Aside0 (spec_PutItem.j0 kq x25_5 a0_1 a0_2 a0_3 a0_4 a0_5 a0_6 a0_7 a0_8 = some r) ∧ Aside0 (kq ≤ k) ∧ Aside0 (wc.heap[gb603]? = some (.cells #[.int .i64 a0_0, .int .i64 a0_1, .string a0_2, .int .i64 a0_3, .int .i64 a0_4, .int .i64 a0_5, .string a0_6, .int .i64 a0_7, .int .i64 a0_8, .int .i64 a0_9, .string a0_10, .int .i64 a0_11, .int .i64 a0_12, .int .i64 a0_13, .int .i64 a0_14, .int .i64 a0_15] 29 (0, 0))) ∧ Aside0 (wc.heap[gb604]? = some (.cells #[.int .i64 a0_1, .string a0_2, .int .i64 a0_3, .int .i64 a0_4, .int .i64 a0_5, .string a0_6, .int .i64 a0_7, .int .i64 a0_8] 25 (0, 0))) ∧ Aside0 (Below w.heap.size w wc))
 case first =>
  have H := HC6.out
  clear HC6
  replace H := bd_ H
  obtain ⟨t605, A11, H⟩ := H
  by_cases c12 : t605 = true
  rotate_left
  ·
   replace c12 := Bool.eq_false_iff.mpr c12
   subst c12
   rw [if_neg (show ¬ (false = true) by decide)] at H
   have H' := Aside0.mk H
   clear H
   have hnb23 := NB604_603.out
   have hnc23 := NB603_604.out
   (try clear zK604)
   have zK604 := cz8 BK604.out
   (try clear fK604)
   have fK604 := fz8 BK604.out
   go_wp2_with (first | ((with_reducible refine gate_callee (f := 17) rfl ?_); refine goesL_ (some 13) rfl rfl Try.func17 (by kernel_rfl) rfl #[.agg #[.int .i64 a0_1, .string a0_2, .int .i64 a0_3, .int .i64 a0_4, .int .i64 a0_5, .string a0_6, .int .i64 a0_7, .int .i64 a0_8]] rfl la_ ?_; (with_reducible refine (spec_AskerOk.calls k a0_1 a0_2 a0_3 a0_4 a0_5 a0_6 a0_7 a0_8 false _ A11.out).mono ?_); rintro e w25 ⟨rfl, hb⟩; refine ⟨_, rfl, ?_⟩; replace BK603 := am_ (blk_below (g := gb603) (o := .cells #[.int .i64 a0_0, .int .i64 a0_1, .string a0_2, .int .i64 a0_3, .int .i64 a0_4, .int .i64 a0_5, .string a0_6, .int .i64 a0_7, .int .i64 a0_8, .int .i64 a0_9, .string a0_10, .int .i64 a0_11, .int .i64 a0_12, .int .i64 a0_13, .int .i64 a0_14, .int .i64 a0_15] 29 (0, 0)) (by (with_reducible repeat (first | refine blk_drewN ?_ _ | refine blk_drew ?_ | refine blk_alloc ?_ _)); refine blk_far8 ?_ NB603_604.out; exact qK BK603) hb); replace BK604 := am_ (blk_below (g := gb604) (o := .cells #[.int .i64 a0_1, .string a0_2, .int .i64 a0_3, .int .i64 a0_4, .int .i64 a0_5, .string a0_6, .int .i64 a0_7, .int .i64 a0_8] 25 (0, 0)) (by exact blk_all8 (qK BK604)) hb); replace HB := bS_ HB hb; (try clear hb)))
   go_meet
   case rel => exact ⟨_, (true), eqq_, H', ⟨by first | omega | exact Nat.le_refl _⟩, ⟨qK BK603⟩, ⟨qK BK604⟩, ⟨qB HB⟩⟩
  subst c12
  rw [if_pos rfl] at H
  by_cases c13 : (!(a0_9 == 0) || (!(a0_10.toList == ([] : List UInt8)) || (!(a0_11 == 0) || (!(a0_12 == 0) || (!(a0_13 == 0) || (!(a0_14 == 0) || (!(a0_15 == 0)))))))) = true
  ·
   rw [if_pos c13] at H
   have c13b0 : (!(a0_9 == 0) || (!(a0_10.toList == ([] : List UInt8)) || (!(a0_11 == 0) || (!(a0_12 == 0) || (!(a0_13 == 0) || (!(a0_14 == 0) || (!(a0_15 == 0)))))))) = true := c13
   (try (have c13b0e := c13b0; simp only [beq_nil, bne_nil] at c13b0e))
   clear c13
   (first | rw [c13b0] | (simp only [i64_w, i32_w]; rw [c13b0]) | skip)
   have H' := Aside0.mk H
   clear H
   have hnb14 := NB604_603.out
   have hnc14 := NB603_604.out
   (try clear zK604)
   have zK604 := cz8 BK604.out
   (try clear fK604)
   have fK604 := fz8 BK604.out
   go_wp2_with (first | ((with_reducible refine gate_callee (f := 17) rfl ?_); refine goesL_ (some 13) rfl rfl Try.func17 (by kernel_rfl) rfl #[.agg #[.int .i64 a0_1, .string a0_2, .int .i64 a0_3, .int .i64 a0_4, .int .i64 a0_5, .string a0_6, .int .i64 a0_7, .int .i64 a0_8]] rfl la_ ?_; (with_reducible refine (spec_AskerOk.calls k a0_1 a0_2 a0_3 a0_4 a0_5 a0_6 a0_7 a0_8 true _ A11.out).mono ?_); rintro e w16 ⟨rfl, hb⟩; refine ⟨_, rfl, ?_⟩; replace BK603 := am_ (blk_below (g := gb603) (o := .cells #[.int .i64 a0_0, .int .i64 a0_1, .string a0_2, .int .i64 a0_3, .int .i64 a0_4, .int .i64 a0_5, .string a0_6, .int .i64 a0_7, .int .i64 a0_8, .int .i64 a0_9, .string a0_10, .int .i64 a0_11, .int .i64 a0_12, .int .i64 a0_13, .int .i64 a0_14, .int .i64 a0_15] 29 (0, 0)) (by (with_reducible repeat (first | refine blk_drewN ?_ _ | refine blk_drew ?_ | refine blk_alloc ?_ _)); refine blk_far8 ?_ NB603_604.out; exact qK BK603) hb); replace BK604 := am_ (blk_below (g := gb604) (o := .cells #[.int .i64 a0_1, .string a0_2, .int .i64 a0_3, .int .i64 a0_4, .int .i64 a0_5, .string a0_6, .int .i64 a0_7, .int .i64 a0_8] 25 (0, 0)) (by exact blk_all8 (qK BK604)) hb); replace HB := bS_ HB hb; (try clear hb); (try clear zK603); have zK603 := cz16 BK603.out; (try clear fK603); have fK603 := fz16 BK603.out))
   go_meet
   case rel => exact ⟨_, (true), eqq_, H', ⟨by first | omega | exact Nat.le_refl _⟩, ⟨qK BK603⟩, ⟨qK BK604⟩, ⟨qB HB⟩⟩
  rw [if_neg c13] at H
  have c13b0 : (!(a0_9 == 0) || (!(a0_10.toList == ([] : List UInt8)) || (!(a0_11 == 0) || (!(a0_12 == 0) || (!(a0_13 == 0) || (!(a0_14 == 0) || (!(a0_15 == 0)))))))) = false := by simpa using c13
  (try (have c13b0e := c13b0; simp only [beq_nil, bne_nil] at c13b0e))
  clear c13
  (first | rw [c13b0] | (simp only [i64_w, i32_w]; rw [c13b0]) | skip)
  have H' := Aside0.mk H
  clear H
  have hnb18 := NB604_603.out
  have hnc18 := NB603_604.out
  (try clear zK604)
  have zK604 := cz8 BK604.out
  (try clear fK604)
  have fK604 := fz8 BK604.out
  go_wp2_with (first | ((with_reducible refine gate_callee (f := 17) rfl ?_); refine goesL_ (some 13) rfl rfl Try.func17 (by kernel_rfl) rfl #[.agg #[.int .i64 a0_1, .string a0_2, .int .i64 a0_3, .int .i64 a0_4, .int .i64 a0_5, .string a0_6, .int .i64 a0_7, .int .i64 a0_8]] rfl la_ ?_; (with_reducible refine (spec_AskerOk.calls k a0_1 a0_2 a0_3 a0_4 a0_5 a0_6 a0_7 a0_8 true _ A11.out).mono ?_); rintro e w20 ⟨rfl, hb⟩; refine ⟨_, rfl, ?_⟩; replace BK603 := am_ (blk_below (g := gb603) (o := .cells #[.int .i64 a0_0, .int .i64 a0_1, .string a0_2, .int .i64 a0_3, .int .i64 a0_4, .int .i64 a0_5, .string a0_6, .int .i64 a0_7, .int .i64 a0_8, .int .i64 a0_9, .string a0_10, .int .i64 a0_11, .int .i64 a0_12, .int .i64 a0_13, .int .i64 a0_14, .int .i64 a0_15] 29 (0, 0)) (by (with_reducible repeat (first | refine blk_drewN ?_ _ | refine blk_drew ?_ | refine blk_alloc ?_ _)); refine blk_far8 ?_ NB603_604.out; exact qK BK603) hb); replace BK604 := am_ (blk_below (g := gb604) (o := .cells #[.int .i64 a0_1, .string a0_2, .int .i64 a0_3, .int .i64 a0_4, .int .i64 a0_5, .string a0_6, .int .i64 a0_7, .int .i64 a0_8] 25 (0, 0)) (by exact blk_all8 (qK BK604)) hb); replace HB := bS_ HB hb; (try clear hb); (try clear zK603); have zK603 := cz16 BK603.out; (try clear zK604); have zK604 := cz8 BK604.out; (try clear fK604); have fK604 := fz8 BK604.out))
  go_meet
  case rel => exact ⟨_, (decide (a0_8 > 65535)), eqq_, H', ⟨by first | omega | exact Nat.le_refl _⟩, ⟨qK BK603⟩, ⟨qK BK604⟩, ⟨qB HB⟩⟩
 case rest =>
  clear HC6
  try clear c1
  try clear c2
  try clear p2
  try clear c5
  try clear c5b0
  try clear c5b1
  try clear c9
  try clear c12
  try clear c13
  try clear c13b0
  try clear c14
  try clear c17
  try clear c18
  try clear c20
  try clear c23
  (try clear zK604)
  (try clear zK604)
  (try clear zK603)
  (try clear zK604)
  (try clear zK603)
  (try clear zK604)
  (try clear zK604)
  (try clear zK603)
  (try clear zK603)
  (try clear fK604)
  (try clear fK604)
  (try clear fK603)
  (try clear fK604)
  (try clear f21)
  (try clear fK604)
  (try clear fK604)
  (try clear fK603)
  (try clear fK603)
  obtain ⟨kq, x25_5, rfl, HA, HJ5, BK603, BK604, HB⟩ := hcut
  cases kq with
  | zero => exact absurd HA.out (by simp [spec_PutItem.j0])
  | succ kj5 =>
   have H := HA.out
   clear HA
   simp only [spec_PutItem.j0] at H
   by_cases c26 : x25_5 = true
   ·
    subst c26
    rw [if_pos rfl] at H
    obtain ⟨y606, hy606⟩ : ∃ y_ : List Int, y_ = (([] : List Int)) := ⟨_, rfl⟩
    rw [← hy606] at H
    have Ny606 := Aside0.mk hy606
    clear hy606
    obtain rfl := Option.some.inj H
    go_wp2_with (first | ((with_reducible refine gate_dst (N := 26) rfl ?_); refine Kd.R_lit (Kd.int .u8) _ 5 ?hg (N := 26) ?hd (xs := ([] : List Int)) (inner := []) (ok := fun _ => True) (okp := fun _ => True) ?hr ?hp (fun _ hk => hk) trivial (Below.refl _ _) (Nat.le_refl _) (by simp) ?_; (case hd => rfl); (case hg => rfl); (case hr => first | (go_simp; done) | (go_simp; rfl)); (case hp => exact (Reps.none _ _)); intro v607 w27 ho28 hb hg_ hnew_; clear hg_ hnew_; (first | rw [← Ny606.out] at ho28 | (simp only [Int.reduceToNat] at ho28; rw [← Ny606.out] at ho28)); have HO608 := am_ (Kd.R_lower ho28 (below_size (qB HB))); replace BK603 := bK_ BK603 hb; replace BK604 := bK_ BK604 hb; replace HB := bS_ HB hb; clear hb ho28))
    go_ret
    exact ⟨_, er_, qR HO608, qB HB⟩
   replace c26 := Bool.eq_false_iff.mpr c26
   subst c26
   rw [if_neg (show ¬ (false = true) by decide)] at H
   obtain ⟨y609, hy609⟩ : ∃ y_ : List Int, y_ = (([1] : List Int)) := ⟨_, rfl⟩
   rw [← hy609] at H
   have Ny609 := Aside0.mk hy609
   clear hy609
   replace H := bd_ H
   obtain ⟨t612, A29, H⟩ := H
   obtain ⟨y615, hy615⟩ : ∃ y_ : List Int, y_ = (([(a0_3) % 256] : List Int)) := ⟨_, rfl⟩
   replace H := mk_ H hy615
   (try dsimp only at H)
   have Ny615 := Aside0.mk hy615
   clear hy615
   by_cases c30 : t612.length + y615.length < 140737488355328
   case neg => exact nn_ c30 H
   rw [if_pos c30] at H
   have LMc30 := Aside0.mk c30
   clear c30
   obtain ⟨y618, hy618⟩ : ∃ y_ : List Int, y_ = (t612 ++ y615) := ⟨_, rfl⟩
   replace H : ((spec_PutText.f kj5 y618 a0_2).bind fun t621 => ((spec_PutWord.f t621 a0_4).bind fun t624 => ((spec_PutWord.f t624 (wrap64 (Int.tdiv a0_5 256))).bind fun t627 => ((some (([(Int.tmod a0_5 256) % 256] : List Int) : List Int)).bind fun y630 => (if t627.length + y630.length < 140737488355328 then ((spec_PutText.f kj5 (t627 ++ y630) a0_6).bind fun t636 => ((spec_PutWord.f t636 a0_7).bind fun t639 => ((spec_PutWord.f t639 a0_8).bind fun t642 => (some t642)))) else (none)))))) = some r := by first | (rw [hy618]; with_reducible exact H) | (have H2_ := (Option.bind_some _ _).symm.trans H; rw [hy618]; with_reducible exact H2_) | (have H2_ := (Option.bind_some _ _).symm.trans H; with_reducible exact H2_) | with_reducible exact H | (rw [hy618]; exact H) | exact H
   have Ny618 := Aside0.mk hy618
   clear hy618
   replace H := bd_ H
   obtain ⟨t621, A31, H⟩ := H
   replace H := bd_ H
   obtain ⟨t624, A32, H⟩ := H
   replace H := bd_ H
   obtain ⟨t627, A33, H⟩ := H
   obtain ⟨y630, hy630⟩ : ∃ y_ : List Int, y_ = (([(Int.tmod a0_5 256) % 256] : List Int)) := ⟨_, rfl⟩
   replace H := mk_ H hy630
   (try dsimp only at H)
   have Ny630 := Aside0.mk hy630
   clear hy630
   by_cases c34 : t627.length + y630.length < 140737488355328
   case neg => exact nn_ c34 H
   rw [if_pos c34] at H
   have LMc34 := Aside0.mk c34
   clear c34
   obtain ⟨y633, hy633⟩ : ∃ y_ : List Int, y_ = (t627 ++ y630) := ⟨_, rfl⟩
   replace H : ((spec_PutText.f kj5 y633 a0_6).bind fun t636 => ((spec_PutWord.f t636 a0_7).bind fun t639 => ((spec_PutWord.f t639 a0_8).bind fun t642 => (some t642)))) = some r := by first | (rw [hy633]; with_reducible exact H) | (have H2_ := (Option.bind_some _ _).symm.trans H; rw [hy633]; with_reducible exact H2_) | (have H2_ := (Option.bind_some _ _).symm.trans H; with_reducible exact H2_) | with_reducible exact H | (rw [hy633]; exact H) | exact H
   have Ny633 := Aside0.mk hy633
   clear hy633
   replace H := bd_ H
   obtain ⟨t636, A35, H⟩ := H
   replace H := bd_ H
   obtain ⟨t639, A36, H⟩ := H
   replace H := bd_ H
   obtain ⟨t642, A37, H⟩ := H
   obtain rfl := Option.some.inj H
   try go_wp2
   replace BK603 := am_ (blk_drew BK603.out)
   replace BK604 := am_ (blk_drew BK604.out)
   replace HB := am_ (below_drew1 HB.out)
   refine start_ (n := 13) (S := fun w' => w'.cell? ⟨gb604, 0, none⟩ = some (.int .i64 a0_1) ∧ w'.cell? ⟨gb604, 1, none⟩ = some (.string a0_2) ∧ w'.cell? ⟨gb604, 2, none⟩ = some (.int .i64 a0_3) ∧ w'.cell? ⟨gb604, 3, none⟩ = some (.int .i64 a0_4) ∧ w'.cell? ⟨gb604, 4, none⟩ = some (.int .i64 a0_5) ∧ w'.cell? ⟨gb604, 5, none⟩ = some (.string a0_6) ∧ w'.cell? ⟨gb604, 6, none⟩ = some (.int .i64 a0_7) ∧ w'.cell? ⟨gb604, 7, none⟩ = some (.int .i64 a0_8)) (ds := []) (rl [0,13]) (by kernel_rfl) rfl rfl (cz8 BK604.out) (fun hHeld => ?_); refine with_tabW spec_PutItem.tab5 spec_PutItem.bits5 (fun HT_ HW_ => ?_)
   generalize wc.drew = w38 at BK603 BK604 HB hHeld ⊢
   refine pz_ (i := 1) (N := some 28) HT_ (rl [0,1,1,11]) rfl rfl ?_
   refine pz_ (i := 4) (N := some 31) HT_ (rl [0,1,1,2,1,8]) rfl rfl ?_
   refine pz_ (i := 9) (N := some 36) HT_ (rl [0,1,1,2,1,4,1,3]) rfl rfl ?_
   refine tz_ (i := 2) (N := some 29) HT_ HW_ (rl [0,1,2,1,1,4,1,3]) rfl rfl hHeld ?_
   refine tz_ (i := 5) (N := some 32) HT_ HW_ (rl [0,1,2,1,2,3,1,3]) rfl rfl hHeld ?_
   refine pz_ (i := 6) (N := some 33) HT_ (rl [0,1,2,1,3,2,1,3]) rfl rfl ?_
   refine tz_ (i := 10) (N := some 37) HT_ HW_ (rl [0,1,2,1,3,2,2,2]) rfl rfl hHeld ?_
   refine join_ (σ := Value × Value × Value) 3 (rl [8,1,2,2]) (fun s_ => [(27, s_.1), (30, s_.2.1), (34, s_.2.2)]) (fun s_ w' => (w'.cell? ⟨gb604, 0, none⟩ = some (.int .i64 a0_1) ∧ w'.cell? ⟨gb604, 1, none⟩ = some (.string a0_2) ∧ w'.cell? ⟨gb604, 2, none⟩ = some (.int .i64 a0_3) ∧ w'.cell? ⟨gb604, 3, none⟩ = some (.int .i64 a0_4) ∧ w'.cell? ⟨gb604, 4, none⟩ = some (.int .i64 a0_5) ∧ w'.cell? ⟨gb604, 5, none⟩ = some (.string a0_6) ∧ w'.cell? ⟨gb604, 6, none⟩ = some (.int .i64 a0_7) ∧ w'.cell? ⟨gb604, 7, none⟩ = some (.int .i64 a0_8)) ∧ (Kd.R (Kd.int .u8) 5 w' w.heap.size (fun k_ => some k_ ≠ (s_.2.1 : Value).ownBlock ∧ some k_ ≠ (s_.2.2 : Value).ownBlock) s_.1 y609) ∧ (Kd.R (Kd.int .u8) 5 w' w.heap.size (fun k_ => some k_ ≠ (s_.1 : Value).ownBlock ∧ some k_ ≠ (s_.2.2 : Value).ownBlock) s_.2.1 t612) ∧ (Kd.R (Kd.int .u8) 5 w' w.heap.size (fun k_ => some k_ ≠ (s_.1 : Value).ownBlock ∧ some k_ ≠ (s_.2.1 : Value).ownBlock) s_.2.2 y615) ∧ (w'.heap[gb603]? = some (.cells #[.int .i64 a0_0, .int .i64 a0_1, .string a0_2, .int .i64 a0_3, .int .i64 a0_4, .int .i64 a0_5, .string a0_6, .int .i64 a0_7, .int .i64 a0_8, .int .i64 a0_9, .string a0_10, .int .i64 a0_11, .int .i64 a0_12, .int .i64 a0_13, .int .i64 a0_14, .int .i64 a0_15] 29 (0, 0))) ∧ (w'.heap[gb604]? = some (.cells #[.int .i64 a0_1, .string a0_2, .int .i64 a0_3, .int .i64 a0_4, .int .i64 a0_5, .string a0_6, .int .i64 a0_7, .int .i64 a0_8] 25 (0, 0))) ∧ (Below w.heap.size w w')) ?_ ?_
   rotate_left
   ·
    intro hCont
    refine two_ (i := 0) (j := 7) (Ni := some 27) (Nj := some 34) (rl [3,1,3,2,2,2]) (rl [0,1,2,1,4,1,2,2]) rfl rfl rfl rfl (two_of HT_.out (by kernel_rfl)) (by decide) (by decide) (fun K hK => ?_) (fun K hK => ?_)
    ·
     skip
     refine Kd.R_lit_step (Kd.int .u8) _ 5 ?hg (N := 27) ?hd (xs := ([1] : List Int)) (inner := [.int .u8 1]) (ok := fun _ => True) (okp := fun _ => True) ?hr ?hp (fun _ hk => hk) trivial (Below.refl _ _) (Nat.le_refl _) (by simp) ?_; (case hd => rfl); (case hg => rfl); (case hr => first | (go_simp; done) | (go_simp; rfl)); (case hp => exact (Reps.one (show Kd.M (Kd.int .u8) _ _ _ 1 [.int .u8 1] from rfl) (Reps.none _ _)))
     intro v610 w39 ho40 hb hg_ hnew_
     clear hg_ hnew_
     (first | rw [← Ny609.out] at ho40 | (simp only [Int.reduceToNat] at ho40; rw [← Ny609.out] at ho40))
     have HO611 := am_ (Kd.R_lower ho40 (below_size (qB HB)))
     replace BK603 := bK_ BK603 hb
     replace BK604 := bK_ BK604 hb
     replace HB := bS_ HB hb
     clear hb ho40
     obtain ⟨Ao41, co41, eo41⟩ := Kd.R_slice HO611.out
     (first | subst eo41 | (injection eo41 with f1_ f2_ f3_; have f4_ := f1_.symm; have f5_ := f3_.symm; clear f1_ f2_ f3_; subst f4_; subst f5_))
     refine hK.out _ _ (cz8 BK604.out) (fun hHeld => ?_)
     clear hK K
     refine norm_ (a' := ?_) ?_ ?_
     rotate_left
     ·
      show Act.put _ (some 27) _ = _
      exact ap_
     refine two_ (i := 3) (j := 7) (Ni := some 30) (Nj := some 34) (rl [7,2,2,2]) (rl [3,1,4,1,2,2]) rfl rfl rfl rfl (two_of HT_.out (by kernel_rfl)) (by decide) (by decide) (fun K hK => ?_) (fun K hK => ?_)
     ·
      skip
      refine goes_ Try.func89 (by kernel_rfl) rfl #[.slice Ao41 y609.length co41, .int .i64 a0_1] (by rfl) rfl rfl la_ ?_
      with_reducible refine (spec_PutWord.calls _ _ y609 a0_1 t612 _ ?side1 ?side2 A29.out).mono ?_
      (case side1 => exact qC ((Kd.R_reads' HO611.out).2.2))
      (case side2 => exact (Kd.R_reads' HO611.out).2.1)
      rintro e w42 ⟨v613, rfl, ho0, hb⟩
      refine ⟨_, rfl, ?_⟩
      have HO614 := am_ (Kd.R_lower (Kd.R_new' ho0 (Kd.R_lt (qR HO611))) (below_size (qB HB)))
      replace HO611 := eA_ HO611 ho0 hb
      replace BK603 := bK_ BK603 hb
      replace BK604 := bK_ BK604 hb
      replace HB := bS_ HB hb
      (try clear hb ho0)
      refine hK.out _ _ (cz8 BK604.out) (fun hHeld => ?_)
      clear hK K
      refine norm_ (a' := ?_) ?_ ?_
      rotate_left
      ·
       show Act.put _ (some 30) _ = _
       exact ap_
      refine one_ (i := 7) (N := some 34) (rl [8,1,2,2]) rfl rfl (one_of HT_.out (by kernel_rfl)) (by decide) (fun K hK => ?_)
      refine Kd.R_lit_step (Kd.int .u8) _ 5 ?hg (N := 34) ?hd (xs := ([(a0_3) % 256] : List Int)) (inner := [.int .u8 ((a0_3) % 256)]) (ok := fun _ => True) (okp := fun _ => True) ?hr ?hp (fun _ hk => hk) trivial (Below.refl _ _) (Nat.le_refl _) (by simp) ?_; (case hd => rfl); (case hg => rfl); (case hr => first | (go_simp; done) | (go_simp; rfl)); (case hp => exact (Reps.one (show Kd.M (Kd.int .u8) _ _ _ ((a0_3) % 256) [.int .u8 ((a0_3) % 256)] from rfl) (Reps.none _ _)))
      intro v616 w43 ho44 hb hg_ hnew_
      clear hg_ hnew_
      (first | rw [← Ny615.out] at ho44 | (simp only [Int.reduceToNat] at ho44; rw [← Ny615.out] at ho44))
      have HO617 := am_ (Kd.R_lower (Kd.R_new' (Kd.R_new' ho44 (Kd.R_lt (qR HO611))) (Kd.R_lt (qR HO614))) (below_size (qB HB)))
      replace HO611 := eA_ HO611 ho44 hb
      replace HO614 := eA_ HO614 ho44 hb
      replace BK603 := bK_ BK603 hb
      replace BK604 := bK_ BK604 hb
      replace HB := bS_ HB hb
      clear hb ho44
      refine hK.out _ _ (cz8 BK604.out) (fun hHeld => ?_)
      clear hK K
      refine norm_ (a' := ?_) ?_ ?_
      rotate_left
      ·
       show Act.put _ (some 34) _ = _
       exact ap_
      exact norm_ (by simp only [putAll, Act.put, List.setIfInBounds_toArray, List.set_cons_zero, List.set_cons_succ]) (hCont (.slice Ao41 y609.length co41, v613, v616) _ ⟨hHeld, (tR (Kd.R_mono HO611.out (fun _ hk => ⟨hk.1.2, hk.2⟩))), (tR (Kd.R_mono HO614.out (fun _ hk => ⟨hk.1.2, hk.2⟩))), (tR (Kd.R_mono HO617.out (fun _ hk => ⟨hk.1.2, hk.2⟩))), (qK BK603), (qK BK604), (qB HB)⟩)
     ·
      skip
      refine Kd.R_lit_step (Kd.int .u8) _ 5 ?hg (N := 34) ?hd (xs := ([(a0_3) % 256] : List Int)) (inner := [.int .u8 ((a0_3) % 256)]) (ok := fun _ => True) (okp := fun _ => True) ?hr ?hp (fun _ hk => hk) trivial (Below.refl _ _) (Nat.le_refl _) (by simp) ?_; (case hd => rfl); (case hg => rfl); (case hr => first | (go_simp; done) | (go_simp; rfl)); (case hp => exact (Reps.one (show Kd.M (Kd.int .u8) _ _ _ ((a0_3) % 256) [.int .u8 ((a0_3) % 256)] from rfl) (Reps.none _ _)))
      intro v616 w41 ho42 hb hg_ hnew_
      clear hg_ hnew_
      (first | rw [← Ny615.out] at ho42 | (simp only [Int.reduceToNat] at ho42; rw [← Ny615.out] at ho42))
      have HO617 := am_ (Kd.R_lower (Kd.R_new' ho42 (Kd.R_lt (qR HO611))) (below_size (qB HB)))
      replace HO611 := eA_ HO611 ho42 hb
      replace BK603 := bK_ BK603 hb
      replace BK604 := bK_ BK604 hb
      replace HB := bS_ HB hb
      clear hb ho42
      obtain ⟨Ao43, co43, eo43⟩ := Kd.R_slice HO611.out
      (first | subst eo43 | (injection eo43 with f1_ f2_ f3_; have f4_ := f1_.symm; have f5_ := f3_.symm; clear f1_ f2_ f3_; subst f4_; subst f5_))
      refine hK.out _ _ (cz8 BK604.out) (fun hHeld => ?_)
      clear hK K
      refine norm_ (a' := ?_) ?_ ?_
      rotate_left
      ·
       show Act.put _ (some 34) _ = _
       exact ap_
      refine one_ (i := 3) (N := some 30) (rl [8,1,2,2]) rfl rfl (one_of HT_.out (by kernel_rfl)) (by decide) (fun K hK => ?_)
      refine goes_ Try.func89 (by kernel_rfl) rfl #[.slice Ao43 y609.length co43, .int .i64 a0_1] (by rfl) rfl rfl la_ ?_
      with_reducible refine (spec_PutWord.calls _ _ y609 a0_1 t612 _ ?side1 ?side2 A29.out).mono ?_
      (case side1 => exact qC ((Kd.R_reads' HO611.out).2.2))
      (case side2 => exact (Kd.R_reads' HO611.out).2.1)
      rintro e w44 ⟨v613, rfl, ho0, hb⟩
      refine ⟨_, rfl, ?_⟩
      have HO614 := am_ (Kd.R_lower (Kd.R_new' (Kd.R_new' ho0 (Kd.R_lt (qR HO611))) (Kd.R_lt (qR HO617))) (below_size (qB HB)))
      replace HO611 := eA_ HO611 ho0 hb
      replace HO617 := eA_ HO617 ho0 hb
      replace BK603 := bK_ BK603 hb
      replace BK604 := bK_ BK604 hb
      replace HB := bS_ HB hb
      (try clear hb ho0)
      refine hK.out _ _ (cz8 BK604.out) (fun hHeld => ?_)
      clear hK K
      refine norm_ (a' := ?_) ?_ ?_
      rotate_left
      ·
       show Act.put _ (some 30) _ = _
       exact ap_
      exact norm_ (by simp only [putAll, Act.put, List.setIfInBounds_toArray, List.set_cons_zero, List.set_cons_succ]) (hCont (.slice Ao43 y609.length co43, v613, v616) _ ⟨hHeld, (tR (Kd.R_mono HO611.out (fun _ hk => ⟨hk.2, hk.1.2⟩))), (tR (Kd.R_mono HO614.out (fun _ hk => ⟨hk.1.2, hk.2⟩))), (tR (Kd.R_mono HO617.out (fun _ hk => ⟨hk.1.2, hk.2⟩))), (qK BK603), (qK BK604), (qB HB)⟩)
    ·
     skip
     refine Kd.R_lit_step (Kd.int .u8) _ 5 ?hg (N := 34) ?hd (xs := ([(a0_3) % 256] : List Int)) (inner := [.int .u8 ((a0_3) % 256)]) (ok := fun _ => True) (okp := fun _ => True) ?hr ?hp (fun _ hk => hk) trivial (Below.refl _ _) (Nat.le_refl _) (by simp) ?_; (case hd => rfl); (case hg => rfl); (case hr => first | (go_simp; done) | (go_simp; rfl)); (case hp => exact (Reps.one (show Kd.M (Kd.int .u8) _ _ _ ((a0_3) % 256) [.int .u8 ((a0_3) % 256)] from rfl) (Reps.none _ _)))
     intro v616 w39 ho40 hb hg_ hnew_
     clear hg_ hnew_
     (first | rw [← Ny615.out] at ho40 | (simp only [Int.reduceToNat] at ho40; rw [← Ny615.out] at ho40))
     have HO617 := am_ (Kd.R_lower ho40 (below_size (qB HB)))
     replace BK603 := bK_ BK603 hb
     replace BK604 := bK_ BK604 hb
     replace HB := bS_ HB hb
     clear hb ho40
     refine hK.out _ _ (cz8 BK604.out) (fun hHeld => ?_)
     clear hK K
     refine norm_ (a' := ?_) ?_ ?_
     rotate_left
     ·
      show Act.put _ (some 34) _ = _
      exact ap_
     refine one_ (i := 0) (N := some 27) (rl [3,1,4,1,2,2]) rfl rfl (one_of HT_.out (by kernel_rfl)) (by decide) (fun K hK => ?_)
     refine Kd.R_lit_step (Kd.int .u8) _ 5 ?hg (N := 27) ?hd (xs := ([1] : List Int)) (inner := [.int .u8 1]) (ok := fun _ => True) (okp := fun _ => True) ?hr ?hp (fun _ hk => hk) trivial (Below.refl _ _) (Nat.le_refl _) (by simp) ?_; (case hd => rfl); (case hg => rfl); (case hr => first | (go_simp; done) | (go_simp; rfl)); (case hp => exact (Reps.one (show Kd.M (Kd.int .u8) _ _ _ 1 [.int .u8 1] from rfl) (Reps.none _ _)))
     intro v610 w41 ho42 hb hg_ hnew_
     clear hg_ hnew_
     (first | rw [← Ny609.out] at ho42 | (simp only [Int.reduceToNat] at ho42; rw [← Ny609.out] at ho42))
     have HO611 := am_ (Kd.R_lower (Kd.R_new' ho42 (Kd.R_lt (qR HO617))) (below_size (qB HB)))
     replace HO617 := eA_ HO617 ho42 hb
     replace BK603 := bK_ BK603 hb
     replace BK604 := bK_ BK604 hb
     replace HB := bS_ HB hb
     clear hb ho42
     obtain ⟨Ao43, co43, eo43⟩ := Kd.R_slice HO611.out
     (first | subst eo43 | (injection eo43 with f1_ f2_ f3_; have f4_ := f1_.symm; have f5_ := f3_.symm; clear f1_ f2_ f3_; subst f4_; subst f5_))
     refine hK.out _ _ (cz8 BK604.out) (fun hHeld => ?_)
     clear hK K
     refine norm_ (a' := ?_) ?_ ?_
     rotate_left
     ·
      show Act.put _ (some 27) _ = _
      exact ap_
     refine one_ (i := 3) (N := some 30) (rl [8,1,2,2]) rfl rfl (one_of HT_.out (by kernel_rfl)) (by decide) (fun K hK => ?_)
     refine goes_ Try.func89 (by kernel_rfl) rfl #[.slice Ao43 y609.length co43, .int .i64 a0_1] (by rfl) rfl rfl la_ ?_
     with_reducible refine (spec_PutWord.calls _ _ y609 a0_1 t612 _ ?side1 ?side2 A29.out).mono ?_
     (case side1 => exact qC ((Kd.R_reads' HO611.out).2.2))
     (case side2 => exact (Kd.R_reads' HO611.out).2.1)
     rintro e w44 ⟨v613, rfl, ho0, hb⟩
     refine ⟨_, rfl, ?_⟩
     have HO614 := am_ (Kd.R_lower (Kd.R_new' (Kd.R_new' ho0 (Kd.R_lt (qR HO617))) (Kd.R_lt (qR HO611))) (below_size (qB HB)))
     replace HO617 := eA_ HO617 ho0 hb
     replace HO611 := eA_ HO611 ho0 hb
     replace BK603 := bK_ BK603 hb
     replace BK604 := bK_ BK604 hb
     replace HB := bS_ HB hb
     (try clear hb ho0)
     refine hK.out _ _ (cz8 BK604.out) (fun hHeld => ?_)
     clear hK K
     refine norm_ (a' := ?_) ?_ ?_
     rotate_left
     ·
      show Act.put _ (some 30) _ = _
      exact ap_
     exact norm_ (by simp only [putAll, Act.put, List.setIfInBounds_toArray, List.set_cons_zero, List.set_cons_succ]) (hCont (.slice Ao43 y609.length co43, v613, v616) _ ⟨hHeld, (tR (Kd.R_mono HO611.out (fun _ hk => ⟨hk.2, hk.1.2⟩))), (tR (Kd.R_mono HO614.out (fun _ hk => ⟨hk.2, hk.1.2⟩))), (tR (Kd.R_mono HO617.out (fun _ hk => ⟨hk.1.2, hk.2⟩))), (qK BK603), (qK BK604), (qB HB)⟩)
   rintro ⟨v610, v613, v616⟩ w45 ⟨hS_, h0_, h1_, h2_, h3_, h4_, h5_⟩
   have n0_ : Aside0 (Kd.R (Kd.int .u8) 5 w45 w.heap.size (fun k_ => some k_ ≠ (v613 : Value).ownBlock ∧ some k_ ≠ (v616 : Value).ownBlock) v610 y609) := ⟨h0_⟩
   have n1_ : Aside0 (Kd.R (Kd.int .u8) 5 w45 w.heap.size (fun k_ => some k_ ≠ (v610 : Value).ownBlock ∧ some k_ ≠ (v616 : Value).ownBlock) v613 t612) := ⟨h1_⟩
   have n2_ : Aside0 (Kd.R (Kd.int .u8) 5 w45 w.heap.size (fun k_ => some k_ ≠ (v610 : Value).ownBlock ∧ some k_ ≠ (v613 : Value).ownBlock) v616 y615) := ⟨h2_⟩
   have n3_ : Aside0 (w45.heap[gb603]? = some (.cells #[.int .i64 a0_0, .int .i64 a0_1, .string a0_2, .int .i64 a0_3, .int .i64 a0_4, .int .i64 a0_5, .string a0_6, .int .i64 a0_7, .int .i64 a0_8, .int .i64 a0_9, .string a0_10, .int .i64 a0_11, .int .i64 a0_12, .int .i64 a0_13, .int .i64 a0_14, .int .i64 a0_15] 29 (0, 0))) := ⟨h3_⟩
   have n4_ : Aside0 (w45.heap[gb604]? = some (.cells #[.int .i64 a0_1, .string a0_2, .int .i64 a0_3, .int .i64 a0_4, .int .i64 a0_5, .string a0_6, .int .i64 a0_7, .int .i64 a0_8] 25 (0, 0))) := ⟨h4_⟩
   have n5_ : Aside0 (Below w.heap.size w w45) := ⟨h5_⟩
   clear BK603
   clear BK604
   clear HB
   clear h0_ h1_ h2_ h3_ h4_ h5_
   have HO611 := n0_
   have HO614 := n1_
   have HO617 := n2_
   have BK603 := n3_
   have BK604 := n4_
   have HB := n5_
   clear n0_ n1_ n2_ n3_ n4_ n5_
   have hHeld : w45.cell? ⟨gb604, 0, none⟩ = some (.int .i64 a0_1) ∧ w45.cell? ⟨gb604, 1, none⟩ = some (.string a0_2) ∧ w45.cell? ⟨gb604, 2, none⟩ = some (.int .i64 a0_3) ∧ w45.cell? ⟨gb604, 3, none⟩ = some (.int .i64 a0_4) ∧ w45.cell? ⟨gb604, 4, none⟩ = some (.int .i64 a0_5) ∧ w45.cell? ⟨gb604, 5, none⟩ = some (.string a0_6) ∧ w45.cell? ⟨gb604, 6, none⟩ = some (.int .i64 a0_7) ∧ w45.cell? ⟨gb604, 7, none⟩ = some (.int .i64 a0_8) := hS_
   obtain ⟨Ao47, co47, eo47⟩ := Kd.R_slice HO617.out
   (first | subst eo47 | (injection eo47 with f1_ f2_ f3_; have f4_ := f1_.symm; have f5_ := f3_.symm; clear f1_ f2_ f3_; subst f4_; subst f5_))
   refine norm_ (a' := ?_) ?_ ?_
   rotate_left
   ·
    simp only [putAll, Act.put, List.setIfInBounds_toArray, List.set_cons_zero, List.set_cons_succ]
    rfl
   refine one_ (i := 8) (N := some 35) (rl [11,2]) rfl rfl (one_of HT_.out (by kernel_rfl)) (by decide) (fun K hK => ?_)
   refine Kd.R_append_rows_step (Kd.int .u8) (w0 := w) w.heap.size (by rfl) (.tmp 30) (.tmp 34) 22 5 (.int .u8 0) 1 rfl Try.underlying22 info5 rfl (by decide) (by omega) v613 t612 y615 _ _ _ (fun k_ => some k_ ≠ (v610 : Value).ownBlock ∧ some k_ ≠ (.slice Ao47 y615.length co47 : Value).ownBlock) (fun _ => False) rfl rfl ?aO ?aR (fun _ _ h => h) (fun _ h => h.elim) ?aF ?aB ?aS ?aL ?_
   (case aR => exact qC ((Kd.R_reads' HO617.out).2.2))
   (case aB => exact (qB HB))
   (case aF => exact (fun k_ hk => ⟨Kd.fresh' (Kd.R_lt (qR HO611)) k_ hk, Kd.fresh' (Kd.R_lt (qR HO617)) k_ hk⟩))
   (case aO => exact (qR HO614))
   (case aS => exact (below_size (qB HB)))
   (case aL => have := LMc30.out; omega)
   intro v619 w46 ho hb hg hat
   rw [← Ny618.out] at ho
   replace BK603 := am_ (blk_grown (qK BK603) hg (Kd.R_ne HO614.out BK603.out (by decide)))
   replace BK604 := am_ (blk_grown (qK BK604) hg (Kd.R_ne HO614.out BK604.out (by decide)))
   replace HO611 := am_ (Kd.R_after (ok := (fun k_ => some k_ ≠ (.slice Ao47 y615.length co47 : Value).ownBlock)) (tR (Kd.R_mono HO611.out (fun _ hk => ⟨hk.2, hk.1⟩))) hg hat)
   replace HO617 := am_ (Kd.R_after (ok := (fun k_ => some k_ ≠ (v610 : Value).ownBlock)) (qR HO617) hg hat)
   replace HB := am_ (hb)
   have HO620 := am_ (ho)
   clear HO614
   clear ho hb hg hat
   obtain ⟨Ao48, co48, eo48⟩ := Kd.R_slice HO620.out
   (first | subst eo48 | (injection eo48 with f1_ f2_ f3_; have f4_ := f1_.symm; have f5_ := f3_.symm; clear f1_ f2_ f3_; subst f4_; subst f5_))
   refine hK.out _ _ (cz8 BK604.out) (fun hHeld => ?_)
   clear hK K
   refine norm_ (a' := ?_) ?_ ?_
   rotate_left
   ·
    show Act.put _ (some 35) _ = _
    exact ap_
   refine one_ (i := 11) (N := some 38) (rl [12,1]) rfl rfl (one_of HT_.out (by kernel_rfl)) (by decide) (fun K hK => ?_)
   refine goes_ Try.func88 (by kernel_rfl) rfl #[.slice Ao48 y618.length co48, .string a0_2] (by rfl) rfl rfl la_ ?_
   with_reducible refine (spec_PutText.calls kj5 _ _ y618 a0_2 t621 _ ?side1 ?side2 A31.out).mono ?_
   (case side1 => exact qC ((Kd.R_reads' HO620.out).2.2))
   (case side2 => exact (Kd.R_reads' HO620.out).2.1)
   rintro e w49 ⟨v622, rfl, ho0, hb⟩
   refine ⟨_, rfl, ?_⟩
   have HO623 := am_ (Kd.R_lower (Kd.R_new' (Kd.R_new' (Kd.R_new' ho0 (Kd.R_lt (qR HO611))) (Kd.R_lt (qR HO617))) (Kd.R_lt (qR HO620))) (below_size (qB HB)))
   replace HO611 := eA_ HO611 ho0 hb
   replace HO617 := eA_ HO617 ho0 hb
   replace HO620 := eA_ HO620 ho0 hb
   replace BK603 := bK_ BK603 hb
   replace BK604 := bK_ BK604 hb
   replace HB := bS_ HB hb
   (try clear hb ho0)
   refine hK.out _ _ (cz8 BK604.out) (fun hHeld => ?_)
   clear hK K
   refine norm_ (a' := ?_) ?_ ?_
   rotate_left
   ·
    show Act.put _ (some 38) _ = _
    exact ap_
   refine pz_ (i := 12) (N := some 4) HT_ (rl [13]) rfl rfl ?_
   refine done_ (done_of HT_.out (by kernel_rfl)) ?_
   obtain ⟨Ao50, co50, eo50⟩ := Kd.R_slice HO623.out
   subst eo50
   try go_wp2
   replace HO611 := am_ (Kd.R_drew HO611.out)
   replace HO617 := am_ (Kd.R_drew HO617.out)
   replace HO620 := am_ (Kd.R_drew HO620.out)
   replace HO623 := am_ (Kd.R_drew HO623.out)
   replace BK603 := am_ (blk_drew BK603.out)
   replace BK604 := am_ (blk_drew BK604.out)
   replace HB := am_ (below_drew1 HB.out)
   refine start_ (n := 15) (S := fun w' => w'.cell? ⟨gb604, 0, none⟩ = some (.int .i64 a0_1) ∧ w'.cell? ⟨gb604, 1, none⟩ = some (.string a0_2) ∧ w'.cell? ⟨gb604, 2, none⟩ = some (.int .i64 a0_3) ∧ w'.cell? ⟨gb604, 3, none⟩ = some (.int .i64 a0_4) ∧ w'.cell? ⟨gb604, 4, none⟩ = some (.int .i64 a0_5) ∧ w'.cell? ⟨gb604, 5, none⟩ = some (.string a0_6) ∧ w'.cell? ⟨gb604, 6, none⟩ = some (.int .i64 a0_7) ∧ w'.cell? ⟨gb604, 7, none⟩ = some (.int .i64 a0_8)) (ds := []) (rl [0,15]) (by kernel_rfl) rfl rfl (cz8 BK604.out) (fun hHeld => ?_); refine with_tabW spec_PutItem.tab6 spec_PutItem.bits6 (fun HT_ HW_ => ?_)
   generalize w49.drew = w51 at HO611 HO617 HO620 HO623 BK603 BK604 HB hHeld ⊢
   refine pz_ (i := 0) (N := some 39) HT_ (rl [1,14]) rfl rfl ?_
   refine pz_ (i := 1) (N := some 40) HT_ (rl [2,13]) rfl rfl ?_
   refine pz_ (i := 4) (N := some 43) HT_ (rl [2,2,1,10]) rfl rfl ?_
   refine pz_ (i := 8) (N := some 47) HT_ (rl [2,2,1,3,1,6]) rfl rfl ?_
   refine tz_ (i := 2) (N := some 41) HT_ HW_ (rl [3,1,1,3,1,6]) rfl rfl hHeld ?_
   refine tz_ (i := 5) (N := some 44) HT_ HW_ (rl [3,1,2,2,1,6]) rfl rfl hHeld ?_
   refine pz_ (i := 6) (N := some 45) HT_ (rl [3,1,3,1,1,6]) rfl rfl ?_
   refine tz_ (i := 9) (N := some 48) HT_ HW_ (rl [3,1,3,1,2,5]) rfl rfl hHeld ?_
   refine pz_ (i := 10) (N := some 49) HT_ (rl [3,1,3,1,3,4]) rfl rfl ?_
   refine pz_ (i := 11) (N := some 50) HT_ (rl [3,1,3,1,4,3]) rfl rfl ?_
   refine join_ (σ := Value × Value × Value) 2 (rl [13,2]) (fun s_ => [(42, s_.1), (46, s_.2.1), (51, s_.2.2)]) (fun s_ w' => (w'.cell? ⟨gb604, 0, none⟩ = some (.int .i64 a0_1) ∧ w'.cell? ⟨gb604, 1, none⟩ = some (.string a0_2) ∧ w'.cell? ⟨gb604, 2, none⟩ = some (.int .i64 a0_3) ∧ w'.cell? ⟨gb604, 3, none⟩ = some (.int .i64 a0_4) ∧ w'.cell? ⟨gb604, 4, none⟩ = some (.int .i64 a0_5) ∧ w'.cell? ⟨gb604, 5, none⟩ = some (.string a0_6) ∧ w'.cell? ⟨gb604, 6, none⟩ = some (.int .i64 a0_7) ∧ w'.cell? ⟨gb604, 7, none⟩ = some (.int .i64 a0_8)) ∧ (Kd.R (Kd.int .u8) 5 w' w.heap.size (fun k_ => some k_ ≠ (.slice Ao47 y615.length co47 : Value).ownBlock ∧ some k_ ≠ (.slice Ao48 y618.length co48 : Value).ownBlock ∧ some k_ ≠ (.slice Ao50 t621.length co50 : Value).ownBlock ∧ some k_ ≠ (s_.1 : Value).ownBlock ∧ some k_ ≠ (s_.2.1 : Value).ownBlock ∧ some k_ ≠ (s_.2.2 : Value).ownBlock) v610 y609) ∧ (Kd.R (Kd.int .u8) 5 w' w.heap.size (fun k_ => some k_ ≠ (v610 : Value).ownBlock ∧ some k_ ≠ (.slice Ao48 y618.length co48 : Value).ownBlock ∧ some k_ ≠ (.slice Ao50 t621.length co50 : Value).ownBlock ∧ some k_ ≠ (s_.1 : Value).ownBlock ∧ some k_ ≠ (s_.2.1 : Value).ownBlock ∧ some k_ ≠ (s_.2.2 : Value).ownBlock) (.slice Ao47 y615.length co47) y615) ∧ (Kd.R (Kd.int .u8) 5 w' w.heap.size (fun k_ => some k_ ≠ (v610 : Value).ownBlock ∧ some k_ ≠ (.slice Ao47 y615.length co47 : Value).ownBlock ∧ some k_ ≠ (.slice Ao50 t621.length co50 : Value).ownBlock ∧ some k_ ≠ (s_.1 : Value).ownBlock ∧ some k_ ≠ (s_.2.1 : Value).ownBlock ∧ some k_ ≠ (s_.2.2 : Value).ownBlock) (.slice Ao48 y618.length co48) y618) ∧ (Kd.R (Kd.int .u8) 5 w' w.heap.size (fun k_ => some k_ ≠ (v610 : Value).ownBlock ∧ some k_ ≠ (.slice Ao47 y615.length co47 : Value).ownBlock ∧ some k_ ≠ (.slice Ao48 y618.length co48 : Value).ownBlock ∧ some k_ ≠ (s_.1 : Value).ownBlock ∧ some k_ ≠ (s_.2.1 : Value).ownBlock ∧ some k_ ≠ (s_.2.2 : Value).ownBlock) (.slice Ao50 t621.length co50) t621) ∧ (Kd.R (Kd.int .u8) 5 w' w.heap.size (fun k_ => some k_ ≠ (v610 : Value).ownBlock ∧ some k_ ≠ (.slice Ao47 y615.length co47 : Value).ownBlock ∧ some k_ ≠ (.slice Ao48 y618.length co48 : Value).ownBlock ∧ some k_ ≠ (.slice Ao50 t621.length co50 : Value).ownBlock ∧ some k_ ≠ (s_.2.1 : Value).ownBlock ∧ some k_ ≠ (s_.2.2 : Value).ownBlock) s_.1 t624) ∧ (Kd.R (Kd.int .u8) 5 w' w.heap.size (fun k_ => some k_ ≠ (v610 : Value).ownBlock ∧ some k_ ≠ (.slice Ao47 y615.length co47 : Value).ownBlock ∧ some k_ ≠ (.slice Ao48 y618.length co48 : Value).ownBlock ∧ some k_ ≠ (.slice Ao50 t621.length co50 : Value).ownBlock ∧ some k_ ≠ (s_.1 : Value).ownBlock ∧ some k_ ≠ (s_.2.2 : Value).ownBlock) s_.2.1 t627) ∧ (Kd.R (Kd.int .u8) 5 w' w.heap.size (fun k_ => some k_ ≠ (v610 : Value).ownBlock ∧ some k_ ≠ (.slice Ao47 y615.length co47 : Value).ownBlock ∧ some k_ ≠ (.slice Ao48 y618.length co48 : Value).ownBlock ∧ some k_ ≠ (.slice Ao50 t621.length co50 : Value).ownBlock ∧ some k_ ≠ (s_.1 : Value).ownBlock ∧ some k_ ≠ (s_.2.1 : Value).ownBlock) s_.2.2 y630) ∧ (w'.heap[gb603]? = some (.cells #[.int .i64 a0_0, .int .i64 a0_1, .string a0_2, .int .i64 a0_3, .int .i64 a0_4, .int .i64 a0_5, .string a0_6, .int .i64 a0_7, .int .i64 a0_8, .int .i64 a0_9, .string a0_10, .int .i64 a0_11, .int .i64 a0_12, .int .i64 a0_13, .int .i64 a0_14, .int .i64 a0_15] 29 (0, 0))) ∧ (w'.heap[gb604]? = some (.cells #[.int .i64 a0_1, .string a0_2, .int .i64 a0_3, .int .i64 a0_4, .int .i64 a0_5, .string a0_6, .int .i64 a0_7, .int .i64 a0_8] 25 (0, 0))) ∧ (Below w.heap.size w w')) ?_ ?_
   rotate_left
   ·
    intro hCont
    refine two_ (i := 3) (j := 12) (Ni := some 42) (Nj := some 51) (rl [7,1,4,3]) (rl [3,1,3,1,5,2]) rfl rfl rfl rfl (two_of HT_.out (by kernel_rfl)) (by decide) (by decide) (fun K hK => ?_) (fun K hK => ?_)
    ·
     skip
     refine goes_ Try.func89 (by kernel_rfl) rfl #[.slice Ao50 t621.length co50, .int .i64 a0_4] (by rfl) rfl rfl la_ ?_
     with_reducible refine (spec_PutWord.calls _ _ t621 a0_4 t624 _ ?side1 ?side2 A32.out).mono ?_
     (case side1 => exact qC ((Kd.R_reads' HO623.out).2.2))
     (case side2 => exact (Kd.R_reads' HO623.out).2.1)
     rintro e w52 ⟨v625, rfl, ho0, hb⟩
     refine ⟨_, rfl, ?_⟩
     have HO626 := am_ (Kd.R_lower (Kd.R_new' (Kd.R_new' (Kd.R_new' (Kd.R_new' ho0 (Kd.R_lt (qR HO611))) (Kd.R_lt (qR HO617))) (Kd.R_lt (qR HO620))) (Kd.R_lt (qR HO623))) (below_size (qB HB)))
     replace HO611 := eA_ HO611 ho0 hb
     replace HO617 := eA_ HO617 ho0 hb
     replace HO620 := eA_ HO620 ho0 hb
     replace HO623 := eA_ HO623 ho0 hb
     replace BK603 := bK_ BK603 hb
     replace BK604 := bK_ BK604 hb
     replace HB := bS_ HB hb
     (try clear hb ho0)
     obtain ⟨Ao53, co53, eo53⟩ := Kd.R_slice HO626.out
     (first | subst eo53 | (injection eo53 with f1_ f2_ f3_; have f4_ := f1_.symm; have f5_ := f3_.symm; clear f1_ f2_ f3_; subst f4_; subst f5_))
     refine hK.out _ _ (cz8 BK604.out) (fun hHeld => ?_)
     clear hK K
     refine norm_ (a' := ?_) ?_ ?_
     rotate_left
     ·
      show Act.put _ (some 42) _ = _
      exact ap_
     refine two_ (i := 7) (j := 12) (Ni := some 46) (Nj := some 51) (rl [12,3]) (rl [7,1,5,2]) rfl rfl rfl rfl (two_of HT_.out (by kernel_rfl)) (by decide) (by decide) (fun K hK => ?_) (fun K hK => ?_)
     ·
      skip
      refine goes_ Try.func89 (by kernel_rfl) rfl #[.slice Ao53 t624.length co53, .int .i64 (wrap64 (Int.tdiv a0_5 256))] (by rfl) rfl rfl la_ ?_
      with_reducible refine (spec_PutWord.calls _ _ t624 (wrap64 (Int.tdiv a0_5 256)) t627 _ ?side1 ?side2 A33.out).mono ?_
      (case side1 => exact qC ((Kd.R_reads' HO626.out).2.2))
      (case side2 => exact (Kd.R_reads' HO626.out).2.1)
      rintro e w54 ⟨v628, rfl, ho0, hb⟩
      refine ⟨_, rfl, ?_⟩
      have HO629 := am_ (Kd.R_lower (Kd.R_new' (Kd.R_new' (Kd.R_new' (Kd.R_new' (Kd.R_new' ho0 (Kd.R_lt (qR HO611))) (Kd.R_lt (qR HO617))) (Kd.R_lt (qR HO620))) (Kd.R_lt (qR HO623))) (Kd.R_lt (qR HO626))) (below_size (qB HB)))
      replace HO611 := eA_ HO611 ho0 hb
      replace HO617 := eA_ HO617 ho0 hb
      replace HO620 := eA_ HO620 ho0 hb
      replace HO623 := eA_ HO623 ho0 hb
      replace HO626 := eA_ HO626 ho0 hb
      replace BK603 := bK_ BK603 hb
      replace BK604 := bK_ BK604 hb
      replace HB := bS_ HB hb
      (try clear hb ho0)
      refine hK.out _ _ (cz8 BK604.out) (fun hHeld => ?_)
      clear hK K
      refine norm_ (a' := ?_) ?_ ?_
      rotate_left
      ·
       show Act.put _ (some 46) _ = _
       exact ap_
      refine one_ (i := 12) (N := some 51) (rl [13,2]) rfl rfl (one_of HT_.out (by kernel_rfl)) (by decide) (fun K hK => ?_)
      refine Kd.R_lit_step (Kd.int .u8) _ 5 ?hg (N := 51) ?hd (xs := ([(Int.tmod a0_5 256) % 256] : List Int)) (inner := [.int .u8 ((Int.tmod a0_5 256) % 256)]) (ok := fun _ => True) (okp := fun _ => True) ?hr ?hp (fun _ hk => hk) trivial (Below.refl _ _) (Nat.le_refl _) (by simp) ?_; (case hd => rfl); (case hg => rfl); (case hr => first | (go_simp; done) | (go_simp; rfl)); (case hp => exact (Reps.one (show Kd.M (Kd.int .u8) _ _ _ ((Int.tmod a0_5 256) % 256) [.int .u8 ((Int.tmod a0_5 256) % 256)] from rfl) (Reps.none _ _)))
      intro v631 w55 ho56 hb hg_ hnew_
      clear hg_ hnew_
      (first | rw [← Ny630.out] at ho56 | (simp only [Int.reduceToNat] at ho56; rw [← Ny630.out] at ho56))
      have HO632 := am_ (Kd.R_lower (Kd.R_new' (Kd.R_new' (Kd.R_new' (Kd.R_new' (Kd.R_new' (Kd.R_new' ho56 (Kd.R_lt (qR HO611))) (Kd.R_lt (qR HO617))) (Kd.R_lt (qR HO620))) (Kd.R_lt (qR HO623))) (Kd.R_lt (qR HO626))) (Kd.R_lt (qR HO629))) (below_size (qB HB)))
      replace HO611 := eA_ HO611 ho56 hb
      replace HO617 := eA_ HO617 ho56 hb
      replace HO620 := eA_ HO620 ho56 hb
      replace HO623 := eA_ HO623 ho56 hb
      replace HO626 := eA_ HO626 ho56 hb
      replace HO629 := eA_ HO629 ho56 hb
      replace BK603 := bK_ BK603 hb
      replace BK604 := bK_ BK604 hb
      replace HB := bS_ HB hb
      clear hb ho56
      refine hK.out _ _ (cz8 BK604.out) (fun hHeld => ?_)
      clear hK K
      refine norm_ (a' := ?_) ?_ ?_
      rotate_left
      ·
       show Act.put _ (some 51) _ = _
       exact ap_
      exact norm_ (by simp only [putAll, Act.put, List.setIfInBounds_toArray, List.set_cons_zero, List.set_cons_succ]) (hCont (.slice Ao53 t624.length co53, v628, v631) _ ⟨hHeld, (tR (Kd.R_mono HO611.out (fun _ hk => ⟨hk.1.1.1.1.1, ⟨hk.1.1.1.1.2, ⟨hk.1.1.1.2, ⟨hk.1.1.2, ⟨hk.1.2, hk.2⟩⟩⟩⟩⟩))), (tR (Kd.R_mono HO617.out (fun _ hk => ⟨hk.1.1.1.1.1, ⟨hk.1.1.1.1.2, ⟨hk.1.1.1.2, ⟨hk.1.1.2, ⟨hk.1.2, hk.2⟩⟩⟩⟩⟩))), (tR (Kd.R_mono HO620.out (fun _ hk => ⟨hk.1.1.1.1.1, ⟨hk.1.1.1.1.2, ⟨hk.1.1.1.2, ⟨hk.1.1.2, ⟨hk.1.2, hk.2⟩⟩⟩⟩⟩))), (tR (Kd.R_mono HO623.out (fun _ hk => ⟨hk.1.1.1.1.1.2, ⟨hk.1.1.1.1.2, ⟨hk.1.1.1.2, ⟨hk.1.1.2, ⟨hk.1.2, hk.2⟩⟩⟩⟩⟩))), (tR (Kd.R_mono HO626.out (fun _ hk => ⟨hk.1.1.1.1.1.2, ⟨hk.1.1.1.1.2, ⟨hk.1.1.1.2, ⟨hk.1.1.2, ⟨hk.1.2, hk.2⟩⟩⟩⟩⟩))), (tR (Kd.R_mono HO629.out (fun _ hk => ⟨hk.1.1.1.1.1.2, ⟨hk.1.1.1.1.2, ⟨hk.1.1.1.2, ⟨hk.1.1.2, ⟨hk.1.2, hk.2⟩⟩⟩⟩⟩))), (tR (Kd.R_mono HO632.out (fun _ hk => ⟨hk.1.1.1.1.1.2, ⟨hk.1.1.1.1.2, ⟨hk.1.1.1.2, ⟨hk.1.1.2, ⟨hk.1.2, hk.2⟩⟩⟩⟩⟩))), (qK BK603), (qK BK604), (qB HB)⟩)
     ·
      skip
      refine Kd.R_lit_step (Kd.int .u8) _ 5 ?hg (N := 51) ?hd (xs := ([(Int.tmod a0_5 256) % 256] : List Int)) (inner := [.int .u8 ((Int.tmod a0_5 256) % 256)]) (ok := fun _ => True) (okp := fun _ => True) ?hr ?hp (fun _ hk => hk) trivial (Below.refl _ _) (Nat.le_refl _) (by simp) ?_; (case hd => rfl); (case hg => rfl); (case hr => first | (go_simp; done) | (go_simp; rfl)); (case hp => exact (Reps.one (show Kd.M (Kd.int .u8) _ _ _ ((Int.tmod a0_5 256) % 256) [.int .u8 ((Int.tmod a0_5 256) % 256)] from rfl) (Reps.none _ _)))
      intro v631 w53 ho54 hb hg_ hnew_
      clear hg_ hnew_
      (first | rw [← Ny630.out] at ho54 | (simp only [Int.reduceToNat] at ho54; rw [← Ny630.out] at ho54))
      have HO632 := am_ (Kd.R_lower (Kd.R_new' (Kd.R_new' (Kd.R_new' (Kd.R_new' (Kd.R_new' ho54 (Kd.R_lt (qR HO611))) (Kd.R_lt (qR HO617))) (Kd.R_lt (qR HO620))) (Kd.R_lt (qR HO623))) (Kd.R_lt (qR HO626))) (below_size (qB HB)))
      replace HO611 := eA_ HO611 ho54 hb
      replace HO617 := eA_ HO617 ho54 hb
      replace HO620 := eA_ HO620 ho54 hb
      replace HO623 := eA_ HO623 ho54 hb
      replace HO626 := eA_ HO626 ho54 hb
      replace BK603 := bK_ BK603 hb
      replace BK604 := bK_ BK604 hb
      replace HB := bS_ HB hb
      clear hb ho54
      obtain ⟨Ao55, co55, eo55⟩ := Kd.R_slice HO626.out
      (first | subst eo55 | (injection eo55 with f1_ f2_ f3_; have f4_ := f1_.symm; have f5_ := f3_.symm; clear f1_ f2_ f3_; subst f4_; subst f5_))
      refine hK.out _ _ (cz8 BK604.out) (fun hHeld => ?_)
      clear hK K
      refine norm_ (a' := ?_) ?_ ?_
      rotate_left
      ·
       show Act.put _ (some 51) _ = _
       exact ap_
      refine one_ (i := 7) (N := some 46) (rl [13,2]) rfl rfl (one_of HT_.out (by kernel_rfl)) (by decide) (fun K hK => ?_)
      refine goes_ Try.func89 (by kernel_rfl) rfl #[.slice Ao55 t624.length co55, .int .i64 (wrap64 (Int.tdiv a0_5 256))] (by rfl) rfl rfl la_ ?_
      with_reducible refine (spec_PutWord.calls _ _ t624 (wrap64 (Int.tdiv a0_5 256)) t627 _ ?side1 ?side2 A33.out).mono ?_
      (case side1 => exact qC ((Kd.R_reads' HO626.out).2.2))
      (case side2 => exact (Kd.R_reads' HO626.out).2.1)
      rintro e w56 ⟨v628, rfl, ho0, hb⟩
      refine ⟨_, rfl, ?_⟩
      have HO629 := am_ (Kd.R_lower (Kd.R_new' (Kd.R_new' (Kd.R_new' (Kd.R_new' (Kd.R_new' (Kd.R_new' ho0 (Kd.R_lt (qR HO611))) (Kd.R_lt (qR HO617))) (Kd.R_lt (qR HO620))) (Kd.R_lt (qR HO623))) (Kd.R_lt (qR HO626))) (Kd.R_lt (qR HO632))) (below_size (qB HB)))
      replace HO611 := eA_ HO611 ho0 hb
      replace HO617 := eA_ HO617 ho0 hb
      replace HO620 := eA_ HO620 ho0 hb
      replace HO623 := eA_ HO623 ho0 hb
      replace HO626 := eA_ HO626 ho0 hb
      replace HO632 := eA_ HO632 ho0 hb
      replace BK603 := bK_ BK603 hb
      replace BK604 := bK_ BK604 hb
      replace HB := bS_ HB hb
      (try clear hb ho0)
      refine hK.out _ _ (cz8 BK604.out) (fun hHeld => ?_)
      clear hK K
      refine norm_ (a' := ?_) ?_ ?_
      rotate_left
      ·
       show Act.put _ (some 46) _ = _
       exact ap_
      exact norm_ (by simp only [putAll, Act.put, List.setIfInBounds_toArray, List.set_cons_zero, List.set_cons_succ]) (hCont (.slice Ao55 t624.length co55, v628, v631) _ ⟨hHeld, (tR (Kd.R_mono HO611.out (fun _ hk => ⟨hk.1.1.1.1.1, ⟨hk.1.1.1.1.2, ⟨hk.1.1.1.2, ⟨hk.1.1.2, ⟨hk.2, hk.1.2⟩⟩⟩⟩⟩))), (tR (Kd.R_mono HO617.out (fun _ hk => ⟨hk.1.1.1.1.1, ⟨hk.1.1.1.1.2, ⟨hk.1.1.1.2, ⟨hk.1.1.2, ⟨hk.2, hk.1.2⟩⟩⟩⟩⟩))), (tR (Kd.R_mono HO620.out (fun _ hk => ⟨hk.1.1.1.1.1, ⟨hk.1.1.1.1.2, ⟨hk.1.1.1.2, ⟨hk.1.1.2, ⟨hk.2, hk.1.2⟩⟩⟩⟩⟩))), (tR (Kd.R_mono HO623.out (fun _ hk => ⟨hk.1.1.1.1.1.2, ⟨hk.1.1.1.1.2, ⟨hk.1.1.1.2, ⟨hk.1.1.2, ⟨hk.2, hk.1.2⟩⟩⟩⟩⟩))), (tR (Kd.R_mono HO626.out (fun _ hk => ⟨hk.1.1.1.1.1.2, ⟨hk.1.1.1.1.2, ⟨hk.1.1.1.2, ⟨hk.1.1.2, ⟨hk.2, hk.1.2⟩⟩⟩⟩⟩))), (tR (Kd.R_mono HO629.out (fun _ hk => ⟨hk.1.1.1.1.1.2, ⟨hk.1.1.1.1.2, ⟨hk.1.1.1.2, ⟨hk.1.1.2, ⟨hk.1.2, hk.2⟩⟩⟩⟩⟩))), (tR (Kd.R_mono HO632.out (fun _ hk => ⟨hk.1.1.1.1.1.2, ⟨hk.1.1.1.1.2, ⟨hk.1.1.1.2, ⟨hk.1.1.2, ⟨hk.1.2, hk.2⟩⟩⟩⟩⟩))), (qK BK603), (qK BK604), (qB HB)⟩)
    ·
     skip
     refine Kd.R_lit_step (Kd.int .u8) _ 5 ?hg (N := 51) ?hd (xs := ([(Int.tmod a0_5 256) % 256] : List Int)) (inner := [.int .u8 ((Int.tmod a0_5 256) % 256)]) (ok := fun _ => True) (okp := fun _ => True) ?hr ?hp (fun _ hk => hk) trivial (Below.refl _ _) (Nat.le_refl _) (by simp) ?_; (case hd => rfl); (case hg => rfl); (case hr => first | (go_simp; done) | (go_simp; rfl)); (case hp => exact (Reps.one (show Kd.M (Kd.int .u8) _ _ _ ((Int.tmod a0_5 256) % 256) [.int .u8 ((Int.tmod a0_5 256) % 256)] from rfl) (Reps.none _ _)))
     intro v631 w52 ho53 hb hg_ hnew_
     clear hg_ hnew_
     (first | rw [← Ny630.out] at ho53 | (simp only [Int.reduceToNat] at ho53; rw [← Ny630.out] at ho53))
     have HO632 := am_ (Kd.R_lower (Kd.R_new' (Kd.R_new' (Kd.R_new' (Kd.R_new' ho53 (Kd.R_lt (qR HO611))) (Kd.R_lt (qR HO617))) (Kd.R_lt (qR HO620))) (Kd.R_lt (qR HO623))) (below_size (qB HB)))
     replace HO611 := eA_ HO611 ho53 hb
     replace HO617 := eA_ HO617 ho53 hb
     replace HO620 := eA_ HO620 ho53 hb
     replace HO623 := eA_ HO623 ho53 hb
     replace BK603 := bK_ BK603 hb
     replace BK604 := bK_ BK604 hb
     replace HB := bS_ HB hb
     clear hb ho53
     refine hK.out _ _ (cz8 BK604.out) (fun hHeld => ?_)
     clear hK K
     refine norm_ (a' := ?_) ?_ ?_
     rotate_left
     ·
      show Act.put _ (some 51) _ = _
      exact ap_
     refine one_ (i := 3) (N := some 42) (rl [7,1,5,2]) rfl rfl (one_of HT_.out (by kernel_rfl)) (by decide) (fun K hK => ?_)
     refine goes_ Try.func89 (by kernel_rfl) rfl #[.slice Ao50 t621.length co50, .int .i64 a0_4] (by rfl) rfl rfl la_ ?_
     with_reducible refine (spec_PutWord.calls _ _ t621 a0_4 t624 _ ?side1 ?side2 A32.out).mono ?_
     (case side1 => exact qC ((Kd.R_reads' HO623.out).2.2))
     (case side2 => exact (Kd.R_reads' HO623.out).2.1)
     rintro e w54 ⟨v625, rfl, ho0, hb⟩
     refine ⟨_, rfl, ?_⟩
     have HO626 := am_ (Kd.R_lower (Kd.R_new' (Kd.R_new' (Kd.R_new' (Kd.R_new' (Kd.R_new' ho0 (Kd.R_lt (qR HO611))) (Kd.R_lt (qR HO617))) (Kd.R_lt (qR HO620))) (Kd.R_lt (qR HO623))) (Kd.R_lt (qR HO632))) (below_size (qB HB)))
     replace HO611 := eA_ HO611 ho0 hb
     replace HO617 := eA_ HO617 ho0 hb
     replace HO620 := eA_ HO620 ho0 hb
     replace HO623 := eA_ HO623 ho0 hb
     replace HO632 := eA_ HO632 ho0 hb
     replace BK603 := bK_ BK603 hb
     replace BK604 := bK_ BK604 hb
     replace HB := bS_ HB hb
     (try clear hb ho0)
     obtain ⟨Ao55, co55, eo55⟩ := Kd.R_slice HO626.out
     (first | subst eo55 | (injection eo55 with f1_ f2_ f3_; have f4_ := f1_.symm; have f5_ := f3_.symm; clear f1_ f2_ f3_; subst f4_; subst f5_))
     refine hK.out _ _ (cz8 BK604.out) (fun hHeld => ?_)
     clear hK K
     refine norm_ (a' := ?_) ?_ ?_
     rotate_left
     ·
      show Act.put _ (some 42) _ = _
      exact ap_
     refine one_ (i := 7) (N := some 46) (rl [13,2]) rfl rfl (one_of HT_.out (by kernel_rfl)) (by decide) (fun K hK => ?_)
     refine goes_ Try.func89 (by kernel_rfl) rfl #[.slice Ao55 t624.length co55, .int .i64 (wrap64 (Int.tdiv a0_5 256))] (by rfl) rfl rfl la_ ?_
     with_reducible refine (spec_PutWord.calls _ _ t624 (wrap64 (Int.tdiv a0_5 256)) t627 _ ?side1 ?side2 A33.out).mono ?_
     (case side1 => exact qC ((Kd.R_reads' HO626.out).2.2))
     (case side2 => exact (Kd.R_reads' HO626.out).2.1)
     rintro e w56 ⟨v628, rfl, ho0, hb⟩
     refine ⟨_, rfl, ?_⟩
     have HO629 := am_ (Kd.R_lower (Kd.R_new' (Kd.R_new' (Kd.R_new' (Kd.R_new' (Kd.R_new' (Kd.R_new' ho0 (Kd.R_lt (qR HO611))) (Kd.R_lt (qR HO617))) (Kd.R_lt (qR HO620))) (Kd.R_lt (qR HO623))) (Kd.R_lt (qR HO632))) (Kd.R_lt (qR HO626))) (below_size (qB HB)))
     replace HO611 := eA_ HO611 ho0 hb
     replace HO617 := eA_ HO617 ho0 hb
     replace HO620 := eA_ HO620 ho0 hb
     replace HO623 := eA_ HO623 ho0 hb
     replace HO632 := eA_ HO632 ho0 hb
     replace HO626 := eA_ HO626 ho0 hb
     replace BK603 := bK_ BK603 hb
     replace BK604 := bK_ BK604 hb
     replace HB := bS_ HB hb
     (try clear hb ho0)
     refine hK.out _ _ (cz8 BK604.out) (fun hHeld => ?_)
     clear hK K
     refine norm_ (a' := ?_) ?_ ?_
     rotate_left
     ·
      show Act.put _ (some 46) _ = _
      exact ap_
     exact norm_ (by simp only [putAll, Act.put, List.setIfInBounds_toArray, List.set_cons_zero, List.set_cons_succ]) (hCont (.slice Ao55 t624.length co55, v628, v631) _ ⟨hHeld, (tR (Kd.R_mono HO611.out (fun _ hk => ⟨hk.1.1.1.1.1, ⟨hk.1.1.1.1.2, ⟨hk.1.1.1.2, ⟨hk.1.2, ⟨hk.2, hk.1.1.2⟩⟩⟩⟩⟩))), (tR (Kd.R_mono HO617.out (fun _ hk => ⟨hk.1.1.1.1.1, ⟨hk.1.1.1.1.2, ⟨hk.1.1.1.2, ⟨hk.1.2, ⟨hk.2, hk.1.1.2⟩⟩⟩⟩⟩))), (tR (Kd.R_mono HO620.out (fun _ hk => ⟨hk.1.1.1.1.1, ⟨hk.1.1.1.1.2, ⟨hk.1.1.1.2, ⟨hk.1.2, ⟨hk.2, hk.1.1.2⟩⟩⟩⟩⟩))), (tR (Kd.R_mono HO623.out (fun _ hk => ⟨hk.1.1.1.1.1.2, ⟨hk.1.1.1.1.2, ⟨hk.1.1.1.2, ⟨hk.1.2, ⟨hk.2, hk.1.1.2⟩⟩⟩⟩⟩))), (tR (Kd.R_mono HO626.out (fun _ hk => ⟨hk.1.1.1.1.1.2, ⟨hk.1.1.1.1.2, ⟨hk.1.1.1.2, ⟨hk.1.1.2, ⟨hk.2, hk.1.2⟩⟩⟩⟩⟩))), (tR (Kd.R_mono HO629.out (fun _ hk => ⟨hk.1.1.1.1.1.2, ⟨hk.1.1.1.1.2, ⟨hk.1.1.1.2, ⟨hk.1.1.2, ⟨hk.2, hk.1.2⟩⟩⟩⟩⟩))), (tR (Kd.R_mono HO632.out (fun _ hk => ⟨hk.1.1.1.1.1.2, ⟨hk.1.1.1.1.2, ⟨hk.1.1.1.2, ⟨hk.1.1.2, ⟨hk.1.2, hk.2⟩⟩⟩⟩⟩))), (qK BK603), (qK BK604), (qB HB)⟩)
   rintro ⟨v625, v628, v631⟩ w57 ⟨hS_, h0_, h1_, h2_, h3_, h4_, h5_, h6_, h7_, h8_, h9_⟩
   have n0_ : Aside0 (Kd.R (Kd.int .u8) 5 w57 w.heap.size (fun k_ => some k_ ≠ (.slice Ao47 y615.length co47 : Value).ownBlock ∧ some k_ ≠ (.slice Ao48 y618.length co48 : Value).ownBlock ∧ some k_ ≠ (.slice Ao50 t621.length co50 : Value).ownBlock ∧ some k_ ≠ (v625 : Value).ownBlock ∧ some k_ ≠ (v628 : Value).ownBlock ∧ some k_ ≠ (v631 : Value).ownBlock) v610 y609) := ⟨h0_⟩
   have n1_ : Aside0 (Kd.R (Kd.int .u8) 5 w57 w.heap.size (fun k_ => some k_ ≠ (v610 : Value).ownBlock ∧ some k_ ≠ (.slice Ao48 y618.length co48 : Value).ownBlock ∧ some k_ ≠ (.slice Ao50 t621.length co50 : Value).ownBlock ∧ some k_ ≠ (v625 : Value).ownBlock ∧ some k_ ≠ (v628 : Value).ownBlock ∧ some k_ ≠ (v631 : Value).ownBlock) (.slice Ao47 y615.length co47) y615) := ⟨h1_⟩
   have n2_ : Aside0 (Kd.R (Kd.int .u8) 5 w57 w.heap.size (fun k_ => some k_ ≠ (v610 : Value).ownBlock ∧ some k_ ≠ (.slice Ao47 y615.length co47 : Value).ownBlock ∧ some k_ ≠ (.slice Ao50 t621.length co50 : Value).ownBlock ∧ some k_ ≠ (v625 : Value).ownBlock ∧ some k_ ≠ (v628 : Value).ownBlock ∧ some k_ ≠ (v631 : Value).ownBlock) (.slice Ao48 y618.length co48) y618) := ⟨h2_⟩
   have n3_ : Aside0 (Kd.R (Kd.int .u8) 5 w57 w.heap.size (fun k_ => some k_ ≠ (v610 : Value).ownBlock ∧ some k_ ≠ (.slice Ao47 y615.length co47 : Value).ownBlock ∧ some k_ ≠ (.slice Ao48 y618.length co48 : Value).ownBlock ∧ some k_ ≠ (v625 : Value).ownBlock ∧ some k_ ≠ (v628 : Value).ownBlock ∧ some k_ ≠ (v631 : Value).ownBlock) (.slice Ao50 t621.length co50) t621) := ⟨h3_⟩
   have n4_ : Aside0 (Kd.R (Kd.int .u8) 5 w57 w.heap.size (fun k_ => some k_ ≠ (v610 : Value).ownBlock ∧ some k_ ≠ (.slice Ao47 y615.length co47 : Value).ownBlock ∧ some k_ ≠ (.slice Ao48 y618.length co48 : Value).ownBlock ∧ some k_ ≠ (.slice Ao50 t621.length co50 : Value).ownBlock ∧ some k_ ≠ (v628 : Value).ownBlock ∧ some k_ ≠ (v631 : Value).ownBlock) v625 t624) := ⟨h4_⟩
   have n5_ : Aside0 (Kd.R (Kd.int .u8) 5 w57 w.heap.size (fun k_ => some k_ ≠ (v610 : Value).ownBlock ∧ some k_ ≠ (.slice Ao47 y615.length co47 : Value).ownBlock ∧ some k_ ≠ (.slice Ao48 y618.length co48 : Value).ownBlock ∧ some k_ ≠ (.slice Ao50 t621.length co50 : Value).ownBlock ∧ some k_ ≠ (v625 : Value).ownBlock ∧ some k_ ≠ (v631 : Value).ownBlock) v628 t627) := ⟨h5_⟩
   have n6_ : Aside0 (Kd.R (Kd.int .u8) 5 w57 w.heap.size (fun k_ => some k_ ≠ (v610 : Value).ownBlock ∧ some k_ ≠ (.slice Ao47 y615.length co47 : Value).ownBlock ∧ some k_ ≠ (.slice Ao48 y618.length co48 : Value).ownBlock ∧ some k_ ≠ (.slice Ao50 t621.length co50 : Value).ownBlock ∧ some k_ ≠ (v625 : Value).ownBlock ∧ some k_ ≠ (v628 : Value).ownBlock) v631 y630) := ⟨h6_⟩
   have n7_ : Aside0 (w57.heap[gb603]? = some (.cells #[.int .i64 a0_0, .int .i64 a0_1, .string a0_2, .int .i64 a0_3, .int .i64 a0_4, .int .i64 a0_5, .string a0_6, .int .i64 a0_7, .int .i64 a0_8, .int .i64 a0_9, .string a0_10, .int .i64 a0_11, .int .i64 a0_12, .int .i64 a0_13, .int .i64 a0_14, .int .i64 a0_15] 29 (0, 0))) := ⟨h7_⟩
   have n8_ : Aside0 (w57.heap[gb604]? = some (.cells #[.int .i64 a0_1, .string a0_2, .int .i64 a0_3, .int .i64 a0_4, .int .i64 a0_5, .string a0_6, .int .i64 a0_7, .int .i64 a0_8] 25 (0, 0))) := ⟨h8_⟩
   have n9_ : Aside0 (Below w.heap.size w w57) := ⟨h9_⟩
   clear HO611
   clear HO617
   clear HO620
   clear HO623
   clear BK603
   clear BK604
   clear HB
   clear h0_ h1_ h2_ h3_ h4_ h5_ h6_ h7_ h8_ h9_
   have HO611 := n0_
   have HO617 := n1_
   have HO620 := n2_
   have HO623 := n3_
   have HO626 := n4_
   have HO629 := n5_
   have HO632 := n6_
   have BK603 := n7_
   have BK604 := n8_
   have HB := n9_
   clear n0_ n1_ n2_ n3_ n4_ n5_ n6_ n7_ n8_ n9_
   have hHeld : w57.cell? ⟨gb604, 0, none⟩ = some (.int .i64 a0_1) ∧ w57.cell? ⟨gb604, 1, none⟩ = some (.string a0_2) ∧ w57.cell? ⟨gb604, 2, none⟩ = some (.int .i64 a0_3) ∧ w57.cell? ⟨gb604, 3, none⟩ = some (.int .i64 a0_4) ∧ w57.cell? ⟨gb604, 4, none⟩ = some (.int .i64 a0_5) ∧ w57.cell? ⟨gb604, 5, none⟩ = some (.string a0_6) ∧ w57.cell? ⟨gb604, 6, none⟩ = some (.int .i64 a0_7) ∧ w57.cell? ⟨gb604, 7, none⟩ = some (.int .i64 a0_8) := hS_
   obtain ⟨Ao59, co59, eo59⟩ := Kd.R_slice HO632.out
   (first | subst eo59 | (injection eo59 with f1_ f2_ f3_; have f4_ := f1_.symm; have f5_ := f3_.symm; clear f1_ f2_ f3_; subst f4_; subst f5_))
   refine norm_ (a' := ?_) ?_ ?_
   rotate_left
   ·
    simp only [putAll, Act.put, List.setIfInBounds_toArray, List.set_cons_zero, List.set_cons_succ]
    rfl
   refine one_ (i := 13) (N := some 52) (rl [14,1]) rfl rfl (one_of HT_.out (by kernel_rfl)) (by decide) (fun K hK => ?_)
   refine Kd.R_append_rows_step (Kd.int .u8) (w0 := w) w.heap.size (by rfl) (.tmp 46) (.tmp 51) 22 5 (.int .u8 0) 1 rfl Try.underlying22 info5 rfl (by decide) (by omega) v628 t627 y630 _ _ _ (fun k_ => some k_ ≠ (v610 : Value).ownBlock ∧ some k_ ≠ (.slice Ao47 y615.length co47 : Value).ownBlock ∧ some k_ ≠ (.slice Ao48 y618.length co48 : Value).ownBlock ∧ some k_ ≠ (.slice Ao50 t621.length co50 : Value).ownBlock ∧ some k_ ≠ (v625 : Value).ownBlock ∧ some k_ ≠ (.slice Ao59 y630.length co59 : Value).ownBlock) (fun _ => False) rfl rfl ?aO ?aR (fun _ _ h => h) (fun _ h => h.elim) ?aF ?aB ?aS ?aL ?_
   (case aR => exact qC ((Kd.R_reads' HO632.out).2.2))
   (case aB => exact (qB HB))
   (case aF => exact (fun k_ hk => ⟨Kd.fresh' (Kd.R_lt (qR HO611)) k_ hk, Kd.fresh' (Kd.R_lt (qR HO617)) k_ hk, Kd.fresh' (Kd.R_lt (qR HO620)) k_ hk, Kd.fresh' (Kd.R_lt (qR HO623)) k_ hk, Kd.fresh' (Kd.R_lt (qR HO626)) k_ hk, Kd.fresh' (Kd.R_lt (qR HO632)) k_ hk⟩))
   (case aO => exact (qR HO629))
   (case aS => exact (below_size (qB HB)))
   (case aL => have := LMc34.out; omega)
   intro v634 w58 ho hb hg hat
   rw [← Ny633.out] at ho
   replace BK603 := am_ (blk_grown (qK BK603) hg (Kd.R_ne HO629.out BK603.out (by decide)))
   replace BK604 := am_ (blk_grown (qK BK604) hg (Kd.R_ne HO629.out BK604.out (by decide)))
   replace HO611 := am_ (Kd.R_after (ok := (fun k_ => some k_ ≠ (.slice Ao47 y615.length co47 : Value).ownBlock ∧ some k_ ≠ (.slice Ao48 y618.length co48 : Value).ownBlock ∧ some k_ ≠ (.slice Ao50 t621.length co50 : Value).ownBlock ∧ some k_ ≠ (v625 : Value).ownBlock ∧ some k_ ≠ (.slice Ao59 y630.length co59 : Value).ownBlock)) (tR (Kd.R_mono HO611.out (fun _ hk => ⟨⟨hk.1, ⟨hk.2.1, ⟨hk.2.2.1, ⟨hk.2.2.2.1, hk.2.2.2.2.2⟩⟩⟩⟩, hk.2.2.2.2.1⟩))) hg hat)
   replace HO617 := am_ (Kd.R_after (ok := (fun k_ => some k_ ≠ (v610 : Value).ownBlock ∧ some k_ ≠ (.slice Ao48 y618.length co48 : Value).ownBlock ∧ some k_ ≠ (.slice Ao50 t621.length co50 : Value).ownBlock ∧ some k_ ≠ (v625 : Value).ownBlock ∧ some k_ ≠ (.slice Ao59 y630.length co59 : Value).ownBlock)) (tR (Kd.R_mono HO617.out (fun _ hk => ⟨⟨hk.1, ⟨hk.2.1, ⟨hk.2.2.1, ⟨hk.2.2.2.1, hk.2.2.2.2.2⟩⟩⟩⟩, hk.2.2.2.2.1⟩))) hg hat)
   replace HO620 := am_ (Kd.R_after (ok := (fun k_ => some k_ ≠ (v610 : Value).ownBlock ∧ some k_ ≠ (.slice Ao47 y615.length co47 : Value).ownBlock ∧ some k_ ≠ (.slice Ao50 t621.length co50 : Value).ownBlock ∧ some k_ ≠ (v625 : Value).ownBlock ∧ some k_ ≠ (.slice Ao59 y630.length co59 : Value).ownBlock)) (tR (Kd.R_mono HO620.out (fun _ hk => ⟨⟨hk.1, ⟨hk.2.1, ⟨hk.2.2.1, ⟨hk.2.2.2.1, hk.2.2.2.2.2⟩⟩⟩⟩, hk.2.2.2.2.1⟩))) hg hat)
   replace HO623 := am_ (Kd.R_after (ok := (fun k_ => some k_ ≠ (v610 : Value).ownBlock ∧ some k_ ≠ (.slice Ao47 y615.length co47 : Value).ownBlock ∧ some k_ ≠ (.slice Ao48 y618.length co48 : Value).ownBlock ∧ some k_ ≠ (v625 : Value).ownBlock ∧ some k_ ≠ (.slice Ao59 y630.length co59 : Value).ownBlock)) (tR (Kd.R_mono HO623.out (fun _ hk => ⟨⟨hk.1, ⟨hk.2.1, ⟨hk.2.2.1, ⟨hk.2.2.2.1, hk.2.2.2.2.2⟩⟩⟩⟩, hk.2.2.2.2.1⟩))) hg hat)
   replace HO626 := am_ (Kd.R_after (ok := (fun k_ => some k_ ≠ (v610 : Value).ownBlock ∧ some k_ ≠ (.slice Ao47 y615.length co47 : Value).ownBlock ∧ some k_ ≠ (.slice Ao48 y618.length co48 : Value).ownBlock ∧ some k_ ≠ (.slice Ao50 t621.length co50 : Value).ownBlock ∧ some k_ ≠ (.slice Ao59 y630.length co59 : Value).ownBlock)) (tR (Kd.R_mono HO626.out (fun _ hk => ⟨⟨hk.1, ⟨hk.2.1, ⟨hk.2.2.1, ⟨hk.2.2.2.1, hk.2.2.2.2.2⟩⟩⟩⟩, hk.2.2.2.2.1⟩))) hg hat)
   replace HO632 := am_ (Kd.R_after (ok := (fun k_ => some k_ ≠ (v610 : Value).ownBlock ∧ some k_ ≠ (.slice Ao47 y615.length co47 : Value).ownBlock ∧ some k_ ≠ (.slice Ao48 y618.length co48 : Value).ownBlock ∧ some k_ ≠ (.slice Ao50 t621.length co50 : Value).ownBlock ∧ some k_ ≠ (v625 : Value).ownBlock)) (tR (Kd.R_mono HO632.out (fun _ hk => ⟨⟨hk.1, ⟨hk.2.1, ⟨hk.2.2.1, ⟨hk.2.2.2.1, hk.2.2.2.2.1⟩⟩⟩⟩, hk.2.2.2.2.2⟩))) hg hat)
   replace HB := am_ (hb)
   have HO635 := am_ (ho)
   clear HO629
   clear ho hb hg hat
   refine hK.out _ _ (cz8 BK604.out) (fun hHeld => ?_)
   clear hK K
   refine norm_ (a' := ?_) ?_ ?_
   rotate_left
   ·
    show Act.put _ (some 52) _ = _
    exact ap_
   refine pz_ (i := 14) (N := some 4) HT_ (rl [15]) rfl rfl ?_
   refine done_ (done_of HT_.out (by kernel_rfl)) ?_
   try go_wp2
   replace HO611 := am_ (Kd.R_drew HO611.out)
   replace HO617 := am_ (Kd.R_drew HO617.out)
   replace HO620 := am_ (Kd.R_drew HO620.out)
   replace HO623 := am_ (Kd.R_drew HO623.out)
   replace HO626 := am_ (Kd.R_drew HO626.out)
   replace HO632 := am_ (Kd.R_drew HO632.out)
   replace HO635 := am_ (Kd.R_drew HO635.out)
   replace BK603 := am_ (blk_drew BK603.out)
   replace BK604 := am_ (blk_drew BK604.out)
   replace HB := am_ (below_drew1 HB.out)
   obtain ⟨Ao61, co61, eo61⟩ := Kd.R_slice HO635.out
   (first | subst eo61 | (injection eo61 with f1_ f2_ f3_; have f4_ := f1_.symm; have f5_ := f3_.symm; clear f1_ f2_ f3_; subst f4_; subst f5_))
   refine start_ (n := 11) (S := fun w' => w'.cell? ⟨gb604, 0, none⟩ = some (.int .i64 a0_1) ∧ w'.cell? ⟨gb604, 1, none⟩ = some (.string a0_2) ∧ w'.cell? ⟨gb604, 2, none⟩ = some (.int .i64 a0_3) ∧ w'.cell? ⟨gb604, 3, none⟩ = some (.int .i64 a0_4) ∧ w'.cell? ⟨gb604, 4, none⟩ = some (.int .i64 a0_5) ∧ w'.cell? ⟨gb604, 5, none⟩ = some (.string a0_6) ∧ w'.cell? ⟨gb604, 6, none⟩ = some (.int .i64 a0_7) ∧ w'.cell? ⟨gb604, 7, none⟩ = some (.int .i64 a0_8)) (ds := []) #[oo,oo,oo,oo,oo,oo,oo,oo,oo,oo,oo] (by kernel_rfl) rfl rfl (cz8 BK604.out) (fun hHeld => ?_); refine with_tabW spec_PutItem.tab7 spec_PutItem.bits7 (fun HT_ HW_ => ?_)
   generalize w58.drew = w60 at HO611 HO617 HO620 HO623 HO626 HO632 HO635 BK603 BK604 HB hHeld ⊢
   refine pz_ (i := 0) (N := some 53) HT_ #[ii,oo,oo,oo,oo,oo,oo,oo,oo,oo,oo] rfl rfl ?_
   refine pz_ (i := 1) (N := some 54) HT_ #[ii,ii,oo,oo,oo,oo,oo,oo,oo,oo,oo] rfl rfl ?_
   refine pz_ (i := 4) (N := some 57) HT_ #[ii,ii,oo,oo,ii,oo,oo,oo,oo,oo,oo] rfl rfl ?_
   refine pz_ (i := 7) (N := some 60) HT_ #[ii,ii,oo,oo,ii,oo,oo,ii,oo,oo,oo] rfl rfl ?_
   refine tz_ (i := 2) (N := some 55) HT_ HW_ #[ii,ii,ii,oo,ii,oo,oo,ii,oo,oo,oo] rfl rfl hHeld ?_
   refine tz_ (i := 5) (N := some 58) HT_ HW_ #[ii,ii,ii,oo,ii,ii,oo,ii,oo,oo,oo] rfl rfl hHeld ?_
   refine tz_ (i := 8) (N := some 61) HT_ HW_ #[ii,ii,ii,oo,ii,ii,oo,ii,ii,oo,oo] rfl rfl hHeld ?_
   refine one_ (i := 3) (N := some 56) #[ii,ii,ii,ii,ii,ii,oo,ii,ii,oo,oo] rfl rfl (one_of HT_.out (by kernel_rfl)) (by decide) (fun K hK => ?_)
   refine goes_ Try.func88 (by kernel_rfl) rfl #[.slice Ao61 y633.length co61, .string a0_6] (by rfl) rfl rfl la_ ?_
   with_reducible refine (spec_PutText.calls kj5 _ _ y633 a0_6 t636 _ ?side1 ?side2 A35.out).mono ?_
   (case side1 => exact qC ((Kd.R_reads' HO635.out).2.2))
   (case side2 => exact (Kd.R_reads' HO635.out).2.1)
   rintro e w62 ⟨v637, rfl, ho0, hb⟩
   refine ⟨_, rfl, ?_⟩
   have HO638 := am_ (Kd.R_lower (Kd.R_new' (Kd.R_new' (Kd.R_new' (Kd.R_new' (Kd.R_new' (Kd.R_new' (Kd.R_new' ho0 (Kd.R_lt (qR HO611))) (Kd.R_lt (qR HO617))) (Kd.R_lt (qR HO620))) (Kd.R_lt (qR HO623))) (Kd.R_lt (qR HO626))) (Kd.R_lt (qR HO632))) (Kd.R_lt (qR HO635))) (below_size (qB HB)))
   replace HO611 := eA_ HO611 ho0 hb
   replace HO617 := eA_ HO617 ho0 hb
   replace HO620 := eA_ HO620 ho0 hb
   replace HO623 := eA_ HO623 ho0 hb
   replace HO626 := eA_ HO626 ho0 hb
   replace HO632 := eA_ HO632 ho0 hb
   replace HO635 := eA_ HO635 ho0 hb
   replace BK603 := bK_ BK603 hb
   replace BK604 := bK_ BK604 hb
   replace HB := bS_ HB hb
   (try clear hb ho0)
   obtain ⟨Ao63, co63, eo63⟩ := Kd.R_slice HO638.out
   (first | subst eo63 | (injection eo63 with f1_ f2_ f3_; have f4_ := f1_.symm; have f5_ := f3_.symm; clear f1_ f2_ f3_; subst f4_; subst f5_))
   refine hK.out _ _ (cz8 BK604.out) (fun hHeld => ?_)
   clear hK K
   refine norm_ (a' := ?_) ?_ ?_
   rotate_left
   ·
    show Act.put _ (some 56) _ = _
    exact ap_
   refine one_ (i := 6) (N := some 59) #[ii,ii,ii,ii,ii,ii,ii,ii,ii,oo,oo] rfl rfl (one_of HT_.out (by kernel_rfl)) (by decide) (fun K hK => ?_)
   refine goes_ Try.func89 (by kernel_rfl) rfl #[.slice Ao63 t636.length co63, .int .i64 a0_7] (by rfl) rfl rfl la_ ?_
   with_reducible refine (spec_PutWord.calls _ _ t636 a0_7 t639 _ ?side1 ?side2 A36.out).mono ?_
   (case side1 => exact qC ((Kd.R_reads' HO638.out).2.2))
   (case side2 => exact (Kd.R_reads' HO638.out).2.1)
   rintro e w64 ⟨v640, rfl, ho0, hb⟩
   refine ⟨_, rfl, ?_⟩
   have HO641 := am_ (Kd.R_lower (Kd.R_new' (Kd.R_new' (Kd.R_new' (Kd.R_new' (Kd.R_new' (Kd.R_new' (Kd.R_new' (Kd.R_new' ho0 (Kd.R_lt (qR HO611))) (Kd.R_lt (qR HO617))) (Kd.R_lt (qR HO620))) (Kd.R_lt (qR HO623))) (Kd.R_lt (qR HO626))) (Kd.R_lt (qR HO632))) (Kd.R_lt (qR HO635))) (Kd.R_lt (qR HO638))) (below_size (qB HB)))
   replace HO611 := eA_ HO611 ho0 hb
   replace HO617 := eA_ HO617 ho0 hb
   replace HO620 := eA_ HO620 ho0 hb
   replace HO623 := eA_ HO623 ho0 hb
   replace HO626 := eA_ HO626 ho0 hb
   replace HO632 := eA_ HO632 ho0 hb
   replace HO635 := eA_ HO635 ho0 hb
   replace HO638 := eA_ HO638 ho0 hb
   replace BK603 := bK_ BK603 hb
   replace BK604 := bK_ BK604 hb
   replace HB := bS_ HB hb
   (try clear hb ho0)
   obtain ⟨Ao65, co65, eo65⟩ := Kd.R_slice HO641.out
   (first | subst eo65 | (injection eo65 with f1_ f2_ f3_; have f4_ := f1_.symm; have f5_ := f3_.symm; clear f1_ f2_ f3_; subst f4_; subst f5_))
   refine hK.out _ _ (cz8 BK604.out) (fun hHeld => ?_)
   clear hK K
   refine norm_ (a' := ?_) ?_ ?_
   rotate_left
   ·
    show Act.put _ (some 59) _ = _
    exact ap_
   refine one_ (i := 9) (N := some 62) #[ii,ii,ii,ii,ii,ii,ii,ii,ii,ii,oo] rfl rfl (one_of HT_.out (by kernel_rfl)) (by decide) (fun K hK => ?_)
   refine goes_ Try.func89 (by kernel_rfl) rfl #[.slice Ao65 t639.length co65, .int .i64 a0_8] (by rfl) rfl rfl la_ ?_
   with_reducible refine (spec_PutWord.calls _ _ t639 a0_8 t642 _ ?side1 ?side2 A37.out).mono ?_
   (case side1 => exact qC ((Kd.R_reads' HO641.out).2.2))
   (case side2 => exact (Kd.R_reads' HO641.out).2.1)
   rintro e w66 ⟨v643, rfl, ho0, hb⟩
   refine ⟨_, rfl, ?_⟩
   have HO644 := am_ (Kd.R_lower (Kd.R_new' (Kd.R_new' (Kd.R_new' (Kd.R_new' (Kd.R_new' (Kd.R_new' (Kd.R_new' (Kd.R_new' (Kd.R_new' ho0 (Kd.R_lt (qR HO611))) (Kd.R_lt (qR HO617))) (Kd.R_lt (qR HO620))) (Kd.R_lt (qR HO623))) (Kd.R_lt (qR HO626))) (Kd.R_lt (qR HO632))) (Kd.R_lt (qR HO635))) (Kd.R_lt (qR HO638))) (Kd.R_lt (qR HO641))) (below_size (qB HB)))
   replace HO611 := eA_ HO611 ho0 hb
   replace HO617 := eA_ HO617 ho0 hb
   replace HO620 := eA_ HO620 ho0 hb
   replace HO623 := eA_ HO623 ho0 hb
   replace HO626 := eA_ HO626 ho0 hb
   replace HO632 := eA_ HO632 ho0 hb
   replace HO635 := eA_ HO635 ho0 hb
   replace HO638 := eA_ HO638 ho0 hb
   replace HO641 := eA_ HO641 ho0 hb
   replace BK603 := bK_ BK603 hb
   replace BK604 := bK_ BK604 hb
   replace HB := bS_ HB hb
   (try clear hb ho0)
   refine hK.out _ _ (cz8 BK604.out) (fun hHeld => ?_)
   clear hK K
   refine norm_ (a' := ?_) ?_ ?_
   rotate_left
   ·
    show Act.put _ (some 62) _ = _
    exact ap_
   refine pz_ (i := 10) (N := some 2) HT_ #[ii,ii,ii,ii,ii,ii,ii,ii,ii,ii,ii] rfl rfl ?_
   refine done_ (done_of HT_.out (by kernel_rfl)) ?_
   try go_wp2
   go_ret
   exact ⟨_, er_, by (with_reducible repeat (first | apply Kd.R_alloc | apply Kd.R_drewN | apply Kd.R_drew)); exact Kd.R_mono HO644.out (fun _ hk => trivial), qB HB⟩

end Go.Proofs.Ytiffahfpfgnjnaa.PFnItems
