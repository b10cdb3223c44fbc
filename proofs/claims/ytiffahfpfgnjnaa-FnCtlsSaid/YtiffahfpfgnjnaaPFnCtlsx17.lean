-- Written by a program of this session (myprint.py, over the kit's print): contracts of FnCtls
import Derived.Test.YtiffahfpfgnjnaaPFnCtlsx3
import Derived.Test.YtiffahfpfgnjnaaPFnCtlsx16
namespace Go.Proofs.Ytiffahfpfgnjnaa.PFnCtls
open Go.RowKit Go.Proofs.YtiffahfpfgnjnaaW.PrintWords Go.Proofs.YtiffahfpfgnjnaaW.PrintLast Go.Proofs.YtiffahfpfgnjnaaW.PrintMore Go.Proofs.YtiffahfpfgnjnaaV
attribute [local go_sem] max2_int min2_int max_two min_two max_three min_three max_four min_four
set_option linter.unusedVariables false
set_option linter.unusedSimpArgs false

attribute [local go_sem high] eqA25 eqA27
/-! ### spec_PutItem: function 20 -/
mutual
def spec_PutItem.j0 : Nat → Bool → Int → ByteArray → Int → Int → Int → ByteArray → Int → Int → Option (List Int)
 | 0, _, _, _, _, _, _, _, _, _ => none
 | k + 1, x25, x667000, x667001, x667002, x667003, x667004, x667005, x667006, x667007 => if x25 = true then (some (([] : List Int))) else ((spec_PutWord.f (([1] : List Int)) x667000).bind fun t674 => ((some (([(x667002) % 256] : List Int) : List Int)).bind fun y677 => (if t674.length + y677.length < 140737488355328 then ((spec_PutText.f k (t674 ++ y677) x667001).bind fun t683 => ((spec_PutWord.f t683 x667003).bind fun t686 => ((spec_PutWord.f t686 (wrap64 (Int.tdiv x667004 256))).bind fun t689 => ((some (([(Int.tmod x667004 256) % 256] : List Int) : List Int)).bind fun y692 => (if t689.length + y692.length < 140737488355328 then ((spec_PutText.f k (t689 ++ y692) x667005).bind fun t698 => ((spec_PutWord.f t698 x667006).bind fun t701 => ((spec_PutWord.f t701 x667007).bind fun t704 => (some t704)))) else (none)))))) else (none))))
def spec_PutItem.j1 : Nat → Bool → Int → ByteArray → Int → Int → Int → Int → Int → Option (List Int)
 | 0, _, _, _, _, _, _, _, _ => none
 | k + 1, x83, x708000, x708001, x708002, x708003, x708004, x708005, x708006 => if x83 = true then (some (([] : List Int))) else ((spec_PutWord.f (([2] : List Int)) x708000).bind fun t715 => ((some (([(x708003) % 256] : List Int) : List Int)).bind fun y718 => (if t715.length + y718.length < 140737488355328 then ((spec_PutText.f k (t715 ++ y718) x708001).bind fun t724 => ((spec_PutWord.f t724 x708002).bind fun t727 => ((spec_PutWord.f t727 (wrap64 (Int.tdiv x708004 256))).bind fun t730 => ((some (([(Int.tmod x708004 256) % 256] : List Int) : List Int)).bind fun y733 => (if t730.length + y733.length < 140737488355328 then ((spec_PutWord.f (t730 ++ y733) x708005).bind fun t739 => ((spec_PutWord.f t739 x708006).bind fun t742 => (some t742))) else (none)))))) else (none))))
end
def spec_PutItem.f (k : Nat) (a0_0 : Int) (a0_1 : Int) (a0_2 : ByteArray) (a0_3 : Int) (a0_4 : Int) (a0_5 : Int) (a0_6 : ByteArray) (a0_7 : Int) (a0_8 : Int) (a0_9 : Int) (a0_10 : ByteArray) (a0_11 : Int) (a0_12 : Int) (a0_13 : Int) (a0_14 : Int) (a0_15 : Int) : Option (List Int) := if a0_0 = 1 then ((spec_AskerOk.f k a0_1 a0_2 a0_3 a0_4 a0_5 a0_6 a0_7 a0_8).bind fun t667 => (if t667 = true then (if (!(a0_9 == 0) || (!(a0_10.toList == ([] : List UInt8)) || (!(a0_11 == 0) || (!(a0_12 == 0) || (!(a0_13 == 0) || (!(a0_14 == 0) || (!(a0_15 == 0)))))))) = true then (spec_PutItem.j0 k true a0_1 a0_2 a0_3 a0_4 a0_5 a0_6 a0_7 a0_8) else (spec_PutItem.j0 k (decide (a0_8 > 65535)) a0_1 a0_2 a0_3 a0_4 a0_5 a0_6 a0_7 a0_8)) else (spec_PutItem.j0 k true a0_1 a0_2 a0_3 a0_4 a0_5 a0_6 a0_7 a0_8))) else (if a0_0 = 2 then ((spec_LineOk.f k a0_9 a0_10 a0_11 a0_12 a0_13 a0_14 a0_15).bind fun t708 => (if t708 = true then (if (!(a0_1 == 0) || (!(a0_2.toList == ([] : List UInt8)) || (!(a0_3 == 0) || (!(a0_4 == 0) || (!(a0_5 == 0) || (!(a0_6.toList == ([] : List UInt8)) || (!(a0_7 == 0) || (!(a0_8 == 0))))))))) = true then (spec_PutItem.j1 k true a0_9 a0_10 a0_11 a0_12 a0_13 a0_14 a0_15) else (spec_PutItem.j1 k (decide (a0_15 > 65535)) a0_9 a0_10 a0_11 a0_12 a0_13 a0_14 a0_15)) else (spec_PutItem.j1 k true a0_9 a0_10 a0_11 a0_12 a0_13 a0_14 a0_15))) else (spec_PutItem.j1 k true a0_9 a0_10 a0_11 a0_12 a0_13 a0_14 a0_15))
theorem spec_PutItem.mono_l : ∀ k, (∀ y0 y1 y2 y3 y4 y5 y6 y7 y8, LeO (spec_PutItem.j0 k y0 y1 y2 y3 y4 y5 y6 y7 y8) (spec_PutItem.j0 (k + 1) y0 y1 y2 y3 y4 y5 y6 y7 y8)) ∧ (∀ y0 y1 y2 y3 y4 y5 y6 y7, LeO (spec_PutItem.j1 k y0 y1 y2 y3 y4 y5 y6 y7) (spec_PutItem.j1 (k + 1) y0 y1 y2 y3 y4 y5 y6 y7))
 | 0 => ⟨fun _ _ _ _ _ _ _ _ _ r h => by simp [spec_PutItem.j0] at h, fun _ _ _ _ _ _ _ _ r h => by simp [spec_PutItem.j1] at h⟩
 | k + 1 => by
  obtain ⟨ih0, ih1⟩ := spec_PutItem.mono_l k
  refine ⟨?_, ?_⟩
  ·
   intro y0 y1 y2 y3 y4 y5 y6 y7 y8
   unfold spec_PutItem.j0
   have m0 := @spec_AskerOk.mono; have m1 := @spec_LineOk.mono; have m2 := @spec_PutText.mono; exact mo_
  ·
   intro y0 y1 y2 y3 y4 y5 y6 y7
   unfold spec_PutItem.j1
   have m0 := @spec_AskerOk.mono; have m1 := @spec_LineOk.mono; have m2 := @spec_PutText.mono; exact mo_
theorem spec_PutItem.mono : ∀ a0 a1 a2 a3 a4 a5 a6 a7 a8 a9 a10 a11 a12 a13 a14 a15 k, LeO (spec_PutItem.f k a0 a1 a2 a3 a4 a5 a6 a7 a8 a9 a10 a11 a12 a13 a14 a15) (spec_PutItem.f (k + 1) a0 a1 a2 a3 a4 a5 a6 a7 a8 a9 a10 a11 a12 a13 a14 a15) := by
 intro a0 a1 a2 a3 a4 a5 a6 a7 a8 a9 a10 a11 a12 a13 a14 a15 k
 obtain ⟨ih0, ih1⟩ := spec_PutItem.mono_l k
 unfold spec_PutItem.f
 have m0 := @spec_AskerOk.mono; have m1 := @spec_LineOk.mono; have m2 := @spec_PutText.mono; exact mo_
def spec_PutItem.T5 : Bool × List (List Nat × List Nat) := (true, [([], []), ([], []), ([1], [1]), ([0, 2], [0, 2]), ([], []), ([4], [4]), ([5], [5]), ([6], [6]), ([3, 7, 3], [3, 7]), ([], []), ([9], [9]), ([8, 10, 8], [8, 10]), ([11, 11, 0, 1, 2, 3, 4, 5, 6, 7, 8, 9, 10, 11], [11])])
def spec_PutItem.B5 : List Nat := [0, 0, 2, 7, 0, 16, 48, 112, 255, 0, 512, 2047, 4095]
theorem spec_PutItem.tab5 : rtab .any (opsOf Try.f20 5) = spec_PutItem.T5 := by kernel_rfl
theorem spec_PutItem.bits5 : waitsOk spec_PutItem.T5.2 spec_PutItem.B5 = true := by kernel_rfl
def spec_PutItem.T6 : Bool × List (List Nat × List Nat) := (true, [([], []), ([], []), ([1], [1]), ([0, 2], [0, 2]), ([], []), ([4], [4]), ([5], [5]), ([3, 6, 3], [3, 6]), ([], []), ([8], [8]), ([9], [9]), ([10], [10]), ([11], [11]), ([7, 12, 7], [7, 12]), ([13, 13, 0, 1, 2, 3, 4, 5, 6, 7, 8, 9, 10, 11, 12, 13], [0, 13])])
def spec_PutItem.B6 : List Nat := [0, 0, 2, 7, 0, 16, 48, 127, 0, 256, 768, 1792, 3840, 8191, 16383]
theorem spec_PutItem.tab6 : rtab .any (opsOf Try.f20 6) = spec_PutItem.T6 := by kernel_rfl
theorem spec_PutItem.bits6 : waitsOk spec_PutItem.T6.2 spec_PutItem.B6 = true := by kernel_rfl
def spec_PutItem.T7 : Bool × List (List Nat × List Nat) := (true, [([], []), ([], []), ([1], [1]), ([0, 2], [0, 2]), ([], []), ([4], [4]), ([3, 5, 3], [3, 5]), ([], []), ([7], [7]), ([6, 8, 6], [6, 8]), ([9, 9, 0, 1, 2, 3, 4, 5, 6, 7, 8, 9], [9])])
def spec_PutItem.B7 : List Nat := [0, 0, 2, 7, 0, 16, 63, 0, 128, 511, 1023]
theorem spec_PutItem.tab7 : rtab .any (opsOf Try.f20 7) = spec_PutItem.T7 := by kernel_rfl
theorem spec_PutItem.bits7 : waitsOk spec_PutItem.T7.2 spec_PutItem.B7 = true := by kernel_rfl
def spec_PutItem.T11 : Bool × List (List Nat × List Nat) := (true, [([], []), ([], []), ([1], [1]), ([0, 2], [0, 2]), ([], []), ([4], [4]), ([5], [5]), ([6], [6]), ([3, 7, 3], [3, 7]), ([], []), ([9], [9]), ([8, 10, 8], [8, 10]), ([], []), ([12], [12]), ([11, 13, 11], [11, 13]), ([14, 14, 0, 1, 2, 3, 4, 5, 6, 7, 8, 9, 10, 11, 12, 13, 14], [14])])
def spec_PutItem.B11 : List Nat := [0, 0, 2, 7, 0, 16, 48, 112, 255, 0, 512, 2047, 0, 4096, 16383, 32767]
theorem spec_PutItem.tab11 : rtab .any (opsOf Try.f20 11) = spec_PutItem.T11 := by kernel_rfl
theorem spec_PutItem.bits11 : waitsOk spec_PutItem.T11.2 spec_PutItem.B11 = true := by kernel_rfl
def spec_PutItem.T12 : Bool × List (List Nat × List Nat) := (true, [([], []), ([], []), ([1], [1]), ([2], [2]), ([0, 3], [0, 3]), ([], []), ([5], [5]), ([6], [6]), ([7], [7]), ([8], [8]), ([4, 9, 4], [4, 9]), ([], []), ([11], [11]), ([10, 12, 10], [10, 12]), ([], []), ([14], [14]), ([13, 15, 13], [13, 15]), ([16, 16, 0, 1, 2, 3, 4, 5, 6, 7, 8, 9, 10, 11, 12, 13, 14, 15, 16], [16])])
def spec_PutItem.B12 : List Nat := [0, 0, 2, 6, 15, 0, 32, 96, 224, 480, 1023, 0, 2048, 8191, 0, 16384, 65535, 131071]
theorem spec_PutItem.tab12 : rtab .any (opsOf Try.f20 12) = spec_PutItem.T12 := by kernel_rfl
theorem spec_PutItem.bits12 : waitsOk spec_PutItem.T12.2 spec_PutItem.B12 = true := by kernel_rfl
set_option maxHeartbeats 8000000 in
set_option maxRecDepth 100000 in
theorem spec_PutItem.calls (k : Nat) (a0_0 : Int) (a0_1 : Int) (a0_2 : ByteArray) (a0_3 : Int) (a0_4 : Int) (a0_5 : Int) (a0_6 : ByteArray) (a0_7 : Int) (a0_8 : Int) (a0_9 : Int) (a0_10 : ByteArray) (a0_11 : Int) (a0_12 : Int) (a0_13 : Int) (a0_14 : Int) (a0_15 : Int) (r : List Int) (w : World) (h : spec_PutItem.f k a0_0 a0_1 a0_2 a0_3 a0_4 a0_5 a0_6 a0_7 a0_8 a0_9 a0_10 a0_11 a0_12 a0_13 a0_14 a0_15 = some r) :
  Calls Try.prog 20 #[.agg #[.int .i64 a0_0, .int .i64 a0_1, .string a0_2, .int .i64 a0_3, .int .i64 a0_4, .int .i64 a0_5, .string a0_6, .int .i64 a0_7, .int .i64 a0_8, .int .i64 a0_9, .string a0_10, .int .i64 a0_11, .int .i64 a0_12, .int .i64 a0_13, .int .i64 a0_14, .int .i64 a0_15]] w fun e w' => ∃ v0_ : Value, e = .returned (v0_) ∧ Kd.R (Kd.int .u8) 5 w' w.heap.size (fun _ => True) v0_ r ∧ Below w.heap.size w w' := by
 have hu29 := Try.underlying29
 have hu25 := Try.underlying25
 have hu27 := Try.underlying27
 have HB := Aside0.mk (Below.refl w.heap.size w)
 have H := h
 unfold spec_PutItem.f at H
 clear h
 have HC2 := am_ H
 clear H
 go_enter Try.func20, Try.ntmps20
 go_upto_if 9 with (first | (refine gd_ 1 rfl ?_; refine bx_ (N := 1) (cs := #[.int .i64 a0_0, .int .i64 a0_1, .string a0_2, .int .i64 a0_3, .int .i64 a0_4, .int .i64 a0_5, .string a0_6, .int .i64 a0_7, .int .i64 a0_8, .int .i64 a0_9, .string a0_10, .int .i64 a0_11, .int .i64 a0_12, .int .i64 a0_13, .int .i64 a0_14, .int .i64 a0_15]) (t := 29) ?_; intro gb665 hg w3 hbox hb; have BK665 := am_ (hbox); have GW665 := gA_ hg HB; have GE665 := GW665; have IGE665 := gI_ GE665; replace HB := bS_ HB hb; clear hb hbox hg; (try clear zK665); have zK665 := cf16 BK665.out))
 (try simp only [Act.put, List.setIfInBounds_toArray, List.set_cons_zero, List.set_cons_succ])
 have H := HC2.out
 clear HC2
 replace H := ie_ H
 obtain ⟨-, H, c5b0, c5b1⟩ | ⟨c5, H, c5b0, c5b1⟩ := H
 rotate_left
 ·
  (first | rw [c5b0] | rw [c5b1] | (simp only [i64_w, i32_w]; rw [c5b0]) | skip)
  have HC67 := am_ H
  clear H
  (try clear zK665)
  have zK665 := cf16 BK665.out
  go_upto_region 9 with (first | (refine gd_ 5 rfl ?_; refine bx_ (N := 5) (cs := #[.int .i64 0, .string (⟨#[]⟩ : ByteArray), .int .i64 0, .int .i64 0, .int .i64 0, .int .i64 0, .int .i64 0]) (t := 27) ?_; intro gb707 hg w69 hbox hb; have BK707 := am_ (hbox); have GW707 := gA_ hg HB; have GE707 := GW707; have IGE707 := gI_ GE707; replace HB := bS_ HB hb; have NB665_707 := am_ ((gN_ hg (qK BK665))); have NB707_665 := am_ ((gM_ hg (qK BK665))); replace BK665 := bK_ BK665 hb; clear hb hbox hg; have hnb70 := nx_ NB707_665; (try clear zK707); have zK707 := cf7 BK707.out))
  (try simp only [Act.put, List.setIfInBounds_toArray, List.set_cons_zero, List.set_cons_succ])
  go_cut [83] (fun v83 wc => ∃ (kq : Nat) (x83_66 : Bool), v83 = .bool x83_66 ∧ Aside0 (spec_PutItem.j1 kq x83_66 a0_9 a0_10 a0_11 a0_12 a0_13 a0_14 a0_15 = some r) ∧ Aside0 (kq ≤ k) ∧ Aside0 (wc.heap[gb665]? = some (.cells #[.int .i64 a0_0, .int .i64 a0_1, .string a0_2, .int .i64 a0_3, .int .i64 a0_4, .int .i64 a0_5, .string a0_6, .int .i64 a0_7, .int .i64 a0_8, .int .i64 a0_9, .string a0_10, .int .i64 a0_11, .int .i64 a0_12, .int .i64 a0_13, .int .i64 a0_14, .int .i64 a0_15] 29 (0, 0))) ∧ Aside0 (wc.heap[gb707]? = some (.cells #[.int .i64 a0_9, .string a0_10, .int .i64 a0_11, .int .i64 a0_12, .int .i64 a0_13, .int .i64 a0_14, .int .i64 a0_15] 27 (0, 0))) ∧ Aside0 (Below w.heap.size w wc))
  case first =>
   have H := HC67.out
   clear HC67
   replace H := ie_ H
   obtain ⟨-, H, c72b0, c72b1⟩ | ⟨c72, H, c72b0, c72b1⟩ := H
   rotate_left
   ·
    (first | rw [c72b0] | rw [c72b1] | (simp only [i64_w, i32_w]; rw [c72b0]) | skip)
    have H' := Aside0.mk H
    clear H
    have hnb91 := nx_ NB665_707
    (try clear zK665)
    have zK665 := cf16 BK665.out
    go_wp2
    go_meet
    case rel => exact ⟨_, (true), eqq_, H', ⟨by first | omega | exact Nat.le_refl _⟩, ⟨by (with_reducible repeat (first | refine blk_drewN ?_ _ | refine blk_drew ?_ | refine blk_alloc ?_ _)); refine blk_far7 ?_ NB665_707.out; exact qK BK665⟩, ⟨by (with_reducible repeat (first | refine blk_drewN ?_ _ | refine blk_drew ?_ | refine blk_alloc ?_ _)); refine blk_all7 (show _ = some (Go.Obj.cells #[.int .i64 0, .string (⟨#[]⟩ : ByteArray), .int .i64 0, .int .i64 0, .int .i64 0, .int .i64 0, .int .i64 0] _ (0, 0)) from ?_); exact qK BK707⟩, ⟨qB HB⟩⟩
   (first | rw [c72b0] | rw [c72b1] | (simp only [i64_w, i32_w]; rw [c72b0]) | skip)
   replace H := bd_ H
   obtain ⟨t708, A73, H⟩ := H
   by_cases c74 : t708 = true
   rotate_left
   ·
    replace c74 := nf_ c74
    subst c74
    rw [if_neg (show ¬ (false = true) by decide)] at H
    have H' := Aside0.mk H
    clear H
    have hnb87 := nx_ NB665_707
    (try clear zK665)
    have zK665 := cf16 BK665.out
    (try clear zK707)
    have zK707 := cf7 BK707.out
    go_wp2_with (first | (go_at_call 19; (with_reducible refine (spec_LineOk.calls k a0_9 a0_10 a0_11 a0_12 a0_13 a0_14 a0_15 false _ A73.out).mono ?_); rintro e w90 ⟨rfl, hb⟩; replace BK665 := fb_ BK665 hb; replace BK707 := am_ (blk_below (blk_all7 (qK BK707)) hb); replace HB := bS_ HB hb; (try clear hb)))
    go_meet
    case rel => exact ⟨_, (true), eqq_, H', ⟨by first | omega | exact Nat.le_refl _⟩, ⟨qK BK665⟩, ⟨qK BK707⟩, ⟨qB HB⟩⟩
   subst c74
   rw [if_pos rfl] at H
   replace H := id_ H
   obtain ⟨c75, H, -⟩ | ⟨c75, H, -⟩ := H
   ·
    have c75b0 : (!(a0_1 == 0) || (!(a0_2.toList == ([] : List UInt8)) || (!(a0_3 == 0) || (!(a0_4 == 0) || (!(a0_5 == 0) || (!(a0_6.toList == ([] : List UInt8)) || (!(a0_7 == 0) || (!(a0_8 == 0))))))))) = true := c75
    (try (have c75b0e := c75b0; simp only [beq_nil, bne_nil] at c75b0e))
    clear c75
    have H' := Aside0.mk H
    clear H
    have hnb76 := nx_ NB665_707
    (try clear zK665)
    have zK665 := cf16 BK665.out
    (try clear zK707)
    have zK707 := cf7 BK707.out
    go_wp2_with (first | (go_at_call 19; (with_reducible refine (spec_LineOk.calls k a0_9 a0_10 a0_11 a0_12 a0_13 a0_14 a0_15 true _ A73.out).mono ?_); rintro e w79 ⟨rfl, hb⟩; replace BK665 := fb_ BK665 hb; replace BK707 := am_ (blk_below (blk_all7 (qK BK707)) hb); replace HB := bS_ HB hb; (try clear hb); (try clear zK665); have zK665 := cf16 BK665.out))
    go_meet
    case rel => exact ⟨_, (true), eqq_, H', ⟨by first | omega | exact Nat.le_refl _⟩, ⟨qK BK665⟩, ⟨qK BK707⟩, ⟨qB HB⟩⟩
   have c75b0 : (!(a0_1 == 0) || (!(a0_2.toList == ([] : List UInt8)) || (!(a0_3 == 0) || (!(a0_4 == 0) || (!(a0_5 == 0) || (!(a0_6.toList == ([] : List UInt8)) || (!(a0_7 == 0) || (!(a0_8 == 0))))))))) = false := by simpa using c75
   (try (have c75b0e := c75b0; simp only [beq_nil, bne_nil] at c75b0e))
   clear c75
   have H' := Aside0.mk H
   clear H
   have hnb81 := nx_ NB665_707
   (try clear zK665)
   have zK665 := cf16 BK665.out
   (try clear zK707)
   have zK707 := cf7 BK707.out
   go_wp2_with (first | (go_at_call 19; (with_reducible refine (spec_LineOk.calls k a0_9 a0_10 a0_11 a0_12 a0_13 a0_14 a0_15 true _ A73.out).mono ?_); rintro e w84 ⟨rfl, hb⟩; replace BK665 := fb_ BK665 hb; replace BK707 := am_ (blk_below (blk_all7 (qK BK707)) hb); replace HB := bS_ HB hb; (try clear hb); (try clear zK665); have zK665 := cf16 BK665.out; (try clear zK707); have zK707 := cf7 BK707.out))
   go_meet
   case rel => exact ⟨_, (decide (a0_15 > 65535)), eqq_, H', ⟨by first | omega | exact Nat.le_refl _⟩, ⟨qK BK665⟩, ⟨qK BK707⟩, ⟨qB HB⟩⟩
  case rest =>
   clear HC67
   try clear p2
   try clear c3
   try clear c5
   try clear c5b0
   try clear c5b1
   try clear c7
   try clear c8
   try clear c9
   try clear c30
   try clear c34
   try clear c70
   try clear c72
   try clear c72b0
   try clear c72b1
   try clear c74
   try clear c75
   try clear c75b0
   try clear c76
   try clear c81
   try clear c87
   try clear c88
   try clear c89
   try clear c91
   (try clear zK665)
   (try clear zK707)
   (try clear zK665)
   (try clear zK707)
   (try clear zK665)
   (try clear zK665)
   (try clear zK707)
   (try clear zK665)
   (try clear zK707)
   (try clear zK665)
   (try clear zK707)
   (try clear zK665)
   (try clear fK665)
   (try clear fK707)
   (try clear fK665)
   (try clear fK707)
   (try clear fK665)
   (try clear fK665)
   (try clear fK707)
   (try clear fK665)
   (try clear fK707)
   (try clear fK665)
   (try clear fK707)
   (try clear fK665)
   obtain ⟨kq, x83_66, rfl, HA, HJ66, BK665, BK707, HB⟩ := hcut
   cases kq with
   | zero => exact absurd HA.out (by simp [spec_PutItem.j1])
   | succ kj66 =>
    have H := HA.out
    clear HA
    simp only [spec_PutItem.j1] at H
    by_cases c93 : x83_66 = true
    ·
     subst c93
     rw [if_pos rfl] at H
     obtain ⟨y709, hy709⟩ : ∃ y_ : List Int, y_ = (([] : List Int)) := ⟨_, rfl⟩
     rw [← hy709] at H
     have Ny709 := am_ hy709
     clear hy709
     obtain rfl := si_ H
     go_wp2_with (first | (refine gd_ 84 rfl ?_; refine l8_ 5 84 ([] : List Int) [] ?_; intro v710 w94 ho95 hb hg_ hnew_; clear hg_ hnew_; (first | rw [← Ny709.out] at ho95 | (simp only [Int.reduceToNat] at ho95; rw [← Ny709.out] at ho95)); have HO711 := am_ (Kd.R_lower ho95 (below_size (qB HB))); replace BK665 := bK_ BK665 hb; replace BK707 := bK_ BK707 hb; replace HB := bS_ HB hb; clear hb ho95))
     go_ret
     exact ⟨_, er_, qR HO711, qB HB⟩
    replace c93 := nf_ c93
    subst c93
    rw [if_neg (show ¬ (false = true) by decide)] at H
    obtain ⟨y712, hy712⟩ : ∃ y_ : List Int, y_ = (([2] : List Int)) := ⟨_, rfl⟩
    rw [← hy712] at H
    have Ny712 := am_ hy712
    clear hy712
    replace H := bd_ H
    obtain ⟨t715, A96, H⟩ := H
    replace H := my_ (([(a0_12) % 256] : List Int)) H
    obtain ⟨y718, Ny718, H⟩ := H
    (try dsimp only at H)
    replace H := ip_ H
    obtain ⟨c97, H, -⟩ := H
    have LMc97 := am_ c97
    clear c97
    obtain ⟨y721, hy721⟩ : ∃ y_ : List Int, y_ = (t715 ++ y718) := ⟨_, rfl⟩
    replace H : ((spec_PutText.f kj66 y721 a0_10).bind fun t724 => ((spec_PutWord.f t724 a0_11).bind fun t727 => ((spec_PutWord.f t727 (wrap64 (Int.tdiv a0_13 256))).bind fun t730 => ((some (([(Int.tmod a0_13 256) % 256] : List Int) : List Int)).bind fun y733 => (if t730.length + y733.length < 140737488355328 then ((spec_PutWord.f (t730 ++ y733) a0_14).bind fun t739 => ((spec_PutWord.f t739 a0_15).bind fun t742 => (some t742))) else (none)))))) = some r := by first | (rw [hy721]; with_reducible exact H) | (have H2_ := (Option.bind_some _ _).symm.trans H; rw [hy721]; with_reducible exact H2_) | (have H2_ := (Option.bind_some _ _).symm.trans H; with_reducible exact H2_) | with_reducible exact H | (rw [hy721]; exact H) | exact H
    have Ny721 := am_ hy721
    clear hy721
    replace H := bd_ H
    obtain ⟨t724, A98, H⟩ := H
    replace H := bd_ H
    obtain ⟨t727, A99, H⟩ := H
    replace H := bd_ H
    obtain ⟨t730, A100, H⟩ := H
    replace H := my_ (([(Int.tmod a0_13 256) % 256] : List Int)) H
    obtain ⟨y733, Ny733, H⟩ := H
    (try dsimp only at H)
    replace H := ip_ H
    obtain ⟨c101, H, -⟩ := H
    have LMc101 := am_ c101
    clear c101
    obtain ⟨y736, hy736⟩ : ∃ y_ : List Int, y_ = (t730 ++ y733) := ⟨_, rfl⟩
    replace H : ((spec_PutWord.f y736 a0_14).bind fun t739 => ((spec_PutWord.f t739 a0_15).bind fun t742 => (some t742))) = some r := by first | (rw [hy736]; with_reducible exact H) | (have H2_ := (Option.bind_some _ _).symm.trans H; rw [hy736]; with_reducible exact H2_) | (have H2_ := (Option.bind_some _ _).symm.trans H; with_reducible exact H2_) | with_reducible exact H | (rw [hy736]; exact H) | exact H
    have Ny736 := am_ hy736
    clear hy736
    replace H := bd_ H
    obtain ⟨t739, A102, H⟩ := H
    replace H := bd_ H
    obtain ⟨t742, A103, H⟩ := H
    obtain rfl := si_ H
    try go_wp2
    replace BK665 := am_ (blk_drew BK665.out)
    replace BK707 := am_ (blk_drew BK707.out)
    replace HB := am_ (below_drew1 HB.out)
    refine start_ (n := 16) (S := fun w' => w'.cell? ⟨gb707, 0, none⟩ = some (.int .i64 a0_9) ∧ w'.cell? ⟨gb707, 1, none⟩ = some (.string a0_10) ∧ w'.cell? ⟨gb707, 2, none⟩ = some (.int .i64 a0_11) ∧ w'.cell? ⟨gb707, 3, none⟩ = some (.int .i64 a0_12) ∧ w'.cell? ⟨gb707, 4, none⟩ = some (.int .i64 a0_13) ∧ w'.cell? ⟨gb707, 5, none⟩ = some (.int .i64 a0_14) ∧ w'.cell? ⟨gb707, 6, none⟩ = some (.int .i64 a0_15)) (ds := []) (rl [0,16]) (by kernel_rfl) rfl rfl (cz7 BK707.out) (fun hHeld => ?_); refine with_tabW spec_PutItem.tab11 spec_PutItem.bits11 (fun HT_ HW_ => ?_)
    generalize wc.drew = w104 at BK665 BK707 HB hHeld ⊢
    refine pq_ 1 86 HT_ (rl [0,1,1,14]) ?_
    refine pq_ 4 89 HT_ (rl [0,1,1,2,1,11]) ?_
    refine pq_ 9 94 HT_ (rl [0,1,1,2,1,4,1,6]) ?_
    refine pq_ 12 97 HT_ (rl [0,1,1,2,1,4,1,2,1,3]) ?_
    refine tz_ (i := 2) (N := some 87) HT_ HW_ (rl [0,1,2,1,1,4,1,2,1,3]) rfl rfl hHeld ?_
    refine tz_ (i := 5) (N := some 90) HT_ HW_ (rl [0,1,2,1,2,3,1,2,1,3]) rfl rfl hHeld ?_
    refine pq_ 6 91 HT_ (rl [0,1,2,1,3,2,1,2,1,3]) ?_
    refine tz_ (i := 10) (N := some 95) HT_ HW_ (rl [0,1,2,1,3,2,2,1,1,3]) rfl rfl hHeld ?_
    refine tz_ (i := 13) (N := some 98) HT_ HW_ (rl [0,1,2,1,3,2,2,1,2,2]) rfl rfl hHeld ?_
    refine join_ (σ := Value × Value × Value) 4 (rl [8,1,2,1,2,2]) (fun s_ => [(85, s_.1), (88, s_.2.1), (92, s_.2.2)]) (fun s_ w' => (w'.cell? ⟨gb707, 0, none⟩ = some (.int .i64 a0_9) ∧ w'.cell? ⟨gb707, 1, none⟩ = some (.string a0_10) ∧ w'.cell? ⟨gb707, 2, none⟩ = some (.int .i64 a0_11) ∧ w'.cell? ⟨gb707, 3, none⟩ = some (.int .i64 a0_12) ∧ w'.cell? ⟨gb707, 4, none⟩ = some (.int .i64 a0_13) ∧ w'.cell? ⟨gb707, 5, none⟩ = some (.int .i64 a0_14) ∧ w'.cell? ⟨gb707, 6, none⟩ = some (.int .i64 a0_15)) ∧ (Kd.R (Kd.int .u8) 5 w' w.heap.size (fun k_ => some k_ ≠ (s_.2.1 : Value).ownBlock ∧ some k_ ≠ (s_.2.2 : Value).ownBlock) s_.1 y712) ∧ (Kd.R (Kd.int .u8) 5 w' w.heap.size (fun k_ => some k_ ≠ (s_.1 : Value).ownBlock ∧ some k_ ≠ (s_.2.2 : Value).ownBlock) s_.2.1 t715) ∧ (Kd.R (Kd.int .u8) 5 w' w.heap.size (fun k_ => some k_ ≠ (s_.1 : Value).ownBlock ∧ some k_ ≠ (s_.2.1 : Value).ownBlock) s_.2.2 y718) ∧ (w'.heap[gb665]? = some (.cells #[.int .i64 a0_0, .int .i64 a0_1, .string a0_2, .int .i64 a0_3, .int .i64 a0_4, .int .i64 a0_5, .string a0_6, .int .i64 a0_7, .int .i64 a0_8, .int .i64 a0_9, .string a0_10, .int .i64 a0_11, .int .i64 a0_12, .int .i64 a0_13, .int .i64 a0_14, .int .i64 a0_15] 29 (0, 0))) ∧ (w'.heap[gb707]? = some (.cells #[.int .i64 a0_9, .string a0_10, .int .i64 a0_11, .int .i64 a0_12, .int .i64 a0_13, .int .i64 a0_14, .int .i64 a0_15] 27 (0, 0))) ∧ (Below w.heap.size w w')) ?_ ?_
    rotate_left
    ·
     intro hCont
     refine two_ (i := 0) (j := 7) (Ni := some 85) (Nj := some 92) (rl [3,1,3,2,2,1,2,2]) (rl [0,1,2,1,4,1,2,1,2,2]) rfl rfl rfl rfl (two_of HT_.out (by kernel_rfl)) (by decide) (by decide) (fun K hK => ?_) (fun K hK => ?_)
     ·
      skip
      refine l8s_ 5 85 ([2] : List Int) [.int .u8 2] ?_
      intro v713 w105 ho106 hb hg_ hnew_
      clear hg_ hnew_
      (first | rw [← Ny712.out] at ho106 | (simp only [Int.reduceToNat] at ho106; rw [← Ny712.out] at ho106))
      have HO714 := am_ (Kd.R_lower ho106 (below_size (qB HB)))
      replace BK665 := bK_ BK665 hb
      replace BK707 := bK_ BK707 hb
      replace HB := bS_ HB hb
      clear hb ho106
      obtain ⟨Ao107, co107, eo107⟩ := Kd.R_slice HO714.out
      (first | subst eo107 | (injection eo107 with f1_ f2_ f3_; have f4_ := f1_.symm; have f5_ := f3_.symm; clear f1_ f2_ f3_; subst f4_; subst f5_))
      refine hK.out _ _ (cz7 BK707.out) (fun hHeld => ?_)
      clear hK K
      refine nm_ (some 85) ?_
      refine two_ (i := 3) (j := 7) (Ni := some 88) (Nj := some 92) (rl [7,2,2,1,2,2]) (rl [3,1,4,1,2,1,2,2]) rfl rfl rfl rfl (two_of HT_.out (by kernel_rfl)) (by decide) (by decide) (fun K hK => ?_) (fun K hK => ?_)
      ·
       skip
       refine goes_ Try.func89 (by kernel_rfl) rfl #[.slice Ao107 y712.length co107, .int .i64 a0_9] (by rfl) rfl rfl la_ ?_
       with_reducible refine (spec_PutWord.calls _ _ y712 a0_9 t715 _ (rC_ HO714) ?side2 A96.out).mono ?_
       (case side2 => exact (rL_ HO714))
       rintro e w108 ⟨v716, rfl, ho0, hb⟩
       refine ⟨_, rfl, ?_⟩
       have HO717 := am_ (Kd.R_lower (Kd.R_new' ho0 (Kd.R_lt (qR HO714))) (below_size (qB HB)))
       replace HO714 := eA_ HO714 ho0 hb
       replace BK665 := bK_ BK665 hb
       replace BK707 := bK_ BK707 hb
       replace HB := bS_ HB hb
       (try clear hb ho0)
       refine hK.out _ _ (cz7 BK707.out) (fun hHeld => ?_)
       clear hK K
       refine nm_ (some 88) ?_
       refine on_ HT_ (i := 7) (N := some 92) (rl [8,1,2,1,2,2]) (fun K hK => ?_)
       refine l8s_ 5 92 ([(a0_12) % 256] : List Int) [.int .u8 ((a0_12) % 256)] ?_
       intro v719 w109 ho110 hb hg_ hnew_
       clear hg_ hnew_
       (first | rw [← Ny718.out] at ho110 | (simp only [Int.reduceToNat] at ho110; rw [← Ny718.out] at ho110))
       have HO720 := am_ (Kd.R_lower (Kd.R_new' (Kd.R_new' ho110 (Kd.R_lt (qR HO714))) (Kd.R_lt (qR HO717))) (below_size (qB HB)))
       replace HO714 := eA_ HO714 ho110 hb
       replace HO717 := eA_ HO717 ho110 hb
       replace BK665 := bK_ BK665 hb
       replace BK707 := bK_ BK707 hb
       replace HB := bS_ HB hb
       clear hb ho110
       refine hK.out _ _ (cz7 BK707.out) (fun hHeld => ?_)
       clear hK K
       refine nm_ (some 92) ?_
       exact nr_ (hCont (.slice Ao107 y712.length co107, v716, v719) _ ⟨hHeld, (xR1_ HO714), (xR1_ HO717), (xR1_ HO720), (qK BK665), (qK BK707), (qB HB)⟩)
      ·
       skip
       refine l8s_ 5 92 ([(a0_12) % 256] : List Int) [.int .u8 ((a0_12) % 256)] ?_
       intro v719 w107 ho108 hb hg_ hnew_
       clear hg_ hnew_
       (first | rw [← Ny718.out] at ho108 | (simp only [Int.reduceToNat] at ho108; rw [← Ny718.out] at ho108))
       have HO720 := am_ (Kd.R_lower (Kd.R_new' ho108 (Kd.R_lt (qR HO714))) (below_size (qB HB)))
       replace HO714 := eA_ HO714 ho108 hb
       replace BK665 := bK_ BK665 hb
       replace BK707 := bK_ BK707 hb
       replace HB := bS_ HB hb
       clear hb ho108
       obtain ⟨Ao109, co109, eo109⟩ := Kd.R_slice HO714.out
       (first | subst eo109 | (injection eo109 with f1_ f2_ f3_; have f4_ := f1_.symm; have f5_ := f3_.symm; clear f1_ f2_ f3_; subst f4_; subst f5_))
       refine hK.out _ _ (cz7 BK707.out) (fun hHeld => ?_)
       clear hK K
       refine nm_ (some 92) ?_
       refine on_ HT_ (i := 3) (N := some 88) (rl [8,1,2,1,2,2]) (fun K hK => ?_)
       refine goes_ Try.func89 (by kernel_rfl) rfl #[.slice Ao109 y712.length co109, .int .i64 a0_9] (by rfl) rfl rfl la_ ?_
       with_reducible refine (spec_PutWord.calls _ _ y712 a0_9 t715 _ (rC_ HO714) ?side2 A96.out).mono ?_
       (case side2 => exact (rL_ HO714))
       rintro e w110 ⟨v716, rfl, ho0, hb⟩
       refine ⟨_, rfl, ?_⟩
       have HO717 := am_ (Kd.R_lower (Kd.R_new' (Kd.R_new' ho0 (Kd.R_lt (qR HO714))) (Kd.R_lt (qR HO720))) (below_size (qB HB)))
       replace HO714 := eA_ HO714 ho0 hb
       replace HO720 := eA_ HO720 ho0 hb
       replace BK665 := bK_ BK665 hb
       replace BK707 := bK_ BK707 hb
       replace HB := bS_ HB hb
       (try clear hb ho0)
       refine hK.out _ _ (cz7 BK707.out) (fun hHeld => ?_)
       clear hK K
       refine nm_ (some 88) ?_
       exact nr_ (hCont (.slice Ao109 y712.length co109, v716, v719) _ ⟨hHeld, (xR1_ HO714), (xR1_ HO717), (xR1_ HO720), (qK BK665), (qK BK707), (qB HB)⟩)
     ·
      skip
      refine l8s_ 5 92 ([(a0_12) % 256] : List Int) [.int .u8 ((a0_12) % 256)] ?_
      intro v719 w105 ho106 hb hg_ hnew_
      clear hg_ hnew_
      (first | rw [← Ny718.out] at ho106 | (simp only [Int.reduceToNat] at ho106; rw [← Ny718.out] at ho106))
      have HO720 := am_ (Kd.R_lower ho106 (below_size (qB HB)))
      replace BK665 := bK_ BK665 hb
      replace BK707 := bK_ BK707 hb
      replace HB := bS_ HB hb
      clear hb ho106
      refine hK.out _ _ (cz7 BK707.out) (fun hHeld => ?_)
      clear hK K
      refine nm_ (some 92) ?_
      refine on_ HT_ (i := 0) (N := some 85) (rl [3,1,4,1,2,1,2,2]) (fun K hK => ?_)
      refine l8s_ 5 85 ([2] : List Int) [.int .u8 2] ?_
      intro v713 w107 ho108 hb hg_ hnew_
      clear hg_ hnew_
      (first | rw [← Ny712.out] at ho108 | (simp only [Int.reduceToNat] at ho108; rw [← Ny712.out] at ho108))
      have HO714 := am_ (Kd.R_lower (Kd.R_new' ho108 (Kd.R_lt (qR HO720))) (below_size (qB HB)))
      replace HO720 := eA_ HO720 ho108 hb
      replace BK665 := bK_ BK665 hb
      replace BK707 := bK_ BK707 hb
      replace HB := bS_ HB hb
      clear hb ho108
      obtain ⟨Ao109, co109, eo109⟩ := Kd.R_slice HO714.out
      (first | subst eo109 | (injection eo109 with f1_ f2_ f3_; have f4_ := f1_.symm; have f5_ := f3_.symm; clear f1_ f2_ f3_; subst f4_; subst f5_))
      refine hK.out _ _ (cz7 BK707.out) (fun hHeld => ?_)
      clear hK K
      refine nm_ (some 85) ?_
      refine on_ HT_ (i := 3) (N := some 88) (rl [8,1,2,1,2,2]) (fun K hK => ?_)
      refine goes_ Try.func89 (by kernel_rfl) rfl #[.slice Ao109 y712.length co109, .int .i64 a0_9] (by rfl) rfl rfl la_ ?_
      with_reducible refine (spec_PutWord.calls _ _ y712 a0_9 t715 _ (rC_ HO714) ?side2 A96.out).mono ?_
      (case side2 => exact (rL_ HO714))
      rintro e w110 ⟨v716, rfl, ho0, hb⟩
      refine ⟨_, rfl, ?_⟩
      have HO717 := am_ (Kd.R_lower (Kd.R_new' (Kd.R_new' ho0 (Kd.R_lt (qR HO720))) (Kd.R_lt (qR HO714))) (below_size (qB HB)))
      replace HO720 := eA_ HO720 ho0 hb
      replace HO714 := eA_ HO714 ho0 hb
      replace BK665 := bK_ BK665 hb
      replace BK707 := bK_ BK707 hb
      replace HB := bS_ HB hb
      (try clear hb ho0)
      refine hK.out _ _ (cz7 BK707.out) (fun hHeld => ?_)
      clear hK K
      refine nm_ (some 88) ?_
      exact nr_ (hCont (.slice Ao109 y712.length co109, v716, v719) _ ⟨hHeld, (xR1_ HO714), (xR1_ HO717), (xR1_ HO720), (qK BK665), (qK BK707), (qB HB)⟩)
    rintro ⟨v713, v716, v719⟩ w111 ⟨hS_, h0_, h1_, h2_, h3_, h4_, h5_⟩
    (try dsimp only at h0_ h1_ h2_ h3_ h4_ h5_)
    have n0_ := am_ h0_
    have n1_ := am_ h1_
    have n2_ := am_ h2_
    have n3_ := am_ h3_
    have n4_ := am_ h4_
    have n5_ := am_ h5_
    clear BK665
    clear BK707
    clear HB
    clear h0_ h1_ h2_ h3_ h4_ h5_
    have HO714 := n0_
    have HO717 := n1_
    have HO720 := n2_
    have BK665 := n3_
    have BK707 := n4_
    have HB := n5_
    clear n0_ n1_ n2_ n3_ n4_ n5_
    have hHeld : w111.cell? ⟨gb707, 0, none⟩ = some (.int .i64 a0_9) ∧ w111.cell? ⟨gb707, 1, none⟩ = some (.string a0_10) ∧ w111.cell? ⟨gb707, 2, none⟩ = some (.int .i64 a0_11) ∧ w111.cell? ⟨gb707, 3, none⟩ = some (.int .i64 a0_12) ∧ w111.cell? ⟨gb707, 4, none⟩ = some (.int .i64 a0_13) ∧ w111.cell? ⟨gb707, 5, none⟩ = some (.int .i64 a0_14) ∧ w111.cell? ⟨gb707, 6, none⟩ = some (.int .i64 a0_15) := hS_
    obtain ⟨Ao113, co113, eo113⟩ := Kd.R_slice HO720.out
    (first | subst eo113 | (injection eo113 with f1_ f2_ f3_; have f4_ := f1_.symm; have f5_ := f3_.symm; clear f1_ f2_ f3_; subst f4_; subst f5_))
    refine norm_ (a' := ?_) ?_ ?_
    rotate_left
    ·
     simp only [putAll, Act.put, List.setIfInBounds_toArray, List.set_cons_zero, List.set_cons_succ]
     rfl
    refine on_ HT_ (i := 8) (N := some 93) (rl [11,1,2,2]) (fun K hK => ?_)
    refine Kd.R_append_rows_step (Kd.int .u8) (w0 := w) w.heap.size (by rfl) (.tmp 88) (.tmp 92) 22 5 (.int .u8 0) 1 rfl Try.underlying22 info5 rfl (by decide) (by omega) v716 t715 y718 _ _ _ (fun k_ => nb Ao113 y718.length co113 k_) (fun _ => False) rfl rfl ?aO ?aR (fun _ _ h => h) (fun _ h => h.elim) ?aF ?aB ?aS ?aL ?_
    (case aR => exact rC_ HO720)
    (case aB => exact (qB HB))
    (case aF => exact (fun k_ hk => Kd.fresh' (Kd.R_lt (qR HO720)) k_ hk))
    (case aO => exact (xR1_ HO717))
    (case aS => exact (below_size (qB HB)))
    (case aL => have := LMc97.out; omega)
    intro v722 w112 ho hb hg hat
    rw [← Ny721.out] at ho
    replace BK665 := kG_ BK665 HO717 hg
    replace BK707 := kG_ BK707 HO717 hg
    replace HB := am_ (hb)
    have HO723 := am_ (ho)
    clear ho hb hg hat
    obtain ⟨Ao114, co114, eo114⟩ := Kd.R_slice HO723.out
    (first | subst eo114 | (injection eo114 with f1_ f2_ f3_; have f4_ := f1_.symm; have f5_ := f3_.symm; clear f1_ f2_ f3_; subst f4_; subst f5_))
    refine hK.out _ _ (cz7 BK707.out) (fun hHeld => ?_)
    clear hK K
    refine nm_ (some 93) ?_
    refine on_ HT_ (i := 11) (N := some 96) (rl [14,2]) (fun K hK => ?_)
    refine goes_ Try.func88 (by kernel_rfl) rfl #[.slice Ao114 y721.length co114, .string a0_10] (by rfl) rfl rfl la_ ?_
    with_reducible refine (spec_PutText.calls kj66 _ _ y721 a0_10 t724 _ (rC_ HO723) ?side2 A98.out).mono ?_
    (case side2 => exact (rL_ HO723))
    rintro e w115 ⟨v725, rfl, ho0, hb⟩
    refine ⟨_, rfl, ?_⟩
    have HO726 := am_ (Kd.R_lower ho0 (below_size (qB HB)))
    replace BK665 := bK_ BK665 hb
    replace BK707 := bK_ BK707 hb
    replace HB := bS_ HB hb
    (try clear hb ho0)
    obtain ⟨Ao116, co116, eo116⟩ := Kd.R_slice HO726.out
    (first | subst eo116 | (injection eo116 with f1_ f2_ f3_; have f4_ := f1_.symm; have f5_ := f3_.symm; clear f1_ f2_ f3_; subst f4_; subst f5_))
    refine hK.out _ _ (cz7 BK707.out) (fun hHeld => ?_)
    clear hK K
    refine nm_ (some 96) ?_
    refine on_ HT_ (i := 14) (N := some 99) (rl [15,1]) (fun K hK => ?_)
    refine goes_ Try.func89 (by kernel_rfl) rfl #[.slice Ao116 t724.length co116, .int .i64 a0_11] (by rfl) rfl rfl la_ ?_
    with_reducible refine (spec_PutWord.calls _ _ t724 a0_11 t727 _ (rC_ HO726) ?side2 A99.out).mono ?_
    (case side2 => exact (rL_ HO726))
    rintro e w117 ⟨v728, rfl, ho0, hb⟩
    refine ⟨_, rfl, ?_⟩
    have HO729 := am_ (Kd.R_lower ho0 (below_size (qB HB)))
    replace BK665 := bK_ BK665 hb
    replace BK707 := bK_ BK707 hb
    replace HB := bS_ HB hb
    (try clear hb ho0)
    refine hK.out _ _ (cz7 BK707.out) (fun hHeld => ?_)
    clear hK K
    refine nm_ (some 99) ?_
    refine pq_ 15 6 HT_ (rl [16]) ?_
    refine done_ (done_of HT_.out (by kernel_rfl)) ?_
    obtain ⟨Ao118, co118, eo118⟩ := Kd.R_slice HO729.out
    subst eo118
    try go_wp2
    replace HO729 := am_ (Kd.R_drew HO729.out)
    replace BK665 := am_ (blk_drew BK665.out)
    replace BK707 := am_ (blk_drew BK707.out)
    replace HB := am_ (below_drew1 HB.out)
    refine start_ (n := 18) (S := fun w' => w'.cell? ⟨gb707, 0, none⟩ = some (.int .i64 a0_9) ∧ w'.cell? ⟨gb707, 1, none⟩ = some (.string a0_10) ∧ w'.cell? ⟨gb707, 2, none⟩ = some (.int .i64 a0_11) ∧ w'.cell? ⟨gb707, 3, none⟩ = some (.int .i64 a0_12) ∧ w'.cell? ⟨gb707, 4, none⟩ = some (.int .i64 a0_13) ∧ w'.cell? ⟨gb707, 5, none⟩ = some (.int .i64 a0_14) ∧ w'.cell? ⟨gb707, 6, none⟩ = some (.int .i64 a0_15)) (ds := []) (rl [0,18]) (by kernel_rfl) rfl rfl (cz7 BK707.out) (fun hHeld => ?_); refine with_tabW spec_PutItem.tab12 spec_PutItem.bits12 (fun HT_ HW_ => ?_)
    generalize w117.drew = w119 at HO729 BK665 BK707 HB hHeld ⊢
    refine pq_ 0 100 HT_ (rl [1,17]) ?_
    refine pq_ 1 101 HT_ (rl [2,16]) ?_
    refine pq_ 5 105 HT_ (rl [2,3,1,12]) ?_
    refine pq_ 11 111 HT_ (rl [2,3,1,5,1,6]) ?_
    refine pq_ 14 114 HT_ (rl [2,3,1,5,1,2,1,3]) ?_
    refine tz_ (i := 2) (N := some 102) HT_ HW_ (rl [3,2,1,5,1,2,1,3]) rfl rfl hHeld ?_
    refine pq_ 3 103 HT_ (rl [4,1,1,5,1,2,1,3]) ?_
    refine tz_ (i := 6) (N := some 106) HT_ HW_ (rl [4,1,2,4,1,2,1,3]) rfl rfl hHeld ?_
    refine pq_ 7 107 HT_ (rl [4,1,3,3,1,2,1,3]) ?_
    refine pq_ 8 108 HT_ (rl [4,1,4,2,1,2,1,3]) ?_
    refine tz_ (i := 12) (N := some 112) HT_ HW_ (rl [4,1,4,2,2,1,1,3]) rfl rfl hHeld ?_
    refine tz_ (i := 15) (N := some 115) HT_ HW_ (rl [4,1,4,2,2,1,2,2]) rfl rfl hHeld ?_
    refine join_ (σ := Value × Value) 4 (rl [10,1,2,1,2,2]) (fun s_ => [(104, s_.1), (109, s_.2)]) (fun s_ w' => (w'.cell? ⟨gb707, 0, none⟩ = some (.int .i64 a0_9) ∧ w'.cell? ⟨gb707, 1, none⟩ = some (.string a0_10) ∧ w'.cell? ⟨gb707, 2, none⟩ = some (.int .i64 a0_11) ∧ w'.cell? ⟨gb707, 3, none⟩ = some (.int .i64 a0_12) ∧ w'.cell? ⟨gb707, 4, none⟩ = some (.int .i64 a0_13) ∧ w'.cell? ⟨gb707, 5, none⟩ = some (.int .i64 a0_14) ∧ w'.cell? ⟨gb707, 6, none⟩ = some (.int .i64 a0_15)) ∧ (Kd.R (Kd.int .u8) 5 w' w.heap.size (fun k_ => some k_ ≠ (s_.1 : Value).ownBlock ∧ some k_ ≠ (s_.2 : Value).ownBlock) (.slice Ao118 t727.length co118) t727) ∧ (Kd.R (Kd.int .u8) 5 w' w.heap.size (fun k_ => nb Ao118 t727.length co118 k_ ∧ some k_ ≠ (s_.2 : Value).ownBlock) s_.1 t730) ∧ (Kd.R (Kd.int .u8) 5 w' w.heap.size (fun k_ => nb Ao118 t727.length co118 k_ ∧ some k_ ≠ (s_.1 : Value).ownBlock) s_.2 y733) ∧ (w'.heap[gb665]? = some (.cells #[.int .i64 a0_0, .int .i64 a0_1, .string a0_2, .int .i64 a0_3, .int .i64 a0_4, .int .i64 a0_5, .string a0_6, .int .i64 a0_7, .int .i64 a0_8, .int .i64 a0_9, .string a0_10, .int .i64 a0_11, .int .i64 a0_12, .int .i64 a0_13, .int .i64 a0_14, .int .i64 a0_15] 29 (0, 0))) ∧ (w'.heap[gb707]? = some (.cells #[.int .i64 a0_9, .string a0_10, .int .i64 a0_11, .int .i64 a0_12, .int .i64 a0_13, .int .i64 a0_14, .int .i64 a0_15] 27 (0, 0))) ∧ (Below w.heap.size w w')) ?_ ?_
    rotate_left
    ·
     intro hCont
     refine two_ (i := 4) (j := 9) (Ni := some 104) (Nj := some 109) (rl [9,2,2,1,2,2]) (rl [4,1,5,1,2,1,2,2]) rfl rfl rfl rfl (two_of HT_.out (by kernel_rfl)) (by decide) (by decide) (fun K hK => ?_) (fun K hK => ?_)
     ·
      skip
      refine goes_ Try.func89 (by kernel_rfl) rfl #[.slice Ao118 t727.length co118, .int .i64 (wrap64 (Int.tdiv a0_13 256))] (by rfl) rfl rfl la_ ?_
      with_reducible refine (spec_PutWord.calls _ _ t727 (wrap64 (Int.tdiv a0_13 256)) t730 _ (rC_ HO729) ?side2 A100.out).mono ?_
      (case side2 => exact (rL_ HO729))
      rintro e w120 ⟨v731, rfl, ho0, hb⟩
      refine ⟨_, rfl, ?_⟩
      have HO732 := am_ (Kd.R_lower (Kd.R_new' ho0 (Kd.R_lt (qR HO729))) (below_size (qB HB)))
      replace HO729 := eA_ HO729 ho0 hb
      replace BK665 := bK_ BK665 hb
      replace BK707 := bK_ BK707 hb
      replace HB := bS_ HB hb
      (try clear hb ho0)
      refine hK.out _ _ (cz7 BK707.out) (fun hHeld => ?_)
      clear hK K
      refine nm_ (some 104) ?_
      refine on_ HT_ (i := 9) (N := some 109) (rl [10,1,2,1,2,2]) (fun K hK => ?_)
      refine l8s_ 5 109 ([(Int.tmod a0_13 256) % 256] : List Int) [.int .u8 ((Int.tmod a0_13 256) % 256)] ?_
      intro v734 w121 ho122 hb hg_ hnew_
      clear hg_ hnew_
      (first | rw [← Ny733.out] at ho122 | (simp only [Int.reduceToNat] at ho122; rw [← Ny733.out] at ho122))
      have HO735 := am_ (Kd.R_lower (Kd.R_new' (Kd.R_new' ho122 (Kd.R_lt (qR HO729))) (Kd.R_lt (qR HO732))) (below_size (qB HB)))
      replace HO729 := eA_ HO729 ho122 hb
      replace HO732 := eA_ HO732 ho122 hb
      replace BK665 := bK_ BK665 hb
      replace BK707 := bK_ BK707 hb
      replace HB := bS_ HB hb
      clear hb ho122
      refine hK.out _ _ (cz7 BK707.out) (fun hHeld => ?_)
      clear hK K
      refine nm_ (some 109) ?_
      exact nr_ (hCont (v731, v734) _ ⟨hHeld, (xR1_ HO729), (xR1_ HO732), (xR1_ HO735), (qK BK665), (qK BK707), (qB HB)⟩)
     ·
      skip
      refine l8s_ 5 109 ([(Int.tmod a0_13 256) % 256] : List Int) [.int .u8 ((Int.tmod a0_13 256) % 256)] ?_
      intro v734 w120 ho121 hb hg_ hnew_
      clear hg_ hnew_
      (first | rw [← Ny733.out] at ho121 | (simp only [Int.reduceToNat] at ho121; rw [← Ny733.out] at ho121))
      have HO735 := am_ (Kd.R_lower (Kd.R_new' ho121 (Kd.R_lt (qR HO729))) (below_size (qB HB)))
      replace HO729 := eA_ HO729 ho121 hb
      replace BK665 := bK_ BK665 hb
      replace BK707 := bK_ BK707 hb
      replace HB := bS_ HB hb
      clear hb ho121
      refine hK.out _ _ (cz7 BK707.out) (fun hHeld => ?_)
      clear hK K
      refine nm_ (some 109) ?_
      refine on_ HT_ (i := 4) (N := some 104) (rl [10,1,2,1,2,2]) (fun K hK => ?_)
      refine goes_ Try.func89 (by kernel_rfl) rfl #[.slice Ao118 t727.length co118, .int .i64 (wrap64 (Int.tdiv a0_13 256))] (by rfl) rfl rfl la_ ?_
      with_reducible refine (spec_PutWord.calls _ _ t727 (wrap64 (Int.tdiv a0_13 256)) t730 _ (rC_ HO729) ?side2 A100.out).mono ?_
      (case side2 => exact (rL_ HO729))
      rintro e w122 ⟨v731, rfl, ho0, hb⟩
      refine ⟨_, rfl, ?_⟩
      have HO732 := am_ (Kd.R_lower (Kd.R_new' (Kd.R_new' ho0 (Kd.R_lt (qR HO729))) (Kd.R_lt (qR HO735))) (below_size (qB HB)))
      replace HO729 := eA_ HO729 ho0 hb
      replace HO735 := eA_ HO735 ho0 hb
      replace BK665 := bK_ BK665 hb
      replace BK707 := bK_ BK707 hb
      replace HB := bS_ HB hb
      (try clear hb ho0)
      refine hK.out _ _ (cz7 BK707.out) (fun hHeld => ?_)
      clear hK K
      refine nm_ (some 104) ?_
      exact nr_ (hCont (v731, v734) _ ⟨hHeld, (xR1_ HO729), (xR1_ HO732), (xR1_ HO735), (qK BK665), (qK BK707), (qB HB)⟩)
    rintro ⟨v731, v734⟩ w123 ⟨hS_, h4_, h5_, h6_, h7_, h8_, h9_⟩
    (try dsimp only at h4_ h5_ h6_ h7_ h8_ h9_)
    have n4_ := am_ h4_
    have n5_ := am_ h5_
    have n6_ := am_ h6_
    have n7_ := am_ h7_
    have n8_ := am_ h8_
    have n9_ := am_ h9_
    clear HO729
    clear BK665
    clear BK707
    clear HB
    clear h4_ h5_ h6_ h7_ h8_ h9_
    have HO729 := n4_
    have HO732 := n5_
    have HO735 := n6_
    have BK665 := n7_
    have BK707 := n8_
    have HB := n9_
    clear n4_ n5_ n6_ n7_ n8_ n9_
    have hHeld : w123.cell? ⟨gb707, 0, none⟩ = some (.int .i64 a0_9) ∧ w123.cell? ⟨gb707, 1, none⟩ = some (.string a0_10) ∧ w123.cell? ⟨gb707, 2, none⟩ = some (.int .i64 a0_11) ∧ w123.cell? ⟨gb707, 3, none⟩ = some (.int .i64 a0_12) ∧ w123.cell? ⟨gb707, 4, none⟩ = some (.int .i64 a0_13) ∧ w123.cell? ⟨gb707, 5, none⟩ = some (.int .i64 a0_14) ∧ w123.cell? ⟨gb707, 6, none⟩ = some (.int .i64 a0_15) := hS_
    obtain ⟨Ao125, co125, eo125⟩ := Kd.R_slice HO735.out
    (first | subst eo125 | (injection eo125 with f1_ f2_ f3_; have f4_ := f1_.symm; have f5_ := f3_.symm; clear f1_ f2_ f3_; subst f4_; subst f5_))
    refine norm_ (a' := ?_) ?_ ?_
    rotate_left
    ·
     simp only [putAll, Act.put, List.setIfInBounds_toArray, List.set_cons_zero, List.set_cons_succ]
     rfl
    refine on_ HT_ (i := 10) (N := some 110) (rl [13,1,2,2]) (fun K hK => ?_)
    refine Kd.R_append_rows_step (Kd.int .u8) (w0 := w) w.heap.size (by rfl) (.tmp 104) (.tmp 109) 22 5 (.int .u8 0) 1 rfl Try.underlying22 info5 rfl (by decide) (by omega) v731 t730 y733 _ _ _ (fun k_ => nb Ao125 y733.length co125 k_) (fun _ => False) rfl rfl ?aO ?aR (fun _ _ h => h) (fun _ h => h.elim) ?aF ?aB ?aS ?aL ?_
    (case aR => exact rC_ HO735)
    (case aB => exact (qB HB))
    (case aF => exact (fun k_ hk => Kd.fresh' (Kd.R_lt (qR HO735)) k_ hk))
    (case aO => exact (xR1_ HO732))
    (case aS => exact (below_size (qB HB)))
    (case aL => have := LMc101.out; omega)
    intro v737 w124 ho hb hg hat
    rw [← Ny736.out] at ho
    replace BK665 := kG_ BK665 HO732 hg
    replace BK707 := kG_ BK707 HO732 hg
    replace HB := am_ (hb)
    have HO738 := am_ (ho)
    clear ho hb hg hat
    obtain ⟨Ao126, co126, eo126⟩ := Kd.R_slice HO738.out
    (first | subst eo126 | (injection eo126 with f1_ f2_ f3_; have f4_ := f1_.symm; have f5_ := f3_.symm; clear f1_ f2_ f3_; subst f4_; subst f5_))
    refine hK.out _ _ (cz7 BK707.out) (fun hHeld => ?_)
    clear hK K
    refine nm_ (some 110) ?_
    refine on_ HT_ (i := 13) (N := some 113) (rl [16,2]) (fun K hK => ?_)
    refine goes_ Try.func89 (by kernel_rfl) rfl #[.slice Ao126 y736.length co126, .int .i64 a0_14] (by rfl) rfl rfl la_ ?_
    with_reducible refine (spec_PutWord.calls _ _ y736 a0_14 t739 _ (rC_ HO738) ?side2 A102.out).mono ?_
    (case side2 => exact (rL_ HO738))
    rintro e w127 ⟨v740, rfl, ho0, hb⟩
    refine ⟨_, rfl, ?_⟩
    have HO741 := am_ (Kd.R_lower ho0 (below_size (qB HB)))
    replace BK665 := bK_ BK665 hb
    replace BK707 := bK_ BK707 hb
    replace HB := bS_ HB hb
    (try clear hb ho0)
    obtain ⟨Ao128, co128, eo128⟩ := Kd.R_slice HO741.out
    (first | subst eo128 | (injection eo128 with f1_ f2_ f3_; have f4_ := f1_.symm; have f5_ := f3_.symm; clear f1_ f2_ f3_; subst f4_; subst f5_))
    refine hK.out _ _ (cz7 BK707.out) (fun hHeld => ?_)
    clear hK K
    refine nm_ (some 113) ?_
    refine on_ HT_ (i := 16) (N := some 116) (rl [17,1]) (fun K hK => ?_)
    refine goes_ Try.func89 (by kernel_rfl) rfl #[.slice Ao128 t739.length co128, .int .i64 a0_15] (by rfl) rfl rfl la_ ?_
    with_reducible refine (spec_PutWord.calls _ _ t739 a0_15 t742 _ (rC_ HO741) ?side2 A103.out).mono ?_
    (case side2 => exact (rL_ HO741))
    rintro e w129 ⟨v743, rfl, ho0, hb⟩
    refine ⟨_, rfl, ?_⟩
    have HO744 := am_ (Kd.R_lower ho0 (below_size (qB HB)))
    replace BK665 := bK_ BK665 hb
    replace BK707 := bK_ BK707 hb
    replace HB := bS_ HB hb
    (try clear hb ho0)
    refine hK.out _ _ (cz7 BK707.out) (fun hHeld => ?_)
    clear hK K
    refine nm_ (some 116) ?_
    refine pq_ 17 2 HT_ (rl [18]) ?_
    refine done_ (done_of HT_.out (by kernel_rfl)) ?_
    try go_wp2
    go_ret
    exact ⟨_, er_, (xR1_ HO744), qB HB⟩
 (first | rw [c5b0] | rw [c5b1] | (simp only [i64_w, i32_w]; rw [c5b0]) | skip)
 have HC6 := am_ H
 clear H
 (try clear zK665)
 have zK665 := cf16 BK665.out
 go_upto_region 3 with (first | (refine gd_ 3 rfl ?_; refine bx_ (N := 3) (cs := #[.int .i64 0, .string (⟨#[]⟩ : ByteArray), .int .i64 0, .int .i64 0, .int .i64 0, .string (⟨#[]⟩ : ByteArray), .int .i64 0, .int .i64 0]) (t := 25) ?_; intro gb666 hg w8 hbox hb; have BK666 := am_ (hbox); have GW666 := gA_ hg HB; have GE666 := GW666; have IGE666 := gI_ GE666; replace HB := bS_ HB hb; have NB665_666 := am_ ((gN_ hg (qK BK665))); have NB666_665 := am_ ((gM_ hg (qK BK665))); replace BK665 := bK_ BK665 hb; clear hb hbox hg; have hnb9 := nx_ NB666_665; (try clear zK666); have zK666 := cf8 BK666.out))
 (try simp only [Act.put, List.setIfInBounds_toArray, List.set_cons_zero, List.set_cons_succ])
 go_cut [25] (fun v25 wc => ∃ (kq : Nat) (x25_5 : Bool), v25 = .bool x25_5 ∧ Aside0 (spec_PutItem.j0 kq x25_5 a0_1 a0_2 a0_3 a0_4 a0_5 a0_6 a0_7 a0_8 = some r) ∧ Aside0 (kq ≤ k) ∧ Aside0 (wc.heap[gb665]? = some (.cells #[.int .i64 a0_0, .int .i64 a0_1, .string a0_2, .int .i64 a0_3, .int .i64 a0_4, .int .i64 a0_5, .string a0_6, .int .i64 a0_7, .int .i64 a0_8, .int .i64 a0_9, .string a0_10, .int .i64 a0_11, .int .i64 a0_12, .int .i64 a0_13, .int .i64 a0_14, .int .i64 a0_15] 29 (0, 0))) ∧ Aside0 (wc.heap[gb666]? = some (.cells #[.int .i64 a0_1, .string a0_2, .int .i64 a0_3, .int .i64 a0_4, .int .i64 a0_5, .string a0_6, .int .i64 a0_7, .int .i64 a0_8] 25 (0, 0))) ∧ Aside0 (Below w.heap.size w wc))
 case first =>
  have H := HC6.out
  clear HC6
  replace H := bd_ H
  obtain ⟨t667, A11, H⟩ := H
  by_cases c12 : t667 = true
  rotate_left
  ·
   replace c12 := nf_ c12
   subst c12
   rw [if_neg (show ¬ (false = true) by decide)] at H
   have H' := Aside0.mk H
   clear H
   have hnb23 := nx_ NB666_665
   (try clear zK666)
   have zK666 := cf8 BK666.out
   go_wp2_with (first | (refine gc_ 17 rfl ?_; refine gl_ (some 13) Try.func17 #[.agg #[.int .i64 a0_1, .string a0_2, .int .i64 a0_3, .int .i64 a0_4, .int .i64 a0_5, .string a0_6, .int .i64 a0_7, .int .i64 a0_8]] ?_; (with_reducible refine (spec_AskerOk.calls k a0_1 a0_2 a0_3 a0_4 a0_5 a0_6 a0_7 a0_8 false _ A11.out).mono ?_); rintro e w25 ⟨rfl, hb⟩; refine ⟨_, rfl, ?_⟩; replace BK665 := fb_ BK665 hb; replace BK666 := am_ (blk_below (blk_all8 (qK BK666)) hb); replace HB := bS_ HB hb; (try clear hb)))
   go_meet
   case rel => exact ⟨_, (true), eqq_, H', ⟨by first | omega | exact Nat.le_refl _⟩, ⟨qK BK665⟩, ⟨qK BK666⟩, ⟨qB HB⟩⟩
  subst c12
  rw [if_pos rfl] at H
  replace H := id_ H
  obtain ⟨c13, H, -⟩ | ⟨c13, H, -⟩ := H
  ·
   have c13b0 : (!(a0_9 == 0) || (!(a0_10.toList == ([] : List UInt8)) || (!(a0_11 == 0) || (!(a0_12 == 0) || (!(a0_13 == 0) || (!(a0_14 == 0) || (!(a0_15 == 0)))))))) = true := c13
   (try (have c13b0e := c13b0; simp only [beq_nil, bne_nil] at c13b0e))
   clear c13
   (first | rw [c13b0] | (simp only [i64_w, i32_w]; rw [c13b0]) | skip)
   have H' := Aside0.mk H
   clear H
   have hnb14 := nx_ NB666_665
   (try clear zK666)
   have zK666 := cf8 BK666.out
   go_wp2_with (first | (refine gc_ 17 rfl ?_; refine gl_ (some 13) Try.func17 #[.agg #[.int .i64 a0_1, .string a0_2, .int .i64 a0_3, .int .i64 a0_4, .int .i64 a0_5, .string a0_6, .int .i64 a0_7, .int .i64 a0_8]] ?_; (with_reducible refine (spec_AskerOk.calls k a0_1 a0_2 a0_3 a0_4 a0_5 a0_6 a0_7 a0_8 true _ A11.out).mono ?_); rintro e w16 ⟨rfl, hb⟩; refine ⟨_, rfl, ?_⟩; replace BK665 := fb_ BK665 hb; replace BK666 := am_ (blk_below (blk_all8 (qK BK666)) hb); replace HB := bS_ HB hb; (try clear hb); (try clear zK665); have zK665 := cf16 BK665.out))
   go_meet
   case rel => exact ⟨_, (true), eqq_, H', ⟨by first | omega | exact Nat.le_refl _⟩, ⟨qK BK665⟩, ⟨qK BK666⟩, ⟨qB HB⟩⟩
  have c13b0 : (!(a0_9 == 0) || (!(a0_10.toList == ([] : List UInt8)) || (!(a0_11 == 0) || (!(a0_12 == 0) || (!(a0_13 == 0) || (!(a0_14 == 0) || (!(a0_15 == 0)))))))) = false := by simpa using c13
  (try (have c13b0e := c13b0; simp only [beq_nil, bne_nil] at c13b0e))
  clear c13
  (first | rw [c13b0] | (simp only [i64_w, i32_w]; rw [c13b0]) | skip)
  have H' := Aside0.mk H
  clear H
  have hnb18 := nx_ NB666_665
  (try clear zK666)
  have zK666 := cf8 BK666.out
  go_wp2_with (first | (refine gc_ 17 rfl ?_; refine gl_ (some 13) Try.func17 #[.agg #[.int .i64 a0_1, .string a0_2, .int .i64 a0_3, .int .i64 a0_4, .int .i64 a0_5, .string a0_6, .int .i64 a0_7, .int .i64 a0_8]] ?_; (with_reducible refine (spec_AskerOk.calls k a0_1 a0_2 a0_3 a0_4 a0_5 a0_6 a0_7 a0_8 true _ A11.out).mono ?_); rintro e w20 ⟨rfl, hb⟩; refine ⟨_, rfl, ?_⟩; replace BK665 := fb_ BK665 hb; replace BK666 := am_ (blk_below (blk_all8 (qK BK666)) hb); replace HB := bS_ HB hb; (try clear hb); (try clear zK665); have zK665 := cz16 BK665.out; (try clear zK666); have zK666 := cf8 BK666.out))
  go_meet
  case rel => exact ⟨_, (decide (a0_8 > 65535)), eqq_, H', ⟨by first | omega | exact Nat.le_refl _⟩, ⟨qK BK665⟩, ⟨qK BK666⟩, ⟨qB HB⟩⟩
 case rest =>
  clear HC6
  try clear c1
  try clear c2
  try clear p2
  try clear c5
  try clear c5b0
  try clear c5b1
  try clear c9
  try clear c12
  try clear c13
  try clear c13b0
  try clear c14
  try clear c17
  try clear c18
  try clear c20
  try clear c23
  (try clear zK666)
  (try clear zK666)
  (try clear zK665)
  (try clear zK666)
  (try clear zK665)
  (try clear zK666)
  (try clear zK666)
  (try clear zK665)
  (try clear zK665)
  (try clear fK666)
  (try clear fK666)
  (try clear fK665)
  (try clear fK666)
  (try clear f21)
  (try clear fK666)
  (try clear fK666)
  (try clear fK665)
  (try clear fK665)
  obtain ⟨kq, x25_5, rfl, HA, HJ5, BK665, BK666, HB⟩ := hcut
  cases kq with
  | zero => exact absurd HA.out (by simp [spec_PutItem.j0])
  | succ kj5 =>
   have H := HA.out
   clear HA
   simp only [spec_PutItem.j0] at H
   by_cases c26 : x25_5 = true
   ·
    subst c26
    rw [if_pos rfl] at H
    obtain ⟨y668, hy668⟩ : ∃ y_ : List Int, y_ = (([] : List Int)) := ⟨_, rfl⟩
    rw [← hy668] at H
    have Ny668 := am_ hy668
    clear hy668
    obtain rfl := si_ H
    go_wp2_with (first | (refine gd_ 26 rfl ?_; refine l8_ 5 26 ([] : List Int) [] ?_; intro v669 w27 ho28 hb hg_ hnew_; clear hg_ hnew_; (first | rw [← Ny668.out] at ho28 | (simp only [Int.reduceToNat] at ho28; rw [← Ny668.out] at ho28)); have HO670 := am_ (Kd.R_lower ho28 (below_size (qB HB))); replace BK666 := bK_ BK666 hb; replace HB := bS_ HB hb; clear hb ho28))
    go_ret
    exact ⟨_, er_, qR HO670, qB HB⟩
   replace c26 := nf_ c26
   subst c26
   rw [if_neg (show ¬ (false = true) by decide)] at H
   obtain ⟨y671, hy671⟩ : ∃ y_ : List Int, y_ = (([1] : List Int)) := ⟨_, rfl⟩
   rw [← hy671] at H
   have Ny671 := am_ hy671
   clear hy671
   replace H := bd_ H
   obtain ⟨t674, A29, H⟩ := H
   replace H := my_ (([(a0_3) % 256] : List Int)) H
   obtain ⟨y677, Ny677, H⟩ := H
   (try dsimp only at H)
   replace H := ip_ H
   obtain ⟨c30, H, -⟩ := H
   have LMc30 := am_ c30
   clear c30
   obtain ⟨y680, hy680⟩ : ∃ y_ : List Int, y_ = (t674 ++ y677) := ⟨_, rfl⟩
   replace H : ((spec_PutText.f kj5 y680 a0_2).bind fun t683 => ((spec_PutWord.f t683 a0_4).bind fun t686 => ((spec_PutWord.f t686 (wrap64 (Int.tdiv a0_5 256))).bind fun t689 => ((some (([(Int.tmod a0_5 256) % 256] : List Int) : List Int)).bind fun y692 => (if t689.length + y692.length < 140737488355328 then ((spec_PutText.f kj5 (t689 ++ y692) a0_6).bind fun t698 => ((spec_PutWord.f t698 a0_7).bind fun t701 => ((spec_PutWord.f t701 a0_8).bind fun t704 => (some t704)))) else (none)))))) = some r := by first | (rw [hy680]; with_reducible exact H) | (have H2_ := (Option.bind_some _ _).symm.trans H; rw [hy680]; with_reducible exact H2_) | (have H2_ := (Option.bind_some _ _).symm.trans H; with_reducible exact H2_) | with_reducible exact H | (rw [hy680]; exact H) | exact H
   have Ny680 := am_ hy680
   clear hy680
   replace H := bd_ H
   obtain ⟨t683, A31, H⟩ := H
   replace H := bd_ H
   obtain ⟨t686, A32, H⟩ := H
   replace H := bd_ H
   obtain ⟨t689, A33, H⟩ := H
   replace H := my_ (([(Int.tmod a0_5 256) % 256] : List Int)) H
   obtain ⟨y692, Ny692, H⟩ := H
   (try dsimp only at H)
   replace H := ip_ H
   obtain ⟨c34, H, -⟩ := H
   have LMc34 := am_ c34
   clear c34
   obtain ⟨y695, hy695⟩ : ∃ y_ : List Int, y_ = (t689 ++ y692) := ⟨_, rfl⟩
   replace H : ((spec_PutText.f kj5 y695 a0_6).bind fun t698 => ((spec_PutWord.f t698 a0_7).bind fun t701 => ((spec_PutWord.f t701 a0_8).bind fun t704 => (some t704)))) = some r := by first | (rw [hy695]; with_reducible exact H) | (have H2_ := (Option.bind_some _ _).symm.trans H; rw [hy695]; with_reducible exact H2_) | (have H2_ := (Option.bind_some _ _).symm.trans H; with_reducible exact H2_) | with_reducible exact H | (rw [hy695]; exact H) | exact H
   have Ny695 := am_ hy695
   clear hy695
   replace H := bd_ H
   obtain ⟨t698, A35, H⟩ := H
   replace H := bd_ H
   obtain ⟨t701, A36, H⟩ := H
   replace H := bd_ H
   obtain ⟨t704, A37, H⟩ := H
   obtain rfl := si_ H
   try go_wp2
   replace BK666 := am_ (blk_drew BK666.out)
   replace HB := am_ (below_drew1 HB.out)
   refine start_ (n := 13) (S := fun w' => w'.cell? ⟨gb666, 0, none⟩ = some (.int .i64 a0_1) ∧ w'.cell? ⟨gb666, 1, none⟩ = some (.string a0_2) ∧ w'.cell? ⟨gb666, 2, none⟩ = some (.int .i64 a0_3) ∧ w'.cell? ⟨gb666, 3, none⟩ = some (.int .i64 a0_4) ∧ w'.cell? ⟨gb666, 4, none⟩ = some (.int .i64 a0_5) ∧ w'.cell? ⟨gb666, 5, none⟩ = some (.string a0_6) ∧ w'.cell? ⟨gb666, 6, none⟩ = some (.int .i64 a0_7) ∧ w'.cell? ⟨gb666, 7, none⟩ = some (.int .i64 a0_8)) (ds := []) (rl [0,13]) (by kernel_rfl) rfl rfl (cz8 BK666.out) (fun hHeld => ?_); refine with_tabW spec_PutItem.tab5 spec_PutItem.bits5 (fun HT_ HW_ => ?_)
   generalize wc.drew = w38 at BK666 HB hHeld ⊢
   refine pq_ 1 28 HT_ (rl [0,1,1,11]) ?_
   refine pq_ 4 31 HT_ (rl [0,1,1,2,1,8]) ?_
   refine pq_ 9 36 HT_ (rl [0,1,1,2,1,4,1,3]) ?_
   refine tz_ (i := 2) (N := some 29) HT_ HW_ (rl [0,1,2,1,1,4,1,3]) rfl rfl hHeld ?_
   refine tz_ (i := 5) (N := some 32) HT_ HW_ (rl [0,1,2,1,2,3,1,3]) rfl rfl hHeld ?_
   refine pq_ 6 33 HT_ (rl [0,1,2,1,3,2,1,3]) ?_
   refine tz_ (i := 10) (N := some 37) HT_ HW_ (rl [0,1,2,1,3,2,2,2]) rfl rfl hHeld ?_
   refine join_ (σ := Value × Value × Value) 3 (rl [8,1,2,2]) (fun s_ => [(27, s_.1), (30, s_.2.1), (34, s_.2.2)]) (fun s_ w' => (w'.cell? ⟨gb666, 0, none⟩ = some (.int .i64 a0_1) ∧ w'.cell? ⟨gb666, 1, none⟩ = some (.string a0_2) ∧ w'.cell? ⟨gb666, 2, none⟩ = some (.int .i64 a0_3) ∧ w'.cell? ⟨gb666, 3, none⟩ = some (.int .i64 a0_4) ∧ w'.cell? ⟨gb666, 4, none⟩ = some (.int .i64 a0_5) ∧ w'.cell? ⟨gb666, 5, none⟩ = some (.string a0_6) ∧ w'.cell? ⟨gb666, 6, none⟩ = some (.int .i64 a0_7) ∧ w'.cell? ⟨gb666, 7, none⟩ = some (.int .i64 a0_8)) ∧ (Kd.R (Kd.int .u8) 5 w' w.heap.size (fun k_ => some k_ ≠ (s_.2.1 : Value).ownBlock ∧ some k_ ≠ (s_.2.2 : Value).ownBlock) s_.1 y671) ∧ (Kd.R (Kd.int .u8) 5 w' w.heap.size (fun k_ => some k_ ≠ (s_.1 : Value).ownBlock ∧ some k_ ≠ (s_.2.2 : Value).ownBlock) s_.2.1 t674) ∧ (Kd.R (Kd.int .u8) 5 w' w.heap.size (fun k_ => some k_ ≠ (s_.1 : Value).ownBlock ∧ some k_ ≠ (s_.2.1 : Value).ownBlock) s_.2.2 y677) ∧ (w'.heap[gb666]? = some (.cells #[.int .i64 a0_1, .string a0_2, .int .i64 a0_3, .int .i64 a0_4, .int .i64 a0_5, .string a0_6, .int .i64 a0_7, .int .i64 a0_8] 25 (0, 0))) ∧ (Below w.heap.size w w')) ?_ ?_
   rotate_left
   ·
    intro hCont
    refine two_ (i := 0) (j := 7) (Ni := some 27) (Nj := some 34) (rl [3,1,3,2,2,2]) (rl [0,1,2,1,4,1,2,2]) rfl rfl rfl rfl (two_of HT_.out (by kernel_rfl)) (by decide) (by decide) (fun K hK => ?_) (fun K hK => ?_)
    ·
     skip
     refine l8s_ 5 27 ([1] : List Int) [.int .u8 1] ?_
     intro v672 w39 ho40 hb hg_ hnew_
     clear hg_ hnew_
     (first | rw [← Ny671.out] at ho40 | (simp only [Int.reduceToNat] at ho40; rw [← Ny671.out] at ho40))
     have HO673 := am_ (Kd.R_lower ho40 (below_size (qB HB)))
     replace BK666 := bK_ BK666 hb
     replace HB := bS_ HB hb
     clear hb ho40
     obtain ⟨Ao41, co41, eo41⟩ := Kd.R_slice HO673.out
     (first | subst eo41 | (injection eo41 with f1_ f2_ f3_; have f4_ := f1_.symm; have f5_ := f3_.symm; clear f1_ f2_ f3_; subst f4_; subst f5_))
     refine hK.out _ _ (cz8 BK666.out) (fun hHeld => ?_)
     clear hK K
     refine nm_ (some 27) ?_
     refine two_ (i := 3) (j := 7) (Ni := some 30) (Nj := some 34) (rl [7,2,2,2]) (rl [3,1,4,1,2,2]) rfl rfl rfl rfl (two_of HT_.out (by kernel_rfl)) (by decide) (by decide) (fun K hK => ?_) (fun K hK => ?_)
     ·
      skip
      refine goes_ Try.func89 (by kernel_rfl) rfl #[.slice Ao41 y671.length co41, .int .i64 a0_1] (by rfl) rfl rfl la_ ?_
      with_reducible refine (spec_PutWord.calls _ _ y671 a0_1 t674 _ (rC_ HO673) ?side2 A29.out).mono ?_
      (case side2 => exact (rL_ HO673))
      rintro e w42 ⟨v675, rfl, ho0, hb⟩
      refine ⟨_, rfl, ?_⟩
      have HO676 := am_ (Kd.R_lower (Kd.R_new' ho0 (Kd.R_lt (qR HO673))) (below_size (qB HB)))
      replace HO673 := eA_ HO673 ho0 hb
      replace BK666 := bK_ BK666 hb
      replace HB := bS_ HB hb
      (try clear hb ho0)
      refine hK.out _ _ (cz8 BK666.out) (fun hHeld => ?_)
      clear hK K
      refine nm_ (some 30) ?_
      refine on_ HT_ (i := 7) (N := some 34) (rl [8,1,2,2]) (fun K hK => ?_)
      refine l8s_ 5 34 ([(a0_3) % 256] : List Int) [.int .u8 ((a0_3) % 256)] ?_
      intro v678 w43 ho44 hb hg_ hnew_
      clear hg_ hnew_
      (first | rw [← Ny677.out] at ho44 | (simp only [Int.reduceToNat] at ho44; rw [← Ny677.out] at ho44))
      have HO679 := am_ (Kd.R_lower (Kd.R_new' (Kd.R_new' ho44 (Kd.R_lt (qR HO673))) (Kd.R_lt (qR HO676))) (below_size (qB HB)))
      replace HO673 := eA_ HO673 ho44 hb
      replace HO676 := eA_ HO676 ho44 hb
      replace BK666 := bK_ BK666 hb
      replace HB := bS_ HB hb
      clear hb ho44
      refine hK.out _ _ (cz8 BK666.out) (fun hHeld => ?_)
      clear hK K
      refine nm_ (some 34) ?_
      exact nr_ (hCont (.slice Ao41 y671.length co41, v675, v678) _ ⟨hHeld, (xR1_ HO673), (xR1_ HO676), (xR1_ HO679), (qK BK666), (qB HB)⟩)
     ·
      skip
      refine l8s_ 5 34 ([(a0_3) % 256] : List Int) [.int .u8 ((a0_3) % 256)] ?_
      intro v678 w41 ho42 hb hg_ hnew_
      clear hg_ hnew_
      (first | rw [← Ny677.out] at ho42 | (simp only [Int.reduceToNat] at ho42; rw [← Ny677.out] at ho42))
      have HO679 := am_ (Kd.R_lower (Kd.R_new' ho42 (Kd.R_lt (qR HO673))) (below_size (qB HB)))
      replace HO673 := eA_ HO673 ho42 hb
      replace BK666 := bK_ BK666 hb
      replace HB := bS_ HB hb
      clear hb ho42
      obtain ⟨Ao43, co43, eo43⟩ := Kd.R_slice HO673.out
      (first | subst eo43 | (injection eo43 with f1_ f2_ f3_; have f4_ := f1_.symm; have f5_ := f3_.symm; clear f1_ f2_ f3_; subst f4_; subst f5_))
      refine hK.out _ _ (cz8 BK666.out) (fun hHeld => ?_)
      clear hK K
      refine nm_ (some 34) ?_
      refine on_ HT_ (i := 3) (N := some 30) (rl [8,1,2,2]) (fun K hK => ?_)
      refine goes_ Try.func89 (by kernel_rfl) rfl #[.slice Ao43 y671.length co43, .int .i64 a0_1] (by rfl) rfl rfl la_ ?_
      with_reducible refine (spec_PutWord.calls _ _ y671 a0_1 t674 _ (rC_ HO673) ?side2 A29.out).mono ?_
      (case side2 => exact (rL_ HO673))
      rintro e w44 ⟨v675, rfl, ho0, hb⟩
      refine ⟨_, rfl, ?_⟩
      have HO676 := am_ (Kd.R_lower (Kd.R_new' (Kd.R_new' ho0 (Kd.R_lt (qR HO673))) (Kd.R_lt (qR HO679))) (below_size (qB HB)))
      replace HO673 := eA_ HO673 ho0 hb
      replace HO679 := eA_ HO679 ho0 hb
      replace BK666 := bK_ BK666 hb
      replace HB := bS_ HB hb
      (try clear hb ho0)
      refine hK.out _ _ (cz8 BK666.out) (fun hHeld => ?_)
      clear hK K
      refine nm_ (some 30) ?_
      exact nr_ (hCont (.slice Ao43 y671.length co43, v675, v678) _ ⟨hHeld, (xR1_ HO673), (xR1_ HO676), (xR1_ HO679), (qK BK666), (qB HB)⟩)
    ·
     skip
     refine l8s_ 5 34 ([(a0_3) % 256] : List Int) [.int .u8 ((a0_3) % 256)] ?_
     intro v678 w39 ho40 hb hg_ hnew_
     clear hg_ hnew_
     (first | rw [← Ny677.out] at ho40 | (simp only [Int.reduceToNat] at ho40; rw [← Ny677.out] at ho40))
     have HO679 := am_ (Kd.R_lower ho40 (below_size (qB HB)))
     replace BK666 := bK_ BK666 hb
     replace HB := bS_ HB hb
     clear hb ho40
     refine hK.out _ _ (cz8 BK666.out) (fun hHeld => ?_)
     clear hK K
     refine nm_ (some 34) ?_
     refine on_ HT_ (i := 0) (N := some 27) (rl [3,1,4,1,2,2]) (fun K hK => ?_)
     refine l8s_ 5 27 ([1] : List Int) [.int .u8 1] ?_
     intro v672 w41 ho42 hb hg_ hnew_
     clear hg_ hnew_
     (first | rw [← Ny671.out] at ho42 | (simp only [Int.reduceToNat] at ho42; rw [← Ny671.out] at ho42))
     have HO673 := am_ (Kd.R_lower (Kd.R_new' ho42 (Kd.R_lt (qR HO679))) (below_size (qB HB)))
     replace HO679 := eA_ HO679 ho42 hb
     replace BK666 := bK_ BK666 hb
     replace HB := bS_ HB hb
     clear hb ho42
     obtain ⟨Ao43, co43, eo43⟩ := Kd.R_slice HO673.out
     (first | subst eo43 | (injection eo43 with f1_ f2_ f3_; have f4_ := f1_.symm; have f5_ := f3_.symm; clear f1_ f2_ f3_; subst f4_; subst f5_))
     refine hK.out _ _ (cz8 BK666.out) (fun hHeld => ?_)
     clear hK K
     refine nm_ (some 27) ?_
     refine on_ HT_ (i := 3) (N := some 30) (rl [8,1,2,2]) (fun K hK => ?_)
     refine goes_ Try.func89 (by kernel_rfl) rfl #[.slice Ao43 y671.length co43, .int .i64 a0_1] (by rfl) rfl rfl la_ ?_
     with_reducible refine (spec_PutWord.calls _ _ y671 a0_1 t674 _ (rC_ HO673) ?side2 A29.out).mono ?_
     (case side2 => exact (rL_ HO673))
     rintro e w44 ⟨v675, rfl, ho0, hb⟩
     refine ⟨_, rfl, ?_⟩
     have HO676 := am_ (Kd.R_lower (Kd.R_new' (Kd.R_new' ho0 (Kd.R_lt (qR HO679))) (Kd.R_lt (qR HO673))) (below_size (qB HB)))
     replace HO679 := eA_ HO679 ho0 hb
     replace HO673 := eA_ HO673 ho0 hb
     replace BK666 := bK_ BK666 hb
     replace HB := bS_ HB hb
     (try clear hb ho0)
     refine hK.out _ _ (cz8 BK666.out) (fun hHeld => ?_)
     clear hK K
     refine nm_ (some 30) ?_
     exact nr_ (hCont (.slice Ao43 y671.length co43, v675, v678) _ ⟨hHeld, (xR1_ HO673), (xR1_ HO676), (xR1_ HO679), (qK BK666), (qB HB)⟩)
   rintro ⟨v672, v675, v678⟩ w45 ⟨hS_, h0_, h1_, h2_, h4_, h5_⟩
   (try dsimp only at h0_ h1_ h2_ h4_ h5_)
   have n0_ := am_ h0_
   have n1_ := am_ h1_
   have n2_ := am_ h2_
   have n4_ := am_ h4_
   have n5_ := am_ h5_
   clear BK666
   clear HB
   clear h0_ h1_ h2_ h4_ h5_
   have HO673 := n0_
   have HO676 := n1_
   have HO679 := n2_
   have BK666 := n4_
   have HB := n5_
   clear n0_ n1_ n2_ n4_ n5_
   have hHeld : w45.cell? ⟨gb666, 0, none⟩ = some (.int .i64 a0_1) ∧ w45.cell? ⟨gb666, 1, none⟩ = some (.string a0_2) ∧ w45.cell? ⟨gb666, 2, none⟩ = some (.int .i64 a0_3) ∧ w45.cell? ⟨gb666, 3, none⟩ = some (.int .i64 a0_4) ∧ w45.cell? ⟨gb666, 4, none⟩ = some (.int .i64 a0_5) ∧ w45.cell? ⟨gb666, 5, none⟩ = some (.string a0_6) ∧ w45.cell? ⟨gb666, 6, none⟩ = some (.int .i64 a0_7) ∧ w45.cell? ⟨gb666, 7, none⟩ = some (.int .i64 a0_8) := hS_
   obtain ⟨Ao47, co47, eo47⟩ := Kd.R_slice HO679.out
   (first | subst eo47 | (injection eo47 with f1_ f2_ f3_; have f4_ := f1_.symm; have f5_ := f3_.symm; clear f1_ f2_ f3_; subst f4_; subst f5_))
   refine norm_ (a' := ?_) ?_ ?_
   rotate_left
   ·
    simp only [putAll, Act.put, List.setIfInBounds_toArray, List.set_cons_zero, List.set_cons_succ]
    rfl
   refine on_ HT_ (i := 8) (N := some 35) (rl [11,2]) (fun K hK => ?_)
   refine Kd.R_append_rows_step (Kd.int .u8) (w0 := w) w.heap.size (by rfl) (.tmp 30) (.tmp 34) 22 5 (.int .u8 0) 1 rfl Try.underlying22 info5 rfl (by decide) (by omega) v675 t674 y677 _ _ _ (fun k_ => nb Ao47 y677.length co47 k_) (fun _ => False) rfl rfl ?aO ?aR (fun _ _ h => h) (fun _ h => h.elim) ?aF ?aB ?aS ?aL ?_
   (case aR => exact rC_ HO679)
   (case aB => exact (qB HB))
   (case aF => exact (fun k_ hk => Kd.fresh' (Kd.R_lt (qR HO679)) k_ hk))
   (case aO => exact (xR1_ HO676))
   (case aS => exact (below_size (qB HB)))
   (case aL => have := LMc30.out; omega)
   intro v681 w46 ho hb hg hat
   rw [← Ny680.out] at ho
   replace BK666 := kG_ BK666 HO676 hg
   replace HB := am_ (hb)
   have HO682 := am_ (ho)
   clear ho hb hg hat
   obtain ⟨Ao48, co48, eo48⟩ := Kd.R_slice HO682.out
   (first | subst eo48 | (injection eo48 with f1_ f2_ f3_; have f4_ := f1_.symm; have f5_ := f3_.symm; clear f1_ f2_ f3_; subst f4_; subst f5_))
   refine hK.out _ _ (cz8 BK666.out) (fun hHeld => ?_)
   clear hK K
   refine nm_ (some 35) ?_
   refine on_ HT_ (i := 11) (N := some 38) (rl [12,1]) (fun K hK => ?_)
   refine goes_ Try.func88 (by kernel_rfl) rfl #[.slice Ao48 y680.length co48, .string a0_2] (by rfl) rfl rfl la_ ?_
   with_reducible refine (spec_PutText.calls kj5 _ _ y680 a0_2 t683 _ (rC_ HO682) ?side2 A31.out).mono ?_
   (case side2 => exact (rL_ HO682))
   rintro e w49 ⟨v684, rfl, ho0, hb⟩
   refine ⟨_, rfl, ?_⟩
   have HO685 := am_ (Kd.R_lower ho0 (below_size (qB HB)))
   replace BK666 := bK_ BK666 hb
   replace HB := bS_ HB hb
   (try clear hb ho0)
   refine hK.out _ _ (cz8 BK666.out) (fun hHeld => ?_)
   clear hK K
   refine nm_ (some 38) ?_
   refine pq_ 12 4 HT_ (rl [13]) ?_
   refine done_ (done_of HT_.out (by kernel_rfl)) ?_
   obtain ⟨Ao50, co50, eo50⟩ := Kd.R_slice HO685.out
   subst eo50
   try go_wp2
   replace HO685 := am_ (Kd.R_drew HO685.out)
   replace BK666 := am_ (blk_drew BK666.out)
   replace HB := am_ (below_drew1 HB.out)
   refine start_ (n := 15) (S := fun w' => w'.cell? ⟨gb666, 0, none⟩ = some (.int .i64 a0_1) ∧ w'.cell? ⟨gb666, 1, none⟩ = some (.string a0_2) ∧ w'.cell? ⟨gb666, 2, none⟩ = some (.int .i64 a0_3) ∧ w'.cell? ⟨gb666, 3, none⟩ = some (.int .i64 a0_4) ∧ w'.cell? ⟨gb666, 4, none⟩ = some (.int .i64 a0_5) ∧ w'.cell? ⟨gb666, 5, none⟩ = some (.string a0_6) ∧ w'.cell? ⟨gb666, 6, none⟩ = some (.int .i64 a0_7) ∧ w'.cell? ⟨gb666, 7, none⟩ = some (.int .i64 a0_8)) (ds := []) (rl [0,15]) (by kernel_rfl) rfl rfl (cz8 BK666.out) (fun hHeld => ?_); refine with_tabW spec_PutItem.tab6 spec_PutItem.bits6 (fun HT_ HW_ => ?_)
   generalize w49.drew = w51 at HO685 BK666 HB hHeld ⊢
   refine pq_ 0 39 HT_ (rl [1,14]) ?_
   refine pq_ 1 40 HT_ (rl [2,13]) ?_
   refine pq_ 4 43 HT_ (rl [2,2,1,10]) ?_
   refine pq_ 8 47 HT_ (rl [2,2,1,3,1,6]) ?_
   refine tz_ (i := 2) (N := some 41) HT_ HW_ (rl [3,1,1,3,1,6]) rfl rfl hHeld ?_
   refine tz_ (i := 5) (N := some 44) HT_ HW_ (rl [3,1,2,2,1,6]) rfl rfl hHeld ?_
   refine pq_ 6 45 HT_ (rl [3,1,3,1,1,6]) ?_
   refine tz_ (i := 9) (N := some 48) HT_ HW_ (rl [3,1,3,1,2,5]) rfl rfl hHeld ?_
   refine pq_ 10 49 HT_ (rl [3,1,3,1,3,4]) ?_
   refine pq_ 11 50 HT_ (rl [3,1,3,1,4,3]) ?_
   refine join_ (σ := Value × Value × Value) 2 (rl [13,2]) (fun s_ => [(42, s_.1), (46, s_.2.1), (51, s_.2.2)]) (fun s_ w' => (w'.cell? ⟨gb666, 0, none⟩ = some (.int .i64 a0_1) ∧ w'.cell? ⟨gb666, 1, none⟩ = some (.string a0_2) ∧ w'.cell? ⟨gb666, 2, none⟩ = some (.int .i64 a0_3) ∧ w'.cell? ⟨gb666, 3, none⟩ = some (.int .i64 a0_4) ∧ w'.cell? ⟨gb666, 4, none⟩ = some (.int .i64 a0_5) ∧ w'.cell? ⟨gb666, 5, none⟩ = some (.string a0_6) ∧ w'.cell? ⟨gb666, 6, none⟩ = some (.int .i64 a0_7) ∧ w'.cell? ⟨gb666, 7, none⟩ = some (.int .i64 a0_8)) ∧ (Kd.R (Kd.int .u8) 5 w' w.heap.size (fun k_ => some k_ ≠ (s_.1 : Value).ownBlock ∧ some k_ ≠ (s_.2.1 : Value).ownBlock ∧ some k_ ≠ (s_.2.2 : Value).ownBlock) (.slice Ao50 t683.length co50) t683) ∧ (Kd.R (Kd.int .u8) 5 w' w.heap.size (fun k_ => nb Ao50 t683.length co50 k_ ∧ some k_ ≠ (s_.2.1 : Value).ownBlock ∧ some k_ ≠ (s_.2.2 : Value).ownBlock) s_.1 t686) ∧ (Kd.R (Kd.int .u8) 5 w' w.heap.size (fun k_ => nb Ao50 t683.length co50 k_ ∧ some k_ ≠ (s_.1 : Value).ownBlock ∧ some k_ ≠ (s_.2.2 : Value).ownBlock) s_.2.1 t689) ∧ (Kd.R (Kd.int .u8) 5 w' w.heap.size (fun k_ => nb Ao50 t683.length co50 k_ ∧ some k_ ≠ (s_.1 : Value).ownBlock ∧ some k_ ≠ (s_.2.1 : Value).ownBlock) s_.2.2 y692) ∧ (w'.heap[gb666]? = some (.cells #[.int .i64 a0_1, .string a0_2, .int .i64 a0_3, .int .i64 a0_4, .int .i64 a0_5, .string a0_6, .int .i64 a0_7, .int .i64 a0_8] 25 (0, 0))) ∧ (Below w.heap.size w w')) ?_ ?_
   rotate_left
   ·
    intro hCont
    refine two_ (i := 3) (j := 12) (Ni := some 42) (Nj := some 51) (rl [7,1,4,3]) (rl [3,1,3,1,5,2]) rfl rfl rfl rfl (two_of HT_.out (by kernel_rfl)) (by decide) (by decide) (fun K hK => ?_) (fun K hK => ?_)
    ·
     skip
     refine goes_ Try.func89 (by kernel_rfl) rfl #[.slice Ao50 t683.length co50, .int .i64 a0_4] (by rfl) rfl rfl la_ ?_
     with_reducible refine (spec_PutWord.calls _ _ t683 a0_4 t686 _ (rC_ HO685) ?side2 A32.out).mono ?_
     (case side2 => exact (rL_ HO685))
     rintro e w52 ⟨v687, rfl, ho0, hb⟩
     refine ⟨_, rfl, ?_⟩
     have HO688 := am_ (Kd.R_lower (Kd.R_new' ho0 (Kd.R_lt (qR HO685))) (below_size (qB HB)))
     replace HO685 := eA_ HO685 ho0 hb
     replace BK666 := bK_ BK666 hb
     replace HB := bS_ HB hb
     (try clear hb ho0)
     obtain ⟨Ao53, co53, eo53⟩ := Kd.R_slice HO688.out
     (first | subst eo53 | (injection eo53 with f1_ f2_ f3_; have f4_ := f1_.symm; have f5_ := f3_.symm; clear f1_ f2_ f3_; subst f4_; subst f5_))
     refine hK.out _ _ (cz8 BK666.out) (fun hHeld => ?_)
     clear hK K
     refine nm_ (some 42) ?_
     refine two_ (i := 7) (j := 12) (Ni := some 46) (Nj := some 51) (rl [12,3]) (rl [7,1,5,2]) rfl rfl rfl rfl (two_of HT_.out (by kernel_rfl)) (by decide) (by decide) (fun K hK => ?_) (fun K hK => ?_)
     ·
      skip
      refine goes_ Try.func89 (by kernel_rfl) rfl #[.slice Ao53 t686.length co53, .int .i64 (wrap64 (Int.tdiv a0_5 256))] (by rfl) rfl rfl la_ ?_
      with_reducible refine (spec_PutWord.calls _ _ t686 (wrap64 (Int.tdiv a0_5 256)) t689 _ (rC_ HO688) ?side2 A33.out).mono ?_
      (case side2 => exact (rL_ HO688))
      rintro e w54 ⟨v690, rfl, ho0, hb⟩
      refine ⟨_, rfl, ?_⟩
      have HO691 := am_ (Kd.R_lower (Kd.R_new' (Kd.R_new' ho0 (Kd.R_lt (qR HO685))) (Kd.R_lt (qR HO688))) (below_size (qB HB)))
      replace HO685 := eA_ HO685 ho0 hb
      replace HO688 := eA_ HO688 ho0 hb
      replace BK666 := bK_ BK666 hb
      replace HB := bS_ HB hb
      (try clear hb ho0)
      refine hK.out _ _ (cz8 BK666.out) (fun hHeld => ?_)
      clear hK K
      refine nm_ (some 46) ?_
      refine on_ HT_ (i := 12) (N := some 51) (rl [13,2]) (fun K hK => ?_)
      refine l8s_ 5 51 ([(Int.tmod a0_5 256) % 256] : List Int) [.int .u8 ((Int.tmod a0_5 256) % 256)] ?_
      intro v693 w55 ho56 hb hg_ hnew_
      clear hg_ hnew_
      (first | rw [← Ny692.out] at ho56 | (simp only [Int.reduceToNat] at ho56; rw [← Ny692.out] at ho56))
      have HO694 := am_ (Kd.R_lower (Kd.R_new' (Kd.R_new' (Kd.R_new' ho56 (Kd.R_lt (qR HO685))) (Kd.R_lt (qR HO688))) (Kd.R_lt (qR HO691))) (below_size (qB HB)))
      replace HO685 := eA_ HO685 ho56 hb
      replace HO688 := eA_ HO688 ho56 hb
      replace HO691 := eA_ HO691 ho56 hb
      replace BK666 := bK_ BK666 hb
      replace HB := bS_ HB hb
      clear hb ho56
      refine hK.out _ _ (cz8 BK666.out) (fun hHeld => ?_)
      clear hK K
      refine nm_ (some 51) ?_
      exact nr_ (hCont (.slice Ao53 t686.length co53, v690, v693) _ ⟨hHeld, (xR1_ HO685), (xR1_ HO688), (xR1_ HO691), (xR1_ HO694), (qK BK666), (qB HB)⟩)
     ·
      skip
      refine l8s_ 5 51 ([(Int.tmod a0_5 256) % 256] : List Int) [.int .u8 ((Int.tmod a0_5 256) % 256)] ?_
      intro v693 w53 ho54 hb hg_ hnew_
      clear hg_ hnew_
      (first | rw [← Ny692.out] at ho54 | (simp only [Int.reduceToNat] at ho54; rw [← Ny692.out] at ho54))
      have HO694 := am_ (Kd.R_lower (Kd.R_new' (Kd.R_new' ho54 (Kd.R_lt (qR HO685))) (Kd.R_lt (qR HO688))) (below_size (qB HB)))
      replace HO685 := eA_ HO685 ho54 hb
      replace HO688 := eA_ HO688 ho54 hb
      replace BK666 := bK_ BK666 hb
      replace HB := bS_ HB hb
      clear hb ho54
      obtain ⟨Ao55, co55, eo55⟩ := Kd.R_slice HO688.out
      (first | subst eo55 | (injection eo55 with f1_ f2_ f3_; have f4_ := f1_.symm; have f5_ := f3_.symm; clear f1_ f2_ f3_; subst f4_; subst f5_))
      refine hK.out _ _ (cz8 BK666.out) (fun hHeld => ?_)
      clear hK K
      refine nm_ (some 51) ?_
      refine on_ HT_ (i := 7) (N := some 46) (rl [13,2]) (fun K hK => ?_)
      refine goes_ Try.func89 (by kernel_rfl) rfl #[.slice Ao55 t686.length co55, .int .i64 (wrap64 (Int.tdiv a0_5 256))] (by rfl) rfl rfl la_ ?_
      with_reducible refine (spec_PutWord.calls _ _ t686 (wrap64 (Int.tdiv a0_5 256)) t689 _ (rC_ HO688) ?side2 A33.out).mono ?_
      (case side2 => exact (rL_ HO688))
      rintro e w56 ⟨v690, rfl, ho0, hb⟩
      refine ⟨_, rfl, ?_⟩
      have HO691 := am_ (Kd.R_lower (Kd.R_new' (Kd.R_new' (Kd.R_new' ho0 (Kd.R_lt (qR HO685))) (Kd.R_lt (qR HO688))) (Kd.R_lt (qR HO694))) (below_size (qB HB)))
      replace HO685 := eA_ HO685 ho0 hb
      replace HO688 := eA_ HO688 ho0 hb
      replace HO694 := eA_ HO694 ho0 hb
      replace BK666 := bK_ BK666 hb
      replace HB := bS_ HB hb
      (try clear hb ho0)
      refine hK.out _ _ (cz8 BK666.out) (fun hHeld => ?_)
      clear hK K
      refine nm_ (some 46) ?_
      exact nr_ (hCont (.slice Ao55 t686.length co55, v690, v693) _ ⟨hHeld, (xR1_ HO685), (xR1_ HO688), (xR1_ HO691), (xR1_ HO694), (qK BK666), (qB HB)⟩)
    ·
     skip
     refine l8s_ 5 51 ([(Int.tmod a0_5 256) % 256] : List Int) [.int .u8 ((Int.tmod a0_5 256) % 256)] ?_
     intro v693 w52 ho53 hb hg_ hnew_
     clear hg_ hnew_
     (first | rw [← Ny692.out] at ho53 | (simp only [Int.reduceToNat] at ho53; rw [← Ny692.out] at ho53))
     have HO694 := am_ (Kd.R_lower (Kd.R_new' ho53 (Kd.R_lt (qR HO685))) (below_size (qB HB)))
     replace HO685 := eA_ HO685 ho53 hb
     replace BK666 := bK_ BK666 hb
     replace HB := bS_ HB hb
     clear hb ho53
     refine hK.out _ _ (cz8 BK666.out) (fun hHeld => ?_)
     clear hK K
     refine nm_ (some 51) ?_
     refine on_ HT_ (i := 3) (N := some 42) (rl [7,1,5,2]) (fun K hK => ?_)
     refine goes_ Try.func89 (by kernel_rfl) rfl #[.slice Ao50 t683.length co50, .int .i64 a0_4] (by rfl) rfl rfl la_ ?_
     with_reducible refine (spec_PutWord.calls _ _ t683 a0_4 t686 _ (rC_ HO685) ?side2 A32.out).mono ?_
     (case side2 => exact (rL_ HO685))
     rintro e w54 ⟨v687, rfl, ho0, hb⟩
     refine ⟨_, rfl, ?_⟩
     have HO688 := am_ (Kd.R_lower (Kd.R_new' (Kd.R_new' ho0 (Kd.R_lt (qR HO685))) (Kd.R_lt (qR HO694))) (below_size (qB HB)))
     replace HO685 := eA_ HO685 ho0 hb
     replace HO694 := eA_ HO694 ho0 hb
     replace BK666 := bK_ BK666 hb
     replace HB := bS_ HB hb
     (try clear hb ho0)
     obtain ⟨Ao55, co55, eo55⟩ := Kd.R_slice HO688.out
     (first | subst eo55 | (injection eo55 with f1_ f2_ f3_; have f4_ := f1_.symm; have f5_ := f3_.symm; clear f1_ f2_ f3_; subst f4_; subst f5_))
     refine hK.out _ _ (cz8 BK666.out) (fun hHeld => ?_)
     clear hK K
     refine nm_ (some 42) ?_
     refine on_ HT_ (i := 7) (N := some 46) (rl [13,2]) (fun K hK => ?_)
     refine goes_ Try.func89 (by kernel_rfl) rfl #[.slice Ao55 t686.length co55, .int .i64 (wrap64 (Int.tdiv a0_5 256))] (by rfl) rfl rfl la_ ?_
     with_reducible refine (spec_PutWord.calls _ _ t686 (wrap64 (Int.tdiv a0_5 256)) t689 _ (rC_ HO688) ?side2 A33.out).mono ?_
     (case side2 => exact (rL_ HO688))
     rintro e w56 ⟨v690, rfl, ho0, hb⟩
     refine ⟨_, rfl, ?_⟩
     have HO691 := am_ (Kd.R_lower (Kd.R_new' (Kd.R_new' (Kd.R_new' ho0 (Kd.R_lt (qR HO685))) (Kd.R_lt (qR HO694))) (Kd.R_lt (qR HO688))) (below_size (qB HB)))
     replace HO685 := eA_ HO685 ho0 hb
     replace HO694 := eA_ HO694 ho0 hb
     replace HO688 := eA_ HO688 ho0 hb
     replace BK666 := bK_ BK666 hb
     replace HB := bS_ HB hb
     (try clear hb ho0)
     refine hK.out _ _ (cz8 BK666.out) (fun hHeld => ?_)
     clear hK K
     refine nm_ (some 46) ?_
     exact nr_ (hCont (.slice Ao55 t686.length co55, v690, v693) _ ⟨hHeld, (xR1_ HO685), (xR1_ HO688), (xR1_ HO691), (xR1_ HO694), (qK BK666), (qB HB)⟩)
   rintro ⟨v687, v690, v693⟩ w57 ⟨hS_, h3_, h4_, h5_, h6_, h8_, h9_⟩
   (try dsimp only at h3_ h4_ h5_ h6_ h8_ h9_)
   have n3_ := am_ h3_
   have n4_ := am_ h4_
   have n5_ := am_ h5_
   have n6_ := am_ h6_
   have n8_ := am_ h8_
   have n9_ := am_ h9_
   clear HO685
   clear BK666
   clear HB
   clear h3_ h4_ h5_ h6_ h8_ h9_
   have HO685 := n3_
   have HO688 := n4_
   have HO691 := n5_
   have HO694 := n6_
   have BK666 := n8_
   have HB := n9_
   clear n3_ n4_ n5_ n6_ n8_ n9_
   have hHeld : w57.cell? ⟨gb666, 0, none⟩ = some (.int .i64 a0_1) ∧ w57.cell? ⟨gb666, 1, none⟩ = some (.string a0_2) ∧ w57.cell? ⟨gb666, 2, none⟩ = some (.int .i64 a0_3) ∧ w57.cell? ⟨gb666, 3, none⟩ = some (.int .i64 a0_4) ∧ w57.cell? ⟨gb666, 4, none⟩ = some (.int .i64 a0_5) ∧ w57.cell? ⟨gb666, 5, none⟩ = some (.string a0_6) ∧ w57.cell? ⟨gb666, 6, none⟩ = some (.int .i64 a0_7) ∧ w57.cell? ⟨gb666, 7, none⟩ = some (.int .i64 a0_8) := hS_
   obtain ⟨Ao59, co59, eo59⟩ := Kd.R_slice HO694.out
   (first | subst eo59 | (injection eo59 with f1_ f2_ f3_; have f4_ := f1_.symm; have f5_ := f3_.symm; clear f1_ f2_ f3_; subst f4_; subst f5_))
   refine norm_ (a' := ?_) ?_ ?_
   rotate_left
   ·
    simp only [putAll, Act.put, List.setIfInBounds_toArray, List.set_cons_zero, List.set_cons_succ]
    rfl
   refine on_ HT_ (i := 13) (N := some 52) (rl [14,1]) (fun K hK => ?_)
   refine Kd.R_append_rows_step (Kd.int .u8) (w0 := w) w.heap.size (by rfl) (.tmp 46) (.tmp 51) 22 5 (.int .u8 0) 1 rfl Try.underlying22 info5 rfl (by decide) (by omega) v690 t689 y692 _ _ _ (fun k_ => nb Ao59 y692.length co59 k_) (fun _ => False) rfl rfl ?aO ?aR (fun _ _ h => h) (fun _ h => h.elim) ?aF ?aB ?aS ?aL ?_
   (case aR => exact rC_ HO694)
   (case aB => exact (qB HB))
   (case aF => exact (fun k_ hk => Kd.fresh' (Kd.R_lt (qR HO694)) k_ hk))
   (case aO => exact (xR1_ HO691))
   (case aS => exact (below_size (qB HB)))
   (case aL => have := LMc34.out; omega)
   intro v696 w58 ho hb hg hat
   rw [← Ny695.out] at ho
   replace BK666 := kG_ BK666 HO691 hg
   replace HB := am_ (hb)
   have HO697 := am_ (ho)
   clear ho hb hg hat
   refine hK.out _ _ (cz8 BK666.out) (fun hHeld => ?_)
   clear hK K
   refine nm_ (some 52) ?_
   refine pq_ 14 4 HT_ (rl [15]) ?_
   refine done_ (done_of HT_.out (by kernel_rfl)) ?_
   try go_wp2
   replace HO697 := am_ (Kd.R_drew HO697.out)
   replace BK666 := am_ (blk_drew BK666.out)
   replace HB := am_ (below_drew1 HB.out)
   obtain ⟨Ao61, co61, eo61⟩ := Kd.R_slice HO697.out
   (first | subst eo61 | (injection eo61 with f1_ f2_ f3_; have f4_ := f1_.symm; have f5_ := f3_.symm; clear f1_ f2_ f3_; subst f4_; subst f5_))
   refine start_ (n := 11) (S := fun w' => w'.cell? ⟨gb666, 0, none⟩ = some (.int .i64 a0_1) ∧ w'.cell? ⟨gb666, 1, none⟩ = some (.string a0_2) ∧ w'.cell? ⟨gb666, 2, none⟩ = some (.int .i64 a0_3) ∧ w'.cell? ⟨gb666, 3, none⟩ = some (.int .i64 a0_4) ∧ w'.cell? ⟨gb666, 4, none⟩ = some (.int .i64 a0_5) ∧ w'.cell? ⟨gb666, 5, none⟩ = some (.string a0_6) ∧ w'.cell? ⟨gb666, 6, none⟩ = some (.int .i64 a0_7) ∧ w'.cell? ⟨gb666, 7, none⟩ = some (.int .i64 a0_8)) (ds := []) #[oo,oo,oo,oo,oo,oo,oo,oo,oo,oo,oo] (by kernel_rfl) rfl rfl (cz8 BK666.out) (fun hHeld => ?_); refine with_tabW spec_PutItem.tab7 spec_PutItem.bits7 (fun HT_ HW_ => ?_)
   generalize w58.drew = w60 at HO697 BK666 HB hHeld ⊢
   refine pq_ 0 53 HT_ #[ii,oo,oo,oo,oo,oo,oo,oo,oo,oo,oo] ?_
   refine pq_ 1 54 HT_ #[ii,ii,oo,oo,oo,oo,oo,oo,oo,oo,oo] ?_
   refine pq_ 4 57 HT_ #[ii,ii,oo,oo,ii,oo,oo,oo,oo,oo,oo] ?_
   refine pq_ 7 60 HT_ #[ii,ii,oo,oo,ii,oo,oo,ii,oo,oo,oo] ?_
   refine tz_ (i := 2) (N := some 55) HT_ HW_ #[ii,ii,ii,oo,ii,oo,oo,ii,oo,oo,oo] rfl rfl hHeld ?_
   refine tz_ (i := 5) (N := some 58) HT_ HW_ #[ii,ii,ii,oo,ii,ii,oo,ii,oo,oo,oo] rfl rfl hHeld ?_
   refine tz_ (i := 8) (N := some 61) HT_ HW_ #[ii,ii,ii,oo,ii,ii,oo,ii,ii,oo,oo] rfl rfl hHeld ?_
   refine on_ HT_ (i := 3) (N := some 56) #[ii,ii,ii,ii,ii,ii,oo,ii,ii,oo,oo] (fun K hK => ?_)
   refine goes_ Try.func88 (by kernel_rfl) rfl #[.slice Ao61 y695.length co61, .string a0_6] (by rfl) rfl rfl la_ ?_
   with_reducible refine (spec_PutText.calls kj5 _ _ y695 a0_6 t698 _ (rC_ HO697) ?side2 A35.out).mono ?_
   (case side2 => exact (rL_ HO697))
   rintro e w62 ⟨v699, rfl, ho0, hb⟩
   refine ⟨_, rfl, ?_⟩
   have HO700 := am_ (Kd.R_lower ho0 (below_size (qB HB)))
   replace BK666 := bK_ BK666 hb
   replace HB := bS_ HB hb
   (try clear hb ho0)
   obtain ⟨Ao63, co63, eo63⟩ := Kd.R_slice HO700.out
   (first | subst eo63 | (injection eo63 with f1_ f2_ f3_; have f4_ := f1_.symm; have f5_ := f3_.symm; clear f1_ f2_ f3_; subst f4_; subst f5_))
   refine hK.out _ _ (cz8 BK666.out) (fun hHeld => ?_)
   clear hK K
   refine nm_ (some 56) ?_
   refine on_ HT_ (i := 6) (N := some 59) #[ii,ii,ii,ii,ii,ii,ii,ii,ii,oo,oo] (fun K hK => ?_)
   refine goes_ Try.func89 (by kernel_rfl) rfl #[.slice Ao63 t698.length co63, .int .i64 a0_7] (by rfl) rfl rfl la_ ?_
   with_reducible refine (spec_PutWord.calls _ _ t698 a0_7 t701 _ (rC_ HO700) ?side2 A36.out).mono ?_
   (case side2 => exact (rL_ HO700))
   rintro e w64 ⟨v702, rfl, ho0, hb⟩
   refine ⟨_, rfl, ?_⟩
   have HO703 := am_ (Kd.R_lower ho0 (below_size (qB HB)))
   replace BK666 := bK_ BK666 hb
   replace HB := bS_ HB hb
   (try clear hb ho0)
   obtain ⟨Ao65, co65, eo65⟩ := Kd.R_slice HO703.out
   (first | subst eo65 | (injection eo65 with f1_ f2_ f3_; have f4_ := f1_.symm; have f5_ := f3_.symm; clear f1_ f2_ f3_; subst f4_; subst f5_))
   refine hK.out _ _ (cz8 BK666.out) (fun hHeld => ?_)
   clear hK K
   refine nm_ (some 59) ?_
   refine on_ HT_ (i := 9) (N := some 62) #[ii,ii,ii,ii,ii,ii,ii,ii,ii,ii,oo] (fun K hK => ?_)
   refine goes_ Try.func89 (by kernel_rfl) rfl #[.slice Ao65 t701.length co65, .int .i64 a0_8] (by rfl) rfl rfl la_ ?_
   with_reducible refine (spec_PutWord.calls _ _ t701 a0_8 t704 _ (rC_ HO703) ?side2 A37.out).mono ?_
   (case side2 => exact (rL_ HO703))
   rintro e w66 ⟨v705, rfl, ho0, hb⟩
   refine ⟨_, rfl, ?_⟩
   have HO706 := am_ (Kd.R_lower ho0 (below_size (qB HB)))
   replace BK666 := bK_ BK666 hb
   replace HB := bS_ HB hb
   (try clear hb ho0)
   refine hK.out _ _ (cz8 BK666.out) (fun hHeld => ?_)
   clear hK K
   refine nm_ (some 62) ?_
   refine pq_ 10 2 HT_ #[ii,ii,ii,ii,ii,ii,ii,ii,ii,ii,ii] ?_
   refine done_ (done_of HT_.out (by kernel_rfl)) ?_
   try go_wp2
   go_ret
   exact ⟨_, er_, (xR1_ HO706), qB HB⟩

end Go.Proofs.Ytiffahfpfgnjnaa.PFnCtls
