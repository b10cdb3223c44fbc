-- Written by a program of this session (myprint.py, over the kit's print): contracts of FnWays
import Derived.Test.YtiffahfpfgnjnaaPFnWaysx0
import Derived.Test.YtiffahfpfgnjnaaPFnWaysx1
import Derived.Test.YtiffahfpfgnjnaaPFnWaysx2
import Derived.Test.YtiffahfpfgnjnaaPFnWaysx4
import Derived.Test.YtiffahfpfgnjnaaPFnWaysx5
namespace Go.Proofs.Ytiffahfpfgnjnaa.PFnWays
open Go.RowKit Go.Proofs.YtiffahfpfgnjnaaW.PrintWords Go.Proofs.YtiffahfpfgnjnaaW.PrintLast Go.Proofs.YtiffahfpfgnjnaaW.PrintMore Go.Proofs.YtiffahfpfgnjnaaV
attribute [local go_sem] max2_int min2_int max_two min_two max_three min_three max_four min_four   -- for this text's walks alone
set_option linter.unusedVariables false
set_option linter.unusedSimpArgs false

attribute [local go_sem high] eqA25 eqA27
/-! ### spec_PutItem: function 20 -/
mutual
def spec_PutItem.j0 : Nat → Bool → Int → ByteArray → Int → Int → Int → ByteArray → Int → Int → Option (List Int)
 | 0, _, _, _, _, _, _, _, _, _ => none
 | k + 1, x25, x169000, x169001, x169002, x169003, x169004, x169005, x169006, x169007 => if x25 = true then (some (([] : List Int))) else ((spec_PutWord.f (([1] : List Int)) x169000).bind fun t176 => ((some (([(x169002) % 256] : List Int) : List Int)).bind fun y179 => (if t176.length + y179.length < 140737488355328 then ((spec_PutText.f k (t176 ++ y179) x169001).bind fun t185 => ((spec_PutWord.f t185 x169003).bind fun t188 => ((spec_PutWord.f t188 (wrap64 (Int.tdiv x169004 256))).bind fun t191 => ((some (([(Int.tmod x169004 256) % 256] : List Int) : List Int)).bind fun y194 => (if t191.length + y194.length < 140737488355328 then ((spec_PutText.f k (t191 ++ y194) x169005).bind fun t200 => ((spec_PutWord.f t200 x169006).bind fun t203 => ((spec_PutWord.f t203 x169007).bind fun t206 => (some t206)))) else (none)))))) else (none))))
def spec_PutItem.j1 : Nat → Bool → Int → ByteArray → Int → Int → Int → Int → Int → Option (List Int)
 | 0, _, _, _, _, _, _, _, _ => none
 | k + 1, x83, x210000, x210001, x210002, x210003, x210004, x210005, x210006 => if x83 = true then (some (([] : List Int))) else ((spec_PutWord.f (([2] : List Int)) x210000).bind fun t217 => ((some (([(x210003) % 256] : List Int) : List Int)).bind fun y220 => (if t217.length + y220.length < 140737488355328 then ((spec_PutText.f k (t217 ++ y220) x210001).bind fun t226 => ((spec_PutWord.f t226 x210002).bind fun t229 => ((spec_PutWord.f t229 (wrap64 (Int.tdiv x210004 256))).bind fun t232 => ((some (([(Int.tmod x210004 256) % 256] : List Int) : List Int)).bind fun y235 => (if t232.length + y235.length < 140737488355328 then ((spec_PutWord.f (t232 ++ y235) x210005).bind fun t241 => ((spec_PutWord.f t241 x210006).bind fun t244 => (some t244))) else (none)))))) else (none))))
end
def spec_PutItem.f (k : Nat) (a0_0 : Int) (a0_1 : Int) (a0_2 : ByteArray) (a0_3 : Int) (a0_4 : Int) (a0_5 : Int) (a0_6 : ByteArray) (a0_7 : Int) (a0_8 : Int) (a0_9 : Int) (a0_10 : ByteArray) (a0_11 : Int) (a0_12 : Int) (a0_13 : Int) (a0_14 : Int) (a0_15 : Int) : Option (List Int) := if a0_0 = 1 then ((spec_AskerOk.f k a0_1 a0_2 a0_3 a0_4 a0_5 a0_6 a0_7 a0_8).bind fun t169 => (if t169 = true then (if (!(a0_9 == 0) || (!(a0_10.toList == ([] : List UInt8)) || (!(a0_11 == 0) || (!(a0_12 == 0) || (!(a0_13 == 0) || (!(a0_14 == 0) || (!(a0_15 == 0)))))))) = true then (spec_PutItem.j0 k true a0_1 a0_2 a0_3 a0_4 a0_5 a0_6 a0_7 a0_8) else (spec_PutItem.j0 k (decide (a0_8 > 65535)) a0_1 a0_2 a0_3 a0_4 a0_5 a0_6 a0_7 a0_8)) else (spec_PutItem.j0 k true a0_1 a0_2 a0_3 a0_4 a0_5 a0_6 a0_7 a0_8))) else (if a0_0 = 2 then ((spec_LineOk.f k a0_9 a0_10 a0_11 a0_12 a0_13 a0_14 a0_15).bind fun t210 => (if t210 = true then (if (!(a0_1 == 0) || (!(a0_2.toList == ([] : List UInt8)) || (!(a0_3 == 0) || (!(a0_4 == 0) || (!(a0_5 == 0) || (!(a0_6.toList == ([] : List UInt8)) || (!(a0_7 == 0) || (!(a0_8 == 0))))))))) = true then (spec_PutItem.j1 k true a0_9 a0_10 a0_11 a0_12 a0_13 a0_14 a0_15) else (spec_PutItem.j1 k (decide (a0_15 > 65535)) a0_9 a0_10 a0_11 a0_12 a0_13 a0_14 a0_15)) else (spec_PutItem.j1 k true a0_9 a0_10 a0_11 a0_12 a0_13 a0_14 a0_15))) else (spec_PutItem.j1 k true a0_9 a0_10 a0_11 a0_12 a0_13 a0_14 a0_15))
theorem spec_PutItem.mono_l : ∀ k, (∀ y0 y1 y2 y3 y4 y5 y6 y7 y8, LeO (spec_PutItem.j0 k y0 y1 y2 y3 y4 y5 y6 y7 y8) (spec_PutItem.j0 (k + 1) y0 y1 y2 y3 y4 y5 y6 y7 y8)) ∧ (∀ y0 y1 y2 y3 y4 y5 y6 y7, LeO (spec_PutItem.j1 k y0 y1 y2 y3 y4 y5 y6 y7) (spec_PutItem.j1 (k + 1) y0 y1 y2 y3 y4 y5 y6 y7))
 | 0 => ⟨fun _ _ _ _ _ _ _ _ _ r h => by simp [spec_PutItem.j0] at h, fun _ _ _ _ _ _ _ _ r h => by simp [spec_PutItem.j1] at h⟩
 | k + 1 => by
  obtain ⟨ih0, ih1⟩ := spec_PutItem.mono_l k
  refine ⟨?_, ?_⟩
  ·
   intro y0 y1 y2 y3 y4 y5 y6 y7 y8
   unfold spec_PutItem.j0
   have m0 := @spec_AskerOk.mono; have m1 := @spec_LineOk.mono; have m2 := @spec_PutText.mono; exact mo_
  ·
   intro y0 y1 y2 y3 y4 y5 y6 y7
   unfold spec_PutItem.j1
   have m0 := @spec_AskerOk.mono; have m1 := @spec_LineOk.mono; have m2 := @spec_PutText.mono; exact mo_
theorem spec_PutItem.mono : ∀ a0 a1 a2 a3 a4 a5 a6 a7 a8 a9 a10 a11 a12 a13 a14 a15 k, LeO (spec_PutItem.f k a0 a1 a2 a3 a4 a5 a6 a7 a8 a9 a10 a11 a12 a13 a14 a15) (spec_PutItem.f (k + 1) a0 a1 a2 a3 a4 a5 a6 a7 a8 a9 a10 a11 a12 a13 a14 a15) := by
 intro a0 a1 a2 a3 a4 a5 a6 a7 a8 a9 a10 a11 a12 a13 a14 a15 k
 obtain ⟨ih0, ih1⟩ := spec_PutItem.mono_l k
 unfold spec_PutItem.f
 have m0 := @spec_AskerOk.mono; have m1 := @spec_LineOk.mono; have m2 := @spec_PutText.mono; exact mo_
def spec_PutItem.T5 : Bool × List (List Nat × List Nat) := (true, [([], []), ([], []), ([1], [1]), ([0, 2], [0, 2]), ([], []), ([4], [4]), ([5], [5]), ([6], [6]), ([3, 7, 3], [3, 7]), ([], []), ([9], [9]), ([8, 10, 8], [8, 10]), ([11, 11, 0, 1, 2, 3, 4, 5, 6, 7, 8, 9, 10, 11], [11])])
def spec_PutItem.B5 : List Nat := [0, 0, 2, 7, 0, 16, 48, 112, 255, 0, 512, 2047, 4095]
theorem spec_PutItem.tab5 : rtab .any (opsOf Try.f20 5) = spec_PutItem.T5 := by kernel_rfl
theorem spec_PutItem.bits5 : waitsOk spec_PutItem.T5.2 spec_PutItem.B5 = true := by kernel_rfl
def spec_PutItem.T6 : Bool × List (List Nat × List Nat) := (true, [([], []), ([], []), ([1], [1]), ([0, 2], [0, 2]), ([], []), ([4], [4]), ([5], [5]), ([3, 6, 3], [3, 6]), ([], []), ([8], [8]), ([9], [9]), ([10], [10]), ([11], [11]), ([7, 12, 7], [7, 12]), ([13, 13, 0, 1, 2, 3, 4, 5, 6, 7, 8, 9, 10, 11, 12, 13], [0, 13])])
def spec_PutItem.B6 : List Nat := [0, 0, 2, 7, 0, 16, 48, 127, 0, 256, 768, 1792, 3840, 8191, 16383]
theorem spec_PutItem.tab6 : rtab .any (opsOf Try.f20 6) = spec_PutItem.T6 := by kernel_rfl
theorem spec_PutItem.bits6 : waitsOk spec_PutItem.T6.2 spec_PutItem.B6 = true := by kernel_rfl
def spec_PutItem.T7 : Bool × List (List Nat × List Nat) := (true, [([], []), ([], []), ([1], [1]), ([0, 2], [0, 2]), ([], []), ([4], [4]), ([3, 5, 3], [3, 5]), ([], []), ([7], [7]), ([6, 8, 6], [6, 8]), ([9, 9, 0, 1, 2, 3, 4, 5, 6, 7, 8, 9], [9])])
def spec_PutItem.B7 : List Nat := [0, 0, 2, 7, 0, 16, 63, 0, 128, 511, 1023]
theorem spec_PutItem.tab7 : rtab .any (opsOf Try.f20 7) = spec_PutItem.T7 := by kernel_rfl
theorem spec_PutItem.bits7 : waitsOk spec_PutItem.T7.2 spec_PutItem.B7 = true := by kernel_rfl
def spec_PutItem.T11 : Bool × List (List Nat × List Nat) := (true, [([], []), ([], []), ([1], [1]), ([0, 2], [0, 2]), ([], []), ([4], [4]), ([5], [5]), ([6], [6]), ([3, 7, 3], [3, 7]), ([], []), ([9], [9]), ([8, 10, 8], [8, 10]), ([], []), ([12], [12]), ([11, 13, 11], [11, 13]), ([14, 14, 0, 1, 2, 3, 4, 5, 6, 7, 8, 9, 10, 11, 12, 13, 14], [14])])
def spec_PutItem.B11 : List Nat := [0, 0, 2, 7, 0, 16, 48, 112, 255, 0, 512, 2047, 0, 4096, 16383, 32767]
theorem spec_PutItem.tab11 : rtab .any (opsOf Try.f20 11) = spec_PutItem.T11 := by kernel_rfl
theorem spec_PutItem.bits11 : waitsOk spec_PutItem.T11.2 spec_PutItem.B11 = true := by kernel_rfl
def spec_PutItem.T12 : Bool × List (List Nat × List Nat) := (true, [([], []), ([], []), ([1], [1]), ([2], [2]), ([0, 3], [0, 3]), ([], []), ([5], [5]), ([6], [6]), ([7], [7]), ([8], [8]), ([4, 9, 4], [4, 9]), ([], []), ([11], [11]), ([10, 12, 10], [10, 12]), ([], []), ([14], [14]), ([13, 15, 13], [13, 15]), ([16, 16, 0, 1, 2, 3, 4, 5, 6, 7, 8, 9, 10, 11, 12, 13, 14, 15, 16], [16])])
def spec_PutItem.B12 : List Nat := [0, 0, 2, 6, 15, 0, 32, 96, 224, 480, 1023, 0, 2048, 8191, 0, 16384, 65535, 131071]
theorem spec_PutItem.tab12 : rtab .any (opsOf Try.f20 12) = spec_PutItem.T12 := by kernel_rfl
theorem spec_PutItem.bits12 : waitsOk spec_PutItem.T12.2 spec_PutItem.B12 = true := by kernel_rfl
set_option maxHeartbeats 8000000 in
set_option maxRecDepth 100000 in
theorem spec_PutItem.calls (k : Nat) (a0_0 : Int) (a0_1 : Int) (a0_2 : ByteArray) (a0_3 : Int) (a0_4 : Int) (a0_5 : Int) (a0_6 : ByteArray) (a0_7 : Int) (a0_8 : Int) (a0_9 : Int) (a0_10 : ByteArray) (a0_11 : Int) (a0_12 : Int) (a0_13 : Int) (a0_14 : Int) (a0_15 : Int) (r : List Int) (w : World) (h : spec_PutItem.f k a0_0 a0_1 a0_2 a0_3 a0_4 a0_5 a0_6 a0_7 a0_8 a0_9 a0_10 a0_11 a0_12 a0_13 a0_14 a0_15 = some r) :
  Calls Try.prog 20 #[.agg #[.int .i64 a0_0, .int .i64 a0_1, .string a0_2, .int .i64 a0_3, .int .i64 a0_4, .int .i64 a0_5, .string a0_6, .int .i64 a0_7, .int .i64 a0_8, .int .i64 a0_9, .string a0_10, .int .i64 a0_11, .int .i64 a0_12, .int .i64 a0_13, .int .i64 a0_14, .int .i64 a0_15]] w fun e w' => ∃ v0_ : Value, e = .returned (v0_) ∧ Kd.R (Kd.int .u8) 5 w' w.heap.size (fun _ => True) v0_ r ∧ Below w.heap.size w w' := by
 have hu29 := Try.underlying29
 have hu25 := Try.underlying25
 have hu27 := Try.underlying27
 have HB := Aside0.mk (Below.refl w.heap.size w)
 have H := h
 unfold spec_PutItem.f at H
 clear h
 have HC2 := Aside0.mk H
 clear H
 go_enter Try.func20, Try.ntmps20
 go_upto_if 9 with (first | ((with_reducible refine gate_dst (N := 1) rfl ?_); refine bx_ (N := 1) (cs := #[.int .i64 a0_0, .int .i64 a0_1, .string a0_2, .int .i64 a0_3, .int .i64 a0_4, .int .i64 a0_5, .string a0_6, .int .i64 a0_7, .int .i64 a0_8, .int .i64 a0_9, .string a0_10, .int .i64 a0_11, .int .i64 a0_12, .int .i64 a0_13, .int .i64 a0_14, .int .i64 a0_15]) (t := 29) ?_; intro gb167 hg w3 hbox hb; have BK167 := am_ (hbox); have GW167 := gA_ hg HB; have GE167 := GW167; have IGE167 := gI_ GE167; replace HB := bS_ HB hb; clear hb hbox hg; (try clear zK167); have zK167 := cz16 BK167.out; (try clear fK167); have fK167 := fz16 BK167.out))
 (try simp only [Act.put, List.setIfInBounds_toArray, List.set_cons_zero, List.set_cons_succ])
 have H := HC2.out
 clear HC2
 by_cases c5 : a0_0 = 1
 rotate_left
 ·
  rw [if_neg c5] at H
  have c5b0 : (a0_0 == 1) = false := beq_eq_false_iff_ne.mpr c5
  have c5b1 : (a0_0 != 1) = true := bne_iff_ne.mpr c5
  (first | rw [c5b0] | rw [c5b1] | (simp only [i64_w, i32_w]; rw [c5b0]) | skip)
  have HC67 := Aside0.mk H
  clear H
  (try clear zK167)
  have zK167 := cz16 BK167.out
  (try clear fK167)
  have fK167 := fz16 BK167.out
  go_upto_region 9 with (first | ((with_reducible refine gate_dst (N := 5) rfl ?_); refine bx_ (N := 5) (cs := #[.int .i64 0, .string (⟨#[]⟩ : ByteArray), .int .i64 0, .int .i64 0, .int .i64 0, .int .i64 0, .int .i64 0]) (t := 27) ?_; intro gb209 hg w69 hbox hb; have BK209 := am_ (hbox); have GW209 := gA_ hg HB; have GE209 := GW209; have IGE209 := gI_ GE209; replace HB := bS_ HB hb; have NB167_209 := am_ ((gN_ hg (qK BK167))); have NB209_167 := am_ ((gM_ hg (qK BK167))); replace BK167 := bK_ BK167 hb; clear hb hbox hg; have hnb70 := NB209_167.out; have hnc70 := NB167_209.out; (try clear zK209); have zK209 := cz7 BK209.out; (try clear fK209); have fK209 := fz7 BK209.out))
  (try simp only [Act.put, List.setIfInBounds_toArray, List.set_cons_zero, List.set_cons_succ])
  go_cut [83] (fun v83 wc => ∃ (kq : Nat) (x83_66 : Bool), v83 = .bool x83_66 ∧ Aside0 (spec_PutItem.j1 kq x83_66 a0_9 a0_10 a0_11 a0_12 a0_13 a0_14 a0_15 = some r) ∧ Aside0 (kq ≤ k) ∧ Aside0 (wc.heap[gb167]? = some (.cells #[.int .i64 a0_0, .int .i64 a0_1, .string a0_2, .int .i64 a0_3, .int .i64 a0_4, .int .i64 a0_5, .string a0_6, .int .i64 a0_7, .int .i64 a0_8, .int .i64 a0_9, .string a0_10, .int .i64 a0_11, .int .i64 a0_12, .int .i64 a0_13, .int .i64 a0_14, .int .i64 a0_15] 29 (0, 0))) ∧ Aside0 (wc.heap[gb209]? = some (.cells #[.int .i64 a0_9, .string a0_10, .int .i64 a0_11, .int .i64 a0_12, .int .i64 a0_13, .int .i64 a0_14, .int .i64 a0_15] 27 (0, 0))) ∧ Aside0 (Below w.heap.size w wc))
  case first =>
   have H := HC67.out
   clear HC67
   by_cases c72 : a0_0 = 2
   rotate_left
   ·
    rw [if_neg c72] at H
    have c72b0 : (a0_0 == 2) = false := beq_eq_false_iff_ne.mpr c72
    have c72b1 : (a0_0 != 2) = true := bne_iff_ne.mpr c72
    (first | rw [c72b0] | rw [c72b1] | (simp only [i64_w, i32_w]; rw [c72b0]) | skip)
    have H' := Aside0.mk H
    clear H
    have hnb91 := NB167_209.out
    have hnc91 := NB209_167.out
    (try clear zK167)
    have zK167 := cz16 BK167.out
    (try clear fK167)
    have fK167 := fz16 BK167.out
    go_wp2
    go_meet
    case rel => exact ⟨_, (true), eqq_, H', ⟨by first | omega | exact Nat.le_refl _⟩, ⟨by (with_reducible repeat (first | refine blk_drewN ?_ _ | refine blk_drew ?_ | refine blk_alloc ?_ _)); refine blk_far7 ?_ NB167_209.out; exact qK BK167⟩, ⟨by (with_reducible repeat (first | refine blk_drewN ?_ _ | refine blk_drew ?_ | refine blk_alloc ?_ _)); refine blk_all7 (show _ = some (Go.Obj.cells #[.int .i64 0, .string (⟨#[]⟩ : ByteArray), .int .i64 0, .int .i64 0, .int .i64 0, .int .i64 0, .int .i64 0] _ (0, 0)) from ?_); exact qK BK209⟩, ⟨qB HB⟩⟩
   rw [if_pos c72] at H
   have c72b0 : (a0_0 == 2) = true := beq_iff_eq.mpr c72
   have c72b1 : (a0_0 != 2) = false := bne_eq_false_iff_eq.mpr c72
   clear c72
   (first | rw [c72b0] | rw [c72b1] | (simp only [i64_w, i32_w]; rw [c72b0]) | skip)
   replace H := bd_ H
   obtain ⟨t210, A73, H⟩ := H
   by_cases c74 : t210 = true
   rotate_left
   ·
    replace c74 := Bool.eq_false_iff.mpr c74
    subst c74
    rw [if_neg (show ¬ (false = true) by decide)] at H
    have H' := Aside0.mk H
    clear H
    have hnb87 := NB167_209.out
    have hnc87 := NB209_167.out
    (try clear zK167)
    have zK167 := cz16 BK167.out
    (try clear fK167)
    have fK167 := fz16 BK167.out
    (try clear zK209)
    have zK209 := cz7 BK209.out
    (try clear fK209)
    have fK209 := fz7 BK209.out
    go_wp2_with (first | (go_at_call 19; (with_reducible refine (spec_LineOk.calls k a0_9 a0_10 a0_11 a0_12 a0_13 a0_14 a0_15 false _ A73.out).mono ?_); rintro e w90 ⟨rfl, hb⟩; replace BK167 := am_ (blk_below (g := gb167) (o := .cells #[.int .i64 a0_0, .int .i64 a0_1, .string a0_2, .int .i64 a0_3, .int .i64 a0_4, .int .i64 a0_5, .string a0_6, .int .i64 a0_7, .int .i64 a0_8, .int .i64 a0_9, .string a0_10, .int .i64 a0_11, .int .i64 a0_12, .int .i64 a0_13, .int .i64 a0_14, .int .i64 a0_15] 29 (0, 0)) (by (with_reducible repeat (first | refine blk_drewN ?_ _ | refine blk_drew ?_ | refine blk_alloc ?_ _)); refine blk_far7 ?_ NB167_209.out; exact qK BK167) hb); replace BK209 := am_ (blk_below (g := gb209) (o := .cells #[.int .i64 a0_9, .string a0_10, .int .i64 a0_11, .int .i64 a0_12, .int .i64 a0_13, .int .i64 a0_14, .int .i64 a0_15] 27 (0, 0)) (by exact blk_all7 (qK BK209)) hb); replace HB := bS_ HB hb; (try clear hb)))
    go_meet
    case rel => exact ⟨_, (true), eqq_, H', ⟨by first | omega | exact Nat.le_refl _⟩, ⟨qK BK167⟩, ⟨qK BK209⟩, ⟨qB HB⟩⟩
   subst c74
   rw [if_pos rfl] at H
   by_cases c75 : (!(a0_1 == 0) || (!(a0_2.toList == ([] : List UInt8)) || (!(a0_3 == 0) || (!(a0_4 == 0) || (!(a0_5 == 0) || (!(a0_6.toList == ([] : List UInt8)) || (!(a0_7 == 0) || (!(a0_8 == 0))))))))) = true
   ·
    rw [if_pos c75] at H
    have c75b0 : (!(a0_1 == 0) || (!(a0_2.toList == ([] : List UInt8)) || (!(a0_3 == 0) || (!(a0_4 == 0) || (!(a0_5 == 0) || (!(a0_6.toList == ([] : List UInt8)) || (!(a0_7 == 0) || (!(a0_8 == 0))))))))) = true := c75
    (try (have c75b0e := c75b0; simp only [beq_nil, bne_nil] at c75b0e))
    clear c75
    have H' := Aside0.mk H
    clear H
    have hnb76 := NB167_209.out
    have hnc76 := NB209_167.out
    (try clear zK167)
    have zK167 := cz16 BK167.out
    (try clear fK167)
    have fK167 := fz16 BK167.out
    (try clear zK209)
    have zK209 := cz7 BK209.out
    (try clear fK209)
    have fK209 := fz7 BK209.out
    go_wp2_with (first | (go_at_call 19; (with_reducible refine (spec_LineOk.calls k a0_9 a0_10 a0_11 a0_12 a0_13 a0_14 a0_15 true _ A73.out).mono ?_); rintro e w79 ⟨rfl, hb⟩; replace BK167 := am_ (blk_below (g := gb167) (o := .cells #[.int .i64 a0_0, .int .i64 a0_1, .string a0_2, .int .i64 a0_3, .int .i64 a0_4, .int .i64 a0_5, .string a0_6, .int .i64 a0_7, .int .i64 a0_8, .int .i64 a0_9, .string a0_10, .int .i64 a0_11, .int .i64 a0_12, .int .i64 a0_13, .int .i64 a0_14, .int .i64 a0_15] 29 (0, 0)) (by (with_reducible repeat (first | refine blk_drewN ?_ _ | refine blk_drew ?_ | refine blk_alloc ?_ _)); refine blk_far7 ?_ NB167_209.out; exact qK BK167) hb); replace BK209 := am_ (blk_below (g := gb209) (o := .cells #[.int .i64 a0_9, .string a0_10, .int .i64 a0_11, .int .i64 a0_12, .int .i64 a0_13, .int .i64 a0_14, .int .i64 a0_15] 27 (0, 0)) (by exact blk_all7 (qK BK209)) hb); replace HB := bS_ HB hb; (try clear hb); (try clear zK167); have zK167 := cz16 BK167.out; (try clear fK167); have fK167 := fz16 BK167.out))
    go_meet
    case rel => exact ⟨_, (true), eqq_, H', ⟨by first | omega | exact Nat.le_refl _⟩, ⟨qK BK167⟩, ⟨qK BK209⟩, ⟨qB HB⟩⟩
   rw [if_neg c75] at H
   have c75b0 : (!(a0_1 == 0) || (!(a0_2.toList == ([] : List UInt8)) || (!(a0_3 == 0) || (!(a0_4 == 0) || (!(a0_5 == 0) || (!(a0_6.toList == ([] : List UInt8)) || (!(a0_7 == 0) || (!(a0_8 == 0))))))))) = false := by simpa using c75
   (try (have c75b0e := c75b0; simp only [beq_nil, bne_nil] at c75b0e))
   clear c75
   have H' := Aside0.mk H
   clear H
   have hnb81 := NB167_209.out
   have hnc81 := NB209_167.out
   (try clear zK167)
   have zK167 := cz16 BK167.out
   (try clear fK167)
   have fK167 := fz16 BK167.out
   (try clear zK209)
   have zK209 := cz7 BK209.out
   (try clear fK209)
   have fK209 := fz7 BK209.out
   go_wp2_with (first | (go_at_call 19; (with_reducible refine (spec_LineOk.calls k a0_9 a0_10 a0_11 a0_12 a0_13 a0_14 a0_15 true _ A73.out).mono ?_); rintro e w84 ⟨rfl, hb⟩; replace BK167 := am_ (blk_below (g := gb167) (o := .cells #[.int .i64 a0_0, .int .i64 a0_1, .string a0_2, .int .i64 a0_3, .int .i64 a0_4, .int .i64 a0_5, .string a0_6, .int .i64 a0_7, .int .i64 a0_8, .int .i64 a0_9, .string a0_10, .int .i64 a0_11, .int .i64 a0_12, .int .i64 a0_13, .int .i64 a0_14, .int .i64 a0_15] 29 (0, 0)) (by (with_reducible repeat (first | refine blk_drewN ?_ _ | refine blk_drew ?_ | refine blk_alloc ?_ _)); refine blk_far7 ?_ NB167_209.out; exact qK BK167) hb); replace BK209 := am_ (blk_below (g := gb209) (o := .cells #[.int .i64 a0_9, .string a0_10, .int .i64 a0_11, .int .i64 a0_12, .int .i64 a0_13, .int .i64 a0_14, .int .i64 a0_15] 27 (0, 0)) (by exact blk_all7 (qK BK209)) hb); replace HB := bS_ HB hb; (try clear hb); (try clear zK167); have zK167 := cz16 BK167.out; (try clear fK167); have fK167 := fz16 BK167.out; (try clear zK209); have zK209 := cz7 BK209.out; (try clear fK209); have fK209 := fz7 BK209.out))
   go_meet
   case rel => exact ⟨_, (decide (a0_15 > 65535)), eqq_, H', ⟨by first | omega | exact Nat.le_refl _⟩, ⟨qK BK167⟩, ⟨qK BK209⟩, ⟨qB HB⟩⟩
  case rest =>
   clear HC67
   try clear p2
   try clear c3
   try clear c5
   try clear c5b0
   try clear c5b1
   try clear c7
   try clear c8
   try clear c9
   try clear c30
   try clear c34
   try clear c70
   try clear c72
   try clear c72b0
   try clear c72b1
   try clear c74
   try clear c75
   try clear c75b0
   try clear c76
   try clear c81
   try clear c87
   try clear c88
   try clear c89
   try clear c91
   (try clear zK167)
   (try clear zK209)
   (try clear zK167)
   (try clear zK209)
   (try clear zK167)
   (try clear zK167)
   (try clear zK209)
   (try clear zK167)
   (try clear zK209)
   (try clear zK167)
   (try clear zK209)
   (try clear zK167)
   (try clear fK167)
   (try clear fK209)
   (try clear fK167)
   (try clear fK209)
   (try clear fK167)
   (try clear fK167)
   (try clear fK209)
   (try clear fK167)
   (try clear fK209)
   (try clear fK167)
   (try clear fK209)
   (try clear fK167)
   obtain ⟨kq, x83_66, rfl, HA, HJ66, BK167, BK209, HB⟩ := hcut
   cases kq with
   | zero => exact absurd HA.out (by simp [spec_PutItem.j1])
   | succ kj66 =>
    have H := HA.out
    clear HA
    simp only [spec_PutItem.j1] at H
    by_cases c93 : x83_66 = true
    ·
     subst c93
     rw [if_pos rfl] at H
     obtain ⟨y211, hy211⟩ : ∃ y_ : List Int, y_ = (([] : List Int)) := ⟨_, rfl⟩
     rw [← hy211] at H
     have Ny211 := Aside0.mk hy211
     clear hy211
     obtain rfl := Option.some.inj H
     go_wp2_with (first | ((with_reducible refine gate_dst (N := 84) rfl ?_); refine Kd.R_lit (Kd.int .u8) _ 5 ?hg (N := 84) ?hd (xs := ([] : List Int)) (inner := []) (ok := fun _ => True) (okp := fun _ => True) ?hr ?hp (fun _ hk => hk) trivial (Below.refl _ _) (Nat.le_refl _) (by simp) ?_; (case hd => rfl); (case hg => rfl); (case hr => first | (go_simp; done) | (go_simp; rfl)); (case hp => exact (Reps.none _ _)); intro v212 w94 ho95 hb hg_ hnew_; clear hg_ hnew_; (first | rw [← Ny211.out] at ho95 | (simp only [Int.reduceToNat] at ho95; rw [← Ny211.out] at ho95)); have HO213 := am_ (Kd.R_lower ho95 (below_size (qB HB))); replace BK167 := bK_ BK167 hb; replace BK209 := bK_ BK209 hb; replace HB := bS_ HB hb; clear hb ho95))
     go_ret
     exact ⟨_, er_, qR HO213, qB HB⟩
    replace c93 := Bool.eq_false_iff.mpr c93
    subst c93
    rw [if_neg (show ¬ (false = true) by decide)] at H
    obtain ⟨y214, hy214⟩ : ∃ y_ : List Int, y_ = (([2] : List Int)) := ⟨_, rfl⟩
    rw [← hy214] at H
    have Ny214 := Aside0.mk hy214
    clear hy214
    replace H := bd_ H
    obtain ⟨t217, A96, H⟩ := H
    obtain ⟨y220, hy220⟩ : ∃ y_ : List Int, y_ = (([(a0_12) % 256] : List Int)) := ⟨_, rfl⟩
    replace H := mk_ H hy220
    (try dsimp only at H)
    have Ny220 := Aside0.mk hy220
    clear hy220
    by_cases c97 : t217.length + y220.length < 140737488355328
    case neg => exact nn_ c97 H
    rw [if_pos c97] at H
    have LMc97 := Aside0.mk c97
    clear c97
    obtain ⟨y223, hy223⟩ : ∃ y_ : List Int, y_ = (t217 ++ y220) := ⟨_, rfl⟩
    replace H : ((spec_PutText.f kj66 y223 a0_10).bind fun t226 => ((spec_PutWord.f t226 a0_11).bind fun t229 => ((spec_PutWord.f t229 (wrap64 (Int.tdiv a0_13 256))).bind fun t232 => ((some (([(Int.tmod a0_13 256) % 256] : List Int) : List Int)).bind fun y235 => (if t232.length + y235.length < 140737488355328 then ((spec_PutWord.f (t232 ++ y235) a0_14).bind fun t241 => ((spec_PutWord.f t241 a0_15).bind fun t244 => (some t244))) else (none)))))) = some r := by first | (rw [hy223]; with_reducible exact H) | (have H2_ := (Option.bind_some _ _).symm.trans H; rw [hy223]; with_reducible exact H2_) | (have H2_ := (Option.bind_some _ _).symm.trans H; with_reducible exact H2_) | with_reducible exact H | (rw [hy223]; exact H) | exact H
    have Ny223 := Aside0.mk hy223
    clear hy223
    replace H := bd_ H
    obtain ⟨t226, A98, H⟩ := H
    replace H := bd_ H
    obtain ⟨t229, A99, H⟩ := H
    replace H := bd_ H
    obtain ⟨t232, A100, H⟩ := H
    obtain ⟨y235, hy235⟩ : ∃ y_ : List Int, y_ = (([(Int.tmod a0_13 256) % 256] : List Int)) := ⟨_, rfl⟩
    replace H := mk_ H hy235
    (try dsimp only at H)
    have Ny235 := Aside0.mk hy235
    clear hy235
    by_cases c101 : t232.length + y235.length < 140737488355328
    case neg => exact nn_ c101 H
    rw [if_pos c101] at H
    have LMc101 := Aside0.mk c101
    clear c101
    obtain ⟨y238, hy238⟩ : ∃ y_ : List Int, y_ = (t232 ++ y235) := ⟨_, rfl⟩
    replace H : ((spec_PutWord.f y238 a0_14).bind fun t241 => ((spec_PutWord.f t241 a0_15).bind fun t244 => (some t244))) = some r := by first | (rw [hy238]; with_reducible exact H) | (have H2_ := (Option.bind_some _ _).symm.trans H; rw [hy238]; with_reducible exact H2_) | (have H2_ := (Option.bind_some _ _).symm.trans H; with_reducible exact H2_) | with_reducible exact H | (rw [hy238]; exact H) | exact H
    have Ny238 := Aside0.mk hy238
    clear hy238
    replace H := bd_ H
    obtain ⟨t241, A102, H⟩ := H
    replace H := bd_ H
    obtain ⟨t244, A103, H⟩ := H
    obtain rfl := Option.some.inj H
    try go_wp2
    replace BK167 := am_ (blk_drew BK167.out)
    replace BK209 := am_ (blk_drew BK209.out)
    replace HB := am_ (below_drew1 HB.out)
    refine start_ (n := 16) (S := fun w' => w'.cell? ⟨gb209, 0, none⟩ = some (.int .i64 a0_9) ∧ w'.cell? ⟨gb209, 1, none⟩ = some (.string a0_10) ∧ w'.cell? ⟨gb209, 2, none⟩ = some (.int .i64 a0_11) ∧ w'.cell? ⟨gb209, 3, none⟩ = some (.int .i64 a0_12) ∧ w'.cell? ⟨gb209, 4, none⟩ = some (.int .i64 a0_13) ∧ w'.cell? ⟨gb209, 5, none⟩ = some (.int .i64 a0_14) ∧ w'.cell? ⟨gb209, 6, none⟩ = some (.int .i64 a0_15)) (ds := []) (rl [0,16]) (by kernel_rfl) rfl rfl (cz7 BK209.out) (fun hHeld => ?_); refine with_tabW spec_PutItem.tab11 spec_PutItem.bits11 (fun HT_ HW_ => ?_)
    generalize wc.drew = w104 at BK167 BK209 HB hHeld ⊢
    refine pz_ (i := 1) (N := some 86) HT_ (rl [0,1,1,14]) rfl rfl ?_
    refine pz_ (i := 4) (N := some 89) HT_ (rl [0,1,1,2,1,11]) rfl rfl ?_
    refine pz_ (i := 9) (N := some 94) HT_ (rl [0,1,1,2,1,4,1,6]) rfl rfl ?_
    refine pz_ (i := 12) (N := some 97) HT_ (rl [0,1,1,2,1,4,1,2,1,3]) rfl rfl ?_
    refine tz_ (i := 2) (N := some 87) HT_ HW_ (rl [0,1,2,1,1,4,1,2,1,3]) rfl rfl hHeld ?_
    refine tz_ (i := 5) (N := some 90) HT_ HW_ (rl [0,1,2,1,2,3,1,2,1,3]) rfl rfl hHeld ?_
    refine pz_ (i := 6) (N := some 91) HT_ (rl [0,1,2,1,3,2,1,2,1,3]) rfl rfl ?_
    refine tz_ (i := 10) (N := some 95) HT_ HW_ (rl [0,1,2,1,3,2,2,1,1,3]) rfl rfl hHeld ?_
    refine tz_ (i := 13) (N := some 98) HT_ HW_ (rl [0,1,2,1,3,2,2,1,2,2]) rfl rfl hHeld ?_
    refine join_ (σ := Value × Value × Value) 4 (rl [8,1,2,1,2,2]) (fun s_ => [(85, s_.1), (88, s_.2.1), (92, s_.2.2)]) (fun s_ w' => (w'.cell? ⟨gb209, 0, none⟩ = some (.int .i64 a0_9) ∧ w'.cell? ⟨gb209, 1, none⟩ = some (.string a0_10) ∧ w'.cell? ⟨gb209, 2, none⟩ = some (.int .i64 a0_11) ∧ w'.cell? ⟨gb209, 3, none⟩ = some (.int .i64 a0_12) ∧ w'.cell? ⟨gb209, 4, none⟩ = some (.int .i64 a0_13) ∧ w'.cell? ⟨gb209, 5, none⟩ = some (.int .i64 a0_14) ∧ w'.cell? ⟨gb209, 6, none⟩ = some (.int .i64 a0_15)) ∧ (Kd.R (Kd.int .u8) 5 w' w.heap.size (fun k_ => some k_ ≠ (s_.2.1 : Value).ownBlock ∧ some k_ ≠ (s_.2.2 : Value).ownBlock) s_.1 y214) ∧ (Kd.R (Kd.int .u8) 5 w' w.heap.size (fun k_ => some k_ ≠ (s_.1 : Value).ownBlock ∧ some k_ ≠ (s_.2.2 : Value).ownBlock) s_.2.1 t217) ∧ (Kd.R (Kd.int .u8) 5 w' w.heap.size (fun k_ => some k_ ≠ (s_.1 : Value).ownBlock ∧ some k_ ≠ (s_.2.1 : Value).ownBlock) s_.2.2 y220) ∧ (w'.heap[gb167]? = some (.cells #[.int .i64 a0_0, .int .i64 a0_1, .string a0_2, .int .i64 a0_3, .int .i64 a0_4, .int .i64 a0_5, .string a0_6, .int .i64 a0_7, .int .i64 a0_8, .int .i64 a0_9, .string a0_10, .int .i64 a0_11, .int .i64 a0_12, .int .i64 a0_13, .int .i64 a0_14, .int .i64 a0_15] 29 (0, 0))) ∧ (w'.heap[gb209]? = some (.cells #[.int .i64 a0_9, .string a0_10, .int .i64 a0_11, .int .i64 a0_12, .int .i64 a0_13, .int .i64 a0_14, .int .i64 a0_15] 27 (0, 0))) ∧ (Below w.heap.size w w')) ?_ ?_
    rotate_left
    ·
     intro hCont
     refine two_ (i := 0) (j := 7) (Ni := some 85) (Nj := some 92) (rl [3,1,3,2,2,1,2,2]) (rl [0,1,2,1,4,1,2,1,2,2]) rfl rfl rfl rfl (two_of HT_.out (by kernel_rfl)) (by decide) (by decide) (fun K hK => ?_) (fun K hK => ?_)
     ·
      skip
      refine Kd.R_lit_step (Kd.int .u8) _ 5 ?hg (N := 85) ?hd (xs := ([2] : List Int)) (inner := [.int .u8 2]) (ok := fun _ => True) (okp := fun _ => True) ?hr ?hp (fun _ hk => hk) trivial (Below.refl _ _) (Nat.le_refl _) (by simp) ?_; (case hd => rfl); (case hg => rfl); (case hr => first | (go_simp; done) | (go_simp; rfl)); (case hp => exact (Reps.one (show Kd.M (Kd.int .u8) _ _ _ 2 [.int .u8 2] from rfl) (Reps.none _ _)))
      intro v215 w105 ho106 hb hg_ hnew_
      clear hg_ hnew_
      (first | rw [← Ny214.out] at ho106 | (simp only [Int.reduceToNat] at ho106; rw [← Ny214.out] at ho106))
      have HO216 := am_ (Kd.R_lower ho106 (below_size (qB HB)))
      replace BK167 := bK_ BK167 hb
      replace BK209 := bK_ BK209 hb
      replace HB := bS_ HB hb
      clear hb ho106
      obtain ⟨Ao107, co107, eo107⟩ := Kd.R_slice HO216.out
      (first | subst eo107 | (injection eo107 with f1_ f2_ f3_; have f4_ := f1_.symm; have f5_ := f3_.symm; clear f1_ f2_ f3_; subst f4_; subst f5_))
      refine hK.out _ _ (cz7 BK209.out) (fun hHeld => ?_)
      clear hK K
      refine norm_ (a' := ?_) ?_ ?_
      rotate_left
      ·
       show Act.put _ (some 85) _ = _
       exact ap_
      refine two_ (i := 3) (j := 7) (Ni := some 88) (Nj := some 92) (rl [7,2,2,1,2,2]) (rl [3,1,4,1,2,1,2,2]) rfl rfl rfl rfl (two_of HT_.out (by kernel_rfl)) (by decide) (by decide) (fun K hK => ?_) (fun K hK => ?_)
      ·
       skip
       refine goes_ Try.func89 (by kernel_rfl) rfl #[.slice Ao107 y214.length co107, .int .i64 a0_9] (by rfl) rfl rfl la_ ?_
       with_reducible refine (spec_PutWord.calls _ _ y214 a0_9 t217 _ ?side1 ?side2 A96.out).mono ?_
       (case side1 => exact qC ((Kd.R_reads' HO216.out).2.2))
       (case side2 => exact (Kd.R_reads' HO216.out).2.1)
       rintro e w108 ⟨v218, rfl, ho0, hb⟩
       refine ⟨_, rfl, ?_⟩
       have HO219 := am_ (Kd.R_lower (Kd.R_new' ho0 (Kd.R_lt (qR HO216))) (below_size (qB HB)))
       replace HO216 := eA_ HO216 ho0 hb
       replace BK167 := bK_ BK167 hb
       replace BK209 := bK_ BK209 hb
       replace HB := bS_ HB hb
       (try clear hb ho0)
       refine hK.out _ _ (cz7 BK209.out) (fun hHeld => ?_)
       clear hK K
       refine norm_ (a' := ?_) ?_ ?_
       rotate_left
       ·
        show Act.put _ (some 88) _ = _
        exact ap_
       refine one_ (i := 7) (N := some 92) (rl [8,1,2,1,2,2]) rfl rfl (one_of HT_.out (by kernel_rfl)) (by decide) (fun K hK => ?_)
       refine Kd.R_lit_step (Kd.int .u8) _ 5 ?hg (N := 92) ?hd (xs := ([(a0_12) % 256] : List Int)) (inner := [.int .u8 ((a0_12) % 256)]) (ok := fun _ => True) (okp := fun _ => True) ?hr ?hp (fun _ hk => hk) trivial (Below.refl _ _) (Nat.le_refl _) (by simp) ?_; (case hd => rfl); (case hg => rfl); (case hr => first | (go_simp; done) | (go_simp; rfl)); (case hp => exact (Reps.one (show Kd.M (Kd.int .u8) _ _ _ ((a0_12) % 256) [.int .u8 ((a0_12) % 256)] from rfl) (Reps.none _ _)))
       intro v221 w109 ho110 hb hg_ hnew_
       clear hg_ hnew_
       (first | rw [← Ny220.out] at ho110 | (simp only [Int.reduceToNat] at ho110; rw [← Ny220.out] at ho110))
       have HO222 := am_ (Kd.R_lower (Kd.R_new' (Kd.R_new' ho110 (Kd.R_lt (qR HO216))) (Kd.R_lt (qR HO219))) (below_size (qB HB)))
       replace HO216 := eA_ HO216 ho110 hb
       replace HO219 := eA_ HO219 ho110 hb
       replace BK167 := bK_ BK167 hb
       replace BK209 := bK_ BK209 hb
       replace HB := bS_ HB hb
       clear hb ho110
       refine hK.out _ _ (cz7 BK209.out) (fun hHeld => ?_)
       clear hK K
       refine norm_ (a' := ?_) ?_ ?_
       rotate_left
       ·
        show Act.put _ (some 92) _ = _
        exact ap_
       exact norm_ (by simp only [putAll, Act.put, List.setIfInBounds_toArray, List.set_cons_zero, List.set_cons_succ]) (hCont (.slice Ao107 y214.length co107, v218, v221) _ ⟨hHeld, (tR (Kd.R_mono HO216.out (fun _ hk => ⟨hk.1.2, hk.2⟩))), (tR (Kd.R_mono HO219.out (fun _ hk => ⟨hk.1.2, hk.2⟩))), (tR (Kd.R_mono HO222.out (fun _ hk => ⟨hk.1.2, hk.2⟩))), (qK BK167), (qK BK209), (qB HB)⟩)
      ·
       skip
       refine Kd.R_lit_step (Kd.int .u8) _ 5 ?hg (N := 92) ?hd (xs := ([(a0_12) % 256] : List Int)) (inner := [.int .u8 ((a0_12) % 256)]) (ok := fun _ => True) (okp := fun _ => True) ?hr ?hp (fun _ hk => hk) trivial (Below.refl _ _) (Nat.le_refl _) (by simp) ?_; (case hd => rfl); (case hg => rfl); (case hr => first | (go_simp; done) | (go_simp; rfl)); (case hp => exact (Reps.one (show Kd.M (Kd.int .u8) _ _ _ ((a0_12) % 256) [.int .u8 ((a0_12) % 256)] from rfl) (Reps.none _ _)))
       intro v221 w107 ho108 hb hg_ hnew_
       clear hg_ hnew_
       (first | rw [← Ny220.out] at ho108 | (simp only [Int.reduceToNat] at ho108; rw [← Ny220.out] at ho108))
       have HO222 := am_ (Kd.R_lower (Kd.R_new' ho108 (Kd.R_lt (qR HO216))) (below_size (qB HB)))
       replace HO216 := eA_ HO216 ho108 hb
       replace BK167 := bK_ BK167 hb
       replace BK209 := bK_ BK209 hb
       replace HB := bS_ HB hb
       clear hb ho108
       obtain ⟨Ao109, co109, eo109⟩ := Kd.R_slice HO216.out
       (first | subst eo109 | (injection eo109 with f1_ f2_ f3_; have f4_ := f1_.symm; have f5_ := f3_.symm; clear f1_ f2_ f3_; subst f4_; subst f5_))
       refine hK.out _ _ (cz7 BK209.out) (fun hHeld => ?_)
       clear hK K
       refine norm_ (a' := ?_) ?_ ?_
       rotate_left
       ·
        show Act.put _ (some 92) _ = _
        exact ap_
       refine one_ (i := 3) (N := some 88) (rl [8,1,2,1,2,2]) rfl rfl (one_of HT_.out (by kernel_rfl)) (by decide) (fun K hK => ?_)
       refine goes_ Try.func89 (by kernel_rfl) rfl #[.slice Ao109 y214.length co109, .int .i64 a0_9] (by rfl) rfl rfl la_ ?_
       with_reducible refine (spec_PutWord.calls _ _ y214 a0_9 t217 _ ?side1 ?side2 A96.out).mono ?_
       (case side1 => exact qC ((Kd.R_reads' HO216.out).2.2))
       (case side2 => exact (Kd.R_reads' HO216.out).2.1)
       rintro e w110 ⟨v218, rfl, ho0, hb⟩
       refine ⟨_, rfl, ?_⟩
       have HO219 := am_ (Kd.R_lower (Kd.R_new' (Kd.R_new' ho0 (Kd.R_lt (qR HO216))) (Kd.R_lt (qR HO222))) (below_size (qB HB)))
       replace HO216 := eA_ HO216 ho0 hb
       replace HO222 := eA_ HO222 ho0 hb
       replace BK167 := bK_ BK167 hb
       replace BK209 := bK_ BK209 hb
       replace HB := bS_ HB hb
       (try clear hb ho0)
       refine hK.out _ _ (cz7 BK209.out) (fun hHeld => ?_)
       clear hK K
       refine norm_ (a' := ?_) ?_ ?_
       rotate_left
       ·
        show Act.put _ (some 88) _ = _
        exact ap_
       exact norm_ (by simp only [putAll, Act.put, List.setIfInBounds_toArray, List.set_cons_zero, List.set_cons_succ]) (hCont (.slice Ao109 y214.length co109, v218, v221) _ ⟨hHeld, (tR (Kd.R_mono HO216.out (fun _ hk => ⟨hk.2, hk.1.2⟩))), (tR (Kd.R_mono HO219.out (fun _ hk => ⟨hk.1.2, hk.2⟩))), (tR (Kd.R_mono HO222.out (fun _ hk => ⟨hk.1.2, hk.2⟩))), (qK BK167), (qK BK209), (qB HB)⟩)
     ·
      skip
      refine Kd.R_lit_step (Kd.int .u8) _ 5 ?hg (N := 92) ?hd (xs := ([(a0_12) % 256] : List Int)) (inner := [.int .u8 ((a0_12) % 256)]) (ok := fun _ => True) (okp := fun _ => True) ?hr ?hp (fun _ hk => hk) trivial (Below.refl _ _) (Nat.le_refl _) (by simp) ?_; (case hd => rfl); (case hg => rfl); (case hr => first | (go_simp; done) | (go_simp; rfl)); (case hp => exact (Reps.one (show Kd.M (Kd.int .u8) _ _ _ ((a0_12) % 256) [.int .u8 ((a0_12) % 256)] from rfl) (Reps.none _ _)))
      intro v221 w105 ho106 hb hg_ hnew_
      clear hg_ hnew_
      (first | rw [← Ny220.out] at ho106 | (simp only [Int.reduceToNat] at ho106; rw [← Ny220.out] at ho106))
      have HO222 := am_ (Kd.R_lower ho106 (below_size (qB HB)))
      replace BK167 := bK_ BK167 hb
      replace BK209 := bK_ BK209 hb
      replace HB := bS_ HB hb
      clear hb ho106
      refine hK.out _ _ (cz7 BK209.out) (fun hHeld => ?_)
      clear hK K
      refine norm_ (a' := ?_) ?_ ?_
      rotate_left
      ·
       show Act.put _ (some 92) _ = _
       exact ap_
      refine one_ (i := 0) (N := some 85) (rl [3,1,4,1,2,1,2,2]) rfl rfl (one_of HT_.out (by kernel_rfl)) (by decide) (fun K hK => ?_)
      refine Kd.R_lit_step (Kd.int .u8) _ 5 ?hg (N := 85) ?hd (xs := ([2] : List Int)) (inner := [.int .u8 2]) (ok := fun _ => True) (okp := fun _ => True) ?hr ?hp (fun _ hk => hk) trivial (Below.refl _ _) (Nat.le_refl _) (by simp) ?_; (case hd => rfl); (case hg => rfl); (case hr => first | (go_simp; done) | (go_simp; rfl)); (case hp => exact (Reps.one (show Kd.M (Kd.int .u8) _ _ _ 2 [.int .u8 2] from rfl) (Reps.none _ _)))
      intro v215 w107 ho108 hb hg_ hnew_
      clear hg_ hnew_
      (first | rw [← Ny214.out] at ho108 | (simp only [Int.reduceToNat] at ho108; rw [← Ny214.out] at ho108))
      have HO216 := am_ (Kd.R_lower (Kd.R_new' ho108 (Kd.R_lt (qR HO222))) (below_size (qB HB)))
      replace HO222 := eA_ HO222 ho108 hb
      replace BK167 := bK_ BK167 hb
      replace BK209 := bK_ BK209 hb
      replace HB := bS_ HB hb
      clear hb ho108
      obtain ⟨Ao109, co109, eo109⟩ := Kd.R_slice HO216.out
      (first | subst eo109 | (injection eo109 with f1_ f2_ f3_; have f4_ := f1_.symm; have f5_ := f3_.symm; clear f1_ f2_ f3_; subst f4_; subst f5_))
      refine hK.out _ _ (cz7 BK209.out) (fun hHeld => ?_)
      clear hK K
      refine norm_ (a' := ?_) ?_ ?_
      rotate_left
      ·
       show Act.put _ (some 85) _ = _
       exact ap_
      refine one_ (i := 3) (N := some 88) (rl [8,1,2,1,2,2]) rfl rfl (one_of HT_.out (by kernel_rfl)) (by decide) (fun K hK => ?_)
      refine goes_ Try.func89 (by kernel_rfl) rfl #[.slice Ao109 y214.length co109, .int .i64 a0_9] (by rfl) rfl rfl la_ ?_
      with_reducible refine (spec_PutWord.calls _ _ y214 a0_9 t217 _ ?side1 ?side2 A96.out).mono ?_
      (case side1 => exact qC ((Kd.R_reads' HO216.out).2.2))
      (case side2 => exact (Kd.R_reads' HO216.out).2.1)
      rintro e w110 ⟨v218, rfl, ho0, hb⟩
      refine ⟨_, rfl, ?_⟩
      have HO219 := am_ (Kd.R_lower (Kd.R_new' (Kd.R_new' ho0 (Kd.R_lt (qR HO222))) (Kd.R_lt (qR HO216))) (below_size (qB HB)))
      replace HO222 := eA_ HO222 ho0 hb
      replace HO216 := eA_ HO216 ho0 hb
      replace BK167 := bK_ BK167 hb
      replace BK209 := bK_ BK209 hb
      replace HB := bS_ HB hb
      (try clear hb ho0)
      refine hK.out _ _ (cz7 BK209.out) (fun hHeld => ?_)
      clear hK K
      refine norm_ (a' := ?_) ?_ ?_
      rotate_left
      ·
       show Act.put _ (some 88) _ = _
       exact ap_
      exact norm_ (by simp only [putAll, Act.put, List.setIfInBounds_toArray, List.set_cons_zero, List.set_cons_succ]) (hCont (.slice Ao109 y214.length co109, v218, v221) _ ⟨hHeld, (tR (Kd.R_mono HO216.out (fun _ hk => ⟨hk.2, hk.1.2⟩))), (tR (Kd.R_mono HO219.out (fun _ hk => ⟨hk.2, hk.1.2⟩))), (tR (Kd.R_mono HO222.out (fun _ hk => ⟨hk.1.2, hk.2⟩))), (qK BK167), (qK BK209), (qB HB)⟩)
    rintro ⟨v215, v218, v221⟩ w111 ⟨hS_, h0_, h1_, h2_, h3_, h4_, h5_⟩
    have n0_ : Aside0 (Kd.R (Kd.int .u8) 5 w111 w.heap.size (fun k_ => some k_ ≠ (v218 : Value).ownBlock ∧ some k_ ≠ (v221 : Value).ownBlock) v215 y214) := ⟨h0_⟩
    have n1_ : Aside0 (Kd.R (Kd.int .u8) 5 w111 w.heap.size (fun k_ => some k_ ≠ (v215 : Value).ownBlock ∧ some k_ ≠ (v221 : Value).ownBlock) v218 t217) := ⟨h1_⟩
    have n2_ : Aside0 (Kd.R (Kd.int .u8) 5 w111 w.heap.size (fun k_ => some k_ ≠ (v215 : Value).ownBlock ∧ some k_ ≠ (v218 : Value).ownBlock) v221 y220) := ⟨h2_⟩
    have n3_ : Aside0 (w111.heap[gb167]? = some (.cells #[.int .i64 a0_0, .int .i64 a0_1, .string a0_2, .int .i64 a0_3, .int .i64 a0_4, .int .i64 a0_5, .string a0_6, .int .i64 a0_7, .int .i64 a0_8, .int .i64 a0_9, .string a0_10, .int .i64 a0_11, .int .i64 a0_12, .int .i64 a0_13, .int .i64 a0_14, .int .i64 a0_15] 29 (0, 0))) := ⟨h3_⟩
    have n4_ : Aside0 (w111.heap[gb209]? = some (.cells #[.int .i64 a0_9, .string a0_10, .int .i64 a0_11, .int .i64 a0_12, .int .i64 a0_13, .int .i64 a0_14, .int .i64 a0_15] 27 (0, 0))) := ⟨h4_⟩
    have n5_ : Aside0 (Below w.heap.size w w111) := ⟨h5_⟩
    clear BK167
    clear BK209
    clear HB
    clear h0_ h1_ h2_ h3_ h4_ h5_
    have HO216 := n0_
    have HO219 := n1_
    have HO222 := n2_
    have BK167 := n3_
    have BK209 := n4_
    have HB := n5_
    clear n0_ n1_ n2_ n3_ n4_ n5_
    have hHeld : w111.cell? ⟨gb209, 0, none⟩ = some (.int .i64 a0_9) ∧ w111.cell? ⟨gb209, 1, none⟩ = some (.string a0_10) ∧ w111.cell? ⟨gb209, 2, none⟩ = some (.int .i64 a0_11) ∧ w111.cell? ⟨gb209, 3, none⟩ = some (.int .i64 a0_12) ∧ w111.cell? ⟨gb209, 4, none⟩ = some (.int .i64 a0_13) ∧ w111.cell? ⟨gb209, 5, none⟩ = some (.int .i64 a0_14) ∧ w111.cell? ⟨gb209, 6, none⟩ = some (.int .i64 a0_15) := hS_
    obtain ⟨Ao113, co113, eo113⟩ := Kd.R_slice HO222.out
    (first | subst eo113 | (injection eo113 with f1_ f2_ f3_; have f4_ := f1_.symm; have f5_ := f3_.symm; clear f1_ f2_ f3_; subst f4_; subst f5_))
    refine norm_ (a' := ?_) ?_ ?_
    rotate_left
    ·
     simp only [putAll, Act.put, List.setIfInBounds_toArray, List.set_cons_zero, List.set_cons_succ]
     rfl
    refine one_ (i := 8) (N := some 93) (rl [11,1,2,2]) rfl rfl (one_of HT_.out (by kernel_rfl)) (by decide) (fun K hK => ?_)
    refine Kd.R_append_rows_step (Kd.int .u8) (w0 := w) w.heap.size (by rfl) (.tmp 88) (.tmp 92) 22 5 (.int .u8 0) 1 rfl Try.underlying22 info5 rfl (by decide) (by omega) v218 t217 y220 _ _ _ (fun k_ => some k_ ≠ (v215 : Value).ownBlock ∧ some k_ ≠ (.slice Ao113 y220.length co113 : Value).ownBlock) (fun _ => False) rfl rfl ?aO ?aR (fun _ _ h => h) (fun _ h => h.elim) ?aF ?aB ?aS ?aL ?_
    (case aR => exact qC ((Kd.R_reads' HO222.out).2.2))
    (case aB => exact (qB HB))
    (case aF => exact (fun k_ hk => ⟨Kd.fresh' (Kd.R_lt (qR HO216)) k_ hk, Kd.fresh' (Kd.R_lt (qR HO222)) k_ hk⟩))
    (case aO => exact (qR HO219))
    (case aS => exact (below_size (qB HB)))
    (case aL => have := LMc97.out; omega)
    intro v224 w112 ho hb hg hat
    rw [← Ny223.out] at ho
    replace BK167 := am_ (blk_grown (qK BK167) hg (Kd.R_ne HO219.out BK167.out (by decide)))
    replace BK209 := am_ (blk_grown (qK BK209) hg (Kd.R_ne HO219.out BK209.out (by decide)))
    replace HO216 := am_ (Kd.R_after (ok := (fun k_ => some k_ ≠ (.slice Ao113 y220.length co113 : Value).ownBlock)) (tR (Kd.R_mono HO216.out (fun _ hk => ⟨hk.2, hk.1⟩))) hg hat)
    replace HO222 := am_ (Kd.R_after (ok := (fun k_ => some k_ ≠ (v215 : Value).ownBlock)) (qR HO222) hg hat)
    replace HB := am_ (hb)
    have HO225 := am_ (ho)
    clear HO219
    clear ho hb hg hat
    obtain ⟨Ao114, co114, eo114⟩ := Kd.R_slice HO225.out
    (first | subst eo114 | (injection eo114 with f1_ f2_ f3_; have f4_ := f1_.symm; have f5_ := f3_.symm; clear f1_ f2_ f3_; subst f4_; subst f5_))
    refine hK.out _ _ (cz7 BK209.out) (fun hHeld => ?_)
    clear hK K
    refine norm_ (a' := ?_) ?_ ?_
    rotate_left
    ·
     show Act.put _ (some 93) _ = _
     exact ap_
    refine one_ (i := 11) (N := some 96) (rl [14,2]) rfl rfl (one_of HT_.out (by kernel_rfl)) (by decide) (fun K hK => ?_)
    refine goes_ Try.func88 (by kernel_rfl) rfl #[.slice Ao114 y223.length co114, .string a0_10] (by rfl) rfl rfl la_ ?_
    with_reducible refine (spec_PutText.calls kj66 _ _ y223 a0_10 t226 _ ?side1 ?side2 A98.out).mono ?_
    (case side1 => exact qC ((Kd.R_reads' HO225.out).2.2))
    (case side2 => exact (Kd.R_reads' HO225.out).2.1)
    rintro e w115 ⟨v227, rfl, ho0, hb⟩
    refine ⟨_, rfl, ?_⟩
    have HO228 := am_ (Kd.R_lower (Kd.R_new' (Kd.R_new' (Kd.R_new' ho0 (Kd.R_lt (qR HO216))) (Kd.R_lt (qR HO222))) (Kd.R_lt (qR HO225))) (below_size (qB HB)))
    replace HO216 := eA_ HO216 ho0 hb
    replace HO222 := eA_ HO222 ho0 hb
    replace HO225 := eA_ HO225 ho0 hb
    replace BK167 := bK_ BK167 hb
    replace BK209 := bK_ BK209 hb
    replace HB := bS_ HB hb
    (try clear hb ho0)
    obtain ⟨Ao116, co116, eo116⟩ := Kd.R_slice HO228.out
    (first | subst eo116 | (injection eo116 with f1_ f2_ f3_; have f4_ := f1_.symm; have f5_ := f3_.symm; clear f1_ f2_ f3_; subst f4_; subst f5_))
    refine hK.out _ _ (cz7 BK209.out) (fun hHeld => ?_)
    clear hK K
    refine norm_ (a' := ?_) ?_ ?_
    rotate_left
    ·
     show Act.put _ (some 96) _ = _
     exact ap_
    refine one_ (i := 14) (N := some 99) (rl [15,1]) rfl rfl (one_of HT_.out (by kernel_rfl)) (by decide) (fun K hK => ?_)
    refine goes_ Try.func89 (by kernel_rfl) rfl #[.slice Ao116 t226.length co116, .int .i64 a0_11] (by rfl) rfl rfl la_ ?_
    with_reducible refine (spec_PutWord.calls _ _ t226 a0_11 t229 _ ?side1 ?side2 A99.out).mono ?_
    (case side1 => exact qC ((Kd.R_reads' HO228.out).2.2))
    (case side2 => exact (Kd.R_reads' HO228.out).2.1)
    rintro e w117 ⟨v230, rfl, ho0, hb⟩
    refine ⟨_, rfl, ?_⟩
    have HO231 := am_ (Kd.R_lower (Kd.R_new' (Kd.R_new' (Kd.R_new' (Kd.R_new' ho0 (Kd.R_lt (qR HO216))) (Kd.R_lt (qR HO222))) (Kd.R_lt (qR HO225))) (Kd.R_lt (qR HO228))) (below_size (qB HB)))
    replace HO216 := eA_ HO216 ho0 hb
    replace HO222 := eA_ HO222 ho0 hb
    replace HO225 := eA_ HO225 ho0 hb
    replace HO228 := eA_ HO228 ho0 hb
    replace BK167 := bK_ BK167 hb
    replace BK209 := bK_ BK209 hb
    replace HB := bS_ HB hb
    (try clear hb ho0)
    refine hK.out _ _ (cz7 BK209.out) (fun hHeld => ?_)
    clear hK K
    refine norm_ (a' := ?_) ?_ ?_
    rotate_left
    ·
     show Act.put _ (some 99) _ = _
     exact ap_
    refine pz_ (i := 15) (N := some 6) HT_ (rl [16]) rfl rfl ?_
    refine done_ (done_of HT_.out (by kernel_rfl)) ?_
    obtain ⟨Ao118, co118, eo118⟩ := Kd.R_slice HO231.out
    subst eo118
    try go_wp2
    replace HO216 := am_ (Kd.R_drew HO216.out)
    replace HO222 := am_ (Kd.R_drew HO222.out)
    replace HO225 := am_ (Kd.R_drew HO225.out)
    replace HO228 := am_ (Kd.R_drew HO228.out)
    replace HO231 := am_ (Kd.R_drew HO231.out)
    replace BK167 := am_ (blk_drew BK167.out)
    replace BK209 := am_ (blk_drew BK209.out)
    replace HB := am_ (below_drew1 HB.out)
    refine start_ (n := 18) (S := fun w' => w'.cell? ⟨gb209, 0, none⟩ = some (.int .i64 a0_9) ∧ w'.cell? ⟨gb209, 1, none⟩ = some (.string a0_10) ∧ w'.cell? ⟨gb209, 2, none⟩ = some (.int .i64 a0_11) ∧ w'.cell? ⟨gb209, 3, none⟩ = some (.int .i64 a0_12) ∧ w'.cell? ⟨gb209, 4, none⟩ = some (.int .i64 a0_13) ∧ w'.cell? ⟨gb209, 5, none⟩ = some (.int .i64 a0_14) ∧ w'.cell? ⟨gb209, 6, none⟩ = some (.int .i64 a0_15)) (ds := []) (rl [0,18]) (by kernel_rfl) rfl rfl (cz7 BK209.out) (fun hHeld => ?_); refine with_tabW spec_PutItem.tab12 spec_PutItem.bits12 (fun HT_ HW_ => ?_)
    generalize w117.drew = w119 at HO216 HO222 HO225 HO228 HO231 BK167 BK209 HB hHeld ⊢
    refine pz_ (i := 0) (N := some 100) HT_ (rl [1,17]) rfl rfl ?_
    refine pz_ (i := 1) (N := some 101) HT_ (rl [2,16]) rfl rfl ?_
    refine pz_ (i := 5) (N := some 105) HT_ (rl [2,3,1,12]) rfl rfl ?_
    refine pz_ (i := 11) (N := some 111) HT_ (rl [2,3,1,5,1,6]) rfl rfl ?_
    refine pz_ (i := 14) (N := some 114) HT_ (rl [2,3,1,5,1,2,1,3]) rfl rfl ?_
    refine tz_ (i := 2) (N := some 102) HT_ HW_ (rl [3,2,1,5,1,2,1,3]) rfl rfl hHeld ?_
    refine pz_ (i := 3) (N := some 103) HT_ (rl [4,1,1,5,1,2,1,3]) rfl rfl ?_
    refine tz_ (i := 6) (N := some 106) HT_ HW_ (rl [4,1,2,4,1,2,1,3]) rfl rfl hHeld ?_
    refine pz_ (i := 7) (N := some 107) HT_ (rl [4,1,3,3,1,2,1,3]) rfl rfl ?_
    refine pz_ (i := 8) (N := some 108) HT_ (rl [4,1,4,2,1,2,1,3]) rfl rfl ?_
    refine tz_ (i := 12) (N := some 112) HT_ HW_ (rl [4,1,4,2,2,1,1,3]) rfl rfl hHeld ?_
    refine tz_ (i := 15) (N := some 115) HT_ HW_ (rl [4,1,4,2,2,1,2,2]) rfl rfl hHeld ?_
    refine join_ (σ := Value × Value) 4 (rl [10,1,2,1,2,2]) (fun s_ => [(104, s_.1), (109, s_.2)]) (fun s_ w' => (w'.cell? ⟨gb209, 0, none⟩ = some (.int .i64 a0_9) ∧ w'.cell? ⟨gb209, 1, none⟩ = some (.string a0_10) ∧ w'.cell? ⟨gb209, 2, none⟩ = some (.int .i64 a0_11) ∧ w'.cell? ⟨gb209, 3, none⟩ = some (.int .i64 a0_12) ∧ w'.cell? ⟨gb209, 4, none⟩ = some (.int .i64 a0_13) ∧ w'.cell? ⟨gb209, 5, none⟩ = some (.int .i64 a0_14) ∧ w'.cell? ⟨gb209, 6, none⟩ = some (.int .i64 a0_15)) ∧ (Kd.R (Kd.int .u8) 5 w' w.heap.size (fun k_ => some k_ ≠ (.slice Ao113 y220.length co113 : Value).ownBlock ∧ some k_ ≠ (.slice Ao114 y223.length co114 : Value).ownBlock ∧ some k_ ≠ (.slice Ao116 t226.length co116 : Value).ownBlock ∧ some k_ ≠ (.slice Ao118 t229.length co118 : Value).ownBlock ∧ some k_ ≠ (s_.1 : Value).ownBlock ∧ some k_ ≠ (s_.2 : Value).ownBlock) v215 y214) ∧ (Kd.R (Kd.int .u8) 5 w' w.heap.size (fun k_ => some k_ ≠ (v215 : Value).ownBlock ∧ some k_ ≠ (.slice Ao114 y223.length co114 : Value).ownBlock ∧ some k_ ≠ (.slice Ao116 t226.length co116 : Value).ownBlock ∧ some k_ ≠ (.slice Ao118 t229.length co118 : Value).ownBlock ∧ some k_ ≠ (s_.1 : Value).ownBlock ∧ some k_ ≠ (s_.2 : Value).ownBlock) (.slice Ao113 y220.length co113) y220) ∧ (Kd.R (Kd.int .u8) 5 w' w.heap.size (fun k_ => some k_ ≠ (v215 : Value).ownBlock ∧ some k_ ≠ (.slice Ao113 y220.length co113 : Value).ownBlock ∧ some k_ ≠ (.slice Ao116 t226.length co116 : Value).ownBlock ∧ some k_ ≠ (.slice Ao118 t229.length co118 : Value).ownBlock ∧ some k_ ≠ (s_.1 : Value).ownBlock ∧ some k_ ≠ (s_.2 : Value).ownBlock) (.slice Ao114 y223.length co114) y223) ∧ (Kd.R (Kd.int .u8) 5 w' w.heap.size (fun k_ => some k_ ≠ (v215 : Value).ownBlock ∧ some k_ ≠ (.slice Ao113 y220.length co113 : Value).ownBlock ∧ some k_ ≠ (.slice Ao114 y223.length co114 : Value).ownBlock ∧ some k_ ≠ (.slice Ao118 t229.length co118 : Value).ownBlock ∧ some k_ ≠ (s_.1 : Value).ownBlock ∧ some k_ ≠ (s_.2 : Value).ownBlock) (.slice Ao116 t226.length co116) t226) ∧ (Kd.R (Kd.int .u8) 5 w' w.heap.size (fun k_ => some k_ ≠ (v215 : Value).ownBlock ∧ some k_ ≠ (.slice Ao113 y220.length co113 : Value).ownBlock ∧ some k_ ≠ (.slice Ao114 y223.length co114 : Value).ownBlock ∧ some k_ ≠ (.slice Ao116 t226.length co116 : Value).ownBlock ∧ some k_ ≠ (s_.1 : Value).ownBlock ∧ some k_ ≠ (s_.2 : Value).ownBlock) (.slice Ao118 t229.length co118) t229) ∧ (Kd.R (Kd.int .u8) 5 w' w.heap.size (fun k_ => some k_ ≠ (v215 : Value).ownBlock ∧ some k_ ≠ (.slice Ao113 y220.length co113 : Value).ownBlock ∧ some k_ ≠ (.slice Ao114 y223.length co114 : Value).ownBlock ∧ some k_ ≠ (.slice Ao116 t226.length co116 : Value).ownBlock ∧ some k_ ≠ (.slice Ao118 t229.length co118 : Value).ownBlock ∧ some k_ ≠ (s_.2 : Value).ownBlock) s_.1 t232) ∧ (Kd.R (Kd.int .u8) 5 w' w.heap.size (fun k_ => some k_ ≠ (v215 : Value).ownBlock ∧ some k_ ≠ (.slice Ao113 y220.length co113 : Value).ownBlock ∧ some k_ ≠ (.slice Ao114 y223.length co114 : Value).ownBlock ∧ some k_ ≠ (.slice Ao116 t226.length co116 : Value).ownBlock ∧ some k_ ≠ (.slice Ao118 t229.length co118 : Value).ownBlock ∧ some k_ ≠ (s_.1 : Value).ownBlock) s_.2 y235) ∧ (w'.heap[gb167]? = some (.cells #[.int .i64 a0_0, .int .i64 a0_1, .string a0_2, .int .i64 a0_3, .int .i64 a0_4, .int .i64 a0_5, .string a0_6, .int .i64 a0_7, .int .i64 a0_8, .int .i64 a0_9, .string a0_10, .int .i64 a0_11, .int .i64 a0_12, .int .i64 a0_13, .int .i64 a0_14, .int .i64 a0_15] 29 (0, 0))) ∧ (w'.heap[gb209]? = some (.cells #[.int .i64 a0_9, .string a0_10, .int .i64 a0_11, .int .i64 a0_12, .int .i64 a0_13, .int .i64 a0_14, .int .i64 a0_15] 27 (0, 0))) ∧ (Below w.heap.size w w')) ?_ ?_
    rotate_left
    ·
     intro hCont
     refine two_ (i := 4) (j := 9) (Ni := some 104) (Nj := some 109) (rl [9,2,2,1,2,2]) (rl [4,1,5,1,2,1,2,2]) rfl rfl rfl rfl (two_of HT_.out (by kernel_rfl)) (by decide) (by decide) (fun K hK => ?_) (fun K hK => ?_)
     ·
      skip
      refine goes_ Try.func89 (by kernel_rfl) rfl #[.slice Ao118 t229.length co118, .int .i64 (wrap64 (Int.tdiv a0_13 256))] (by rfl) rfl rfl la_ ?_
      with_reducible refine (spec_PutWord.calls _ _ t229 (wrap64 (Int.tdiv a0_13 256)) t232 _ ?side1 ?side2 A100.out).mono ?_
      (case side1 => exact qC ((Kd.R_reads' HO231.out).2.2))
      (case side2 => exact (Kd.R_reads' HO231.out).2.1)
      rintro e w120 ⟨v233, rfl, ho0, hb⟩
      refine ⟨_, rfl, ?_⟩
      have HO234 := am_ (Kd.R_lower (Kd.R_new' (Kd.R_new' (Kd.R_new' (Kd.R_new' (Kd.R_new' ho0 (Kd.R_lt (qR HO216))) (Kd.R_lt (qR HO222))) (Kd.R_lt (qR HO225))) (Kd.R_lt (qR HO228))) (Kd.R_lt (qR HO231))) (below_size (qB HB)))
      replace HO216 := eA_ HO216 ho0 hb
      replace HO222 := eA_ HO222 ho0 hb
      replace HO225 := eA_ HO225 ho0 hb
      replace HO228 := eA_ HO228 ho0 hb
      replace HO231 := eA_ HO231 ho0 hb
      replace BK167 := bK_ BK167 hb
      replace BK209 := bK_ BK209 hb
      replace HB := bS_ HB hb
      (try clear hb ho0)
      refine hK.out _ _ (cz7 BK209.out) (fun hHeld => ?_)
      clear hK K
      refine norm_ (a' := ?_) ?_ ?_
      rotate_left
      ·
       show Act.put _ (some 104) _ = _
       exact ap_
      refine one_ (i := 9) (N := some 109) (rl [10,1,2,1,2,2]) rfl rfl (one_of HT_.out (by kernel_rfl)) (by decide) (fun K hK => ?_)
      refine Kd.R_lit_step (Kd.int .u8) _ 5 ?hg (N := 109) ?hd (xs := ([(Int.tmod a0_13 256) % 256] : List Int)) (inner := [.int .u8 ((Int.tmod a0_13 256) % 256)]) (ok := fun _ => True) (okp := fun _ => True) ?hr ?hp (fun _ hk => hk) trivial (Below.refl _ _) (Nat.le_refl _) (by simp) ?_; (case hd => rfl); (case hg => rfl); (case hr => first | (go_simp; done) | (go_simp; rfl)); (case hp => exact (Reps.one (show Kd.M (Kd.int .u8) _ _ _ ((Int.tmod a0_13 256) % 256) [.int .u8 ((Int.tmod a0_13 256) % 256)] from rfl) (Reps.none _ _)))
      intro v236 w121 ho122 hb hg_ hnew_
      clear hg_ hnew_
      (first | rw [← Ny235.out] at ho122 | (simp only [Int.reduceToNat] at ho122; rw [← Ny235.out] at ho122))
      have HO237 := am_ (Kd.R_lower (Kd.R_new' (Kd.R_new' (Kd.R_new' (Kd.R_new' (Kd.R_new' (Kd.R_new' ho122 (Kd.R_lt (qR HO216))) (Kd.R_lt (qR HO222))) (Kd.R_lt (qR HO225))) (Kd.R_lt (qR HO228))) (Kd.R_lt (qR HO231))) (Kd.R_lt (qR HO234))) (below_size (qB HB)))
      replace HO216 := eA_ HO216 ho122 hb
      replace HO222 := eA_ HO222 ho122 hb
      replace HO225 := eA_ HO225 ho122 hb
      replace HO228 := eA_ HO228 ho122 hb
      replace HO231 := eA_ HO231 ho122 hb
      replace HO234 := eA_ HO234 ho122 hb
      replace BK167 := bK_ BK167 hb
      replace BK209 := bK_ BK209 hb
      replace HB := bS_ HB hb
      clear hb ho122
      refine hK.out _ _ (cz7 BK209.out) (fun hHeld => ?_)
      clear hK K
      refine norm_ (a' := ?_) ?_ ?_
      rotate_left
      ·
       show Act.put _ (some 109) _ = _
       exact ap_
      exact norm_ (by simp only [putAll, Act.put, List.setIfInBounds_toArray, List.set_cons_zero, List.set_cons_succ]) (hCont (v233, v236) _ ⟨hHeld, (tR (Kd.R_mono HO216.out (fun _ hk => ⟨hk.1.1.1.1.1, ⟨hk.1.1.1.1.2, ⟨hk.1.1.1.2, ⟨hk.1.1.2, ⟨hk.1.2, hk.2⟩⟩⟩⟩⟩))), (tR (Kd.R_mono HO222.out (fun _ hk => ⟨hk.1.1.1.1.1, ⟨hk.1.1.1.1.2, ⟨hk.1.1.1.2, ⟨hk.1.1.2, ⟨hk.1.2, hk.2⟩⟩⟩⟩⟩))), (tR (Kd.R_mono HO225.out (fun _ hk => ⟨hk.1.1.1.1.1, ⟨hk.1.1.1.1.2, ⟨hk.1.1.1.2, ⟨hk.1.1.2, ⟨hk.1.2, hk.2⟩⟩⟩⟩⟩))), (tR (Kd.R_mono HO228.out (fun _ hk => ⟨hk.1.1.1.1.1.2, ⟨hk.1.1.1.1.2, ⟨hk.1.1.1.2, ⟨hk.1.1.2, ⟨hk.1.2, hk.2⟩⟩⟩⟩⟩))), (tR (Kd.R_mono HO231.out (fun _ hk => ⟨hk.1.1.1.1.1.2, ⟨hk.1.1.1.1.2, ⟨hk.1.1.1.2, ⟨hk.1.1.2, ⟨hk.1.2, hk.2⟩⟩⟩⟩⟩))), (tR (Kd.R_mono HO234.out (fun _ hk => ⟨hk.1.1.1.1.1.2, ⟨hk.1.1.1.1.2, ⟨hk.1.1.1.2, ⟨hk.1.1.2, ⟨hk.1.2, hk.2⟩⟩⟩⟩⟩))), (tR (Kd.R_mono HO237.out (fun _ hk => ⟨hk.1.1.1.1.1.2, ⟨hk.1.1.1.1.2, ⟨hk.1.1.1.2, ⟨hk.1.1.2, ⟨hk.1.2, hk.2⟩⟩⟩⟩⟩))), (qK BK167), (qK BK209), (qB HB)⟩)
     ·
      skip
      refine Kd.R_lit_step (Kd.int .u8) _ 5 ?hg (N := 109) ?hd (xs := ([(Int.tmod a0_13 256) % 256] : List Int)) (inner := [.int .u8 ((Int.tmod a0_13 256) % 256)]) (ok := fun _ => True) (okp := fun _ => True) ?hr ?hp (fun _ hk => hk) trivial (Below.refl _ _) (Nat.le_refl _) (by simp) ?_; (case hd => rfl); (case hg => rfl); (case hr => first | (go_simp; done) | (go_simp; rfl)); (case hp => exact (Reps.one (show Kd.M (Kd.int .u8) _ _ _ ((Int.tmod a0_13 256) % 256) [.int .u8 ((Int.tmod a0_13 256) % 256)] from rfl) (Reps.none _ _)))
      intro v236 w120 ho121 hb hg_ hnew_
      clear hg_ hnew_
      (first | rw [← Ny235.out] at ho121 | (simp only [Int.reduceToNat] at ho121; rw [← Ny235.out] at ho121))
      have HO237 := am_ (Kd.R_lower (Kd.R_new' (Kd.R_new' (Kd.R_new' (Kd.R_new' (Kd.R_new' ho121 (Kd.R_lt (qR HO216))) (Kd.R_lt (qR HO222))) (Kd.R_lt (qR HO225))) (Kd.R_lt (qR HO228))) (Kd.R_lt (qR HO231))) (below_size (qB HB)))
      replace HO216 := eA_ HO216 ho121 hb
      replace HO222 := eA_ HO222 ho121 hb
      replace HO225 := eA_ HO225 ho121 hb
      replace HO228 := eA_ HO228 ho121 hb
      replace HO231 := eA_ HO231 ho121 hb
      replace BK167 := bK_ BK167 hb
      replace BK209 := bK_ BK209 hb
      replace HB := bS_ HB hb
      clear hb ho121
      refine hK.out _ _ (cz7 BK209.out) (fun hHeld => ?_)
      clear hK K
      refine norm_ (a' := ?_) ?_ ?_
      rotate_left
      ·
       show Act.put _ (some 109) _ = _
       exact ap_
      refine one_ (i := 4) (N := some 104) (rl [10,1,2,1,2,2]) rfl rfl (one_of HT_.out (by kernel_rfl)) (by decide) (fun K hK => ?_)
      refine goes_ Try.func89 (by kernel_rfl) rfl #[.slice Ao118 t229.length co118, .int .i64 (wrap64 (Int.tdiv a0_13 256))] (by rfl) rfl rfl la_ ?_
      with_reducible refine (spec_PutWord.calls _ _ t229 (wrap64 (Int.tdiv a0_13 256)) t232 _ ?side1 ?side2 A100.out).mono ?_
      (case side1 => exact qC ((Kd.R_reads' HO231.out).2.2))
      (case side2 => exact (Kd.R_reads' HO231.out).2.1)
      rintro e w122 ⟨v233, rfl, ho0, hb⟩
      refine ⟨_, rfl, ?_⟩
      have HO234 := am_ (Kd.R_lower (Kd.R_new' (Kd.R_new' (Kd.R_new' (Kd.R_new' (Kd.R_new' (Kd.R_new' ho0 (Kd.R_lt (qR HO216))) (Kd.R_lt (qR HO222))) (Kd.R_lt (qR HO225))) (Kd.R_lt (qR HO228))) (Kd.R_lt (qR HO231))) (Kd.R_lt (qR HO237))) (below_size (qB HB)))
      replace HO216 := eA_ HO216 ho0 hb
      replace HO222 := eA_ HO222 ho0 hb
      replace HO225 := eA_ HO225 ho0 hb
      replace HO228 := eA_ HO228 ho0 hb
      replace HO231 := eA_ HO231 ho0 hb
      replace HO237 := eA_ HO237 ho0 hb
      replace BK167 := bK_ BK167 hb
      replace BK209 := bK_ BK209 hb
      replace HB := bS_ HB hb
      (try clear hb ho0)
      refine hK.out _ _ (cz7 BK209.out) (fun hHeld => ?_)
      clear hK K
      refine norm_ (a' := ?_) ?_ ?_
      rotate_left
      ·
       show Act.put _ (some 104) _ = _
       exact ap_
      exact norm_ (by simp only [putAll, Act.put, List.setIfInBounds_toArray, List.set_cons_zero, List.set_cons_succ]) (hCont (v233, v236) _ ⟨hHeld, (tR (Kd.R_mono HO216.out (fun _ hk => ⟨hk.1.1.1.1.1, ⟨hk.1.1.1.1.2, ⟨hk.1.1.1.2, ⟨hk.1.1.2, ⟨hk.2, hk.1.2⟩⟩⟩⟩⟩))), (tR (Kd.R_mono HO222.out (fun _ hk => ⟨hk.1.1.1.1.1, ⟨hk.1.1.1.1.2, ⟨hk.1.1.1.2, ⟨hk.1.1.2, ⟨hk.2, hk.1.2⟩⟩⟩⟩⟩))), (tR (Kd.R_mono HO225.out (fun _ hk => ⟨hk.1.1.1.1.1, ⟨hk.1.1.1.1.2, ⟨hk.1.1.1.2, ⟨hk.1.1.2, ⟨hk.2, hk.1.2⟩⟩⟩⟩⟩))), (tR (Kd.R_mono HO228.out (fun _ hk => ⟨hk.1.1.1.1.1.2, ⟨hk.1.1.1.1.2, ⟨hk.1.1.1.2, ⟨hk.1.1.2, ⟨hk.2, hk.1.2⟩⟩⟩⟩⟩))), (tR (Kd.R_mono HO231.out (fun _ hk => ⟨hk.1.1.1.1.1.2, ⟨hk.1.1.1.1.2, ⟨hk.1.1.1.2, ⟨hk.1.1.2, ⟨hk.2, hk.1.2⟩⟩⟩⟩⟩))), (tR (Kd.R_mono HO234.out (fun _ hk => ⟨hk.1.1.1.1.1.2, ⟨hk.1.1.1.1.2, ⟨hk.1.1.1.2, ⟨hk.1.1.2, ⟨hk.1.2, hk.2⟩⟩⟩⟩⟩))), (tR (Kd.R_mono HO237.out (fun _ hk => ⟨hk.1.1.1.1.1.2, ⟨hk.1.1.1.1.2, ⟨hk.1.1.1.2, ⟨hk.1.1.2, ⟨hk.1.2, hk.2⟩⟩⟩⟩⟩))), (qK BK167), (qK BK209), (qB HB)⟩)
    rintro ⟨v233, v236⟩ w123 ⟨hS_, h0_, h1_, h2_, h3_, h4_, h5_, h6_, h7_, h8_, h9_⟩
    have n0_ : Aside0 (Kd.R (Kd.int .u8) 5 w123 w.heap.size (fun k_ => some k_ ≠ (.slice Ao113 y220.length co113 : Value).ownBlock ∧ some k_ ≠ (.slice Ao114 y223.length co114 : Value).ownBlock ∧ some k_ ≠ (.slice Ao116 t226.length co116 : Value).ownBlock ∧ some k_ ≠ (.slice Ao118 t229.length co118 : Value).ownBlock ∧ some k_ ≠ (v233 : Value).ownBlock ∧ some k_ ≠ (v236 : Value).ownBlock) v215 y214) := ⟨h0_⟩
    have n1_ : Aside0 (Kd.R (Kd.int .u8) 5 w123 w.heap.size (fun k_ => some k_ ≠ (v215 : Value).ownBlock ∧ some k_ ≠ (.slice Ao114 y223.length co114 : Value).ownBlock ∧ some k_ ≠ (.slice Ao116 t226.length co116 : Value).ownBlock ∧ some k_ ≠ (.slice Ao118 t229.length co118 : Value).ownBlock ∧ some k_ ≠ (v233 : Value).ownBlock ∧ some k_ ≠ (v236 : Value).ownBlock) (.slice Ao113 y220.length co113) y220) := ⟨h1_⟩
    have n2_ : Aside0 (Kd.R (Kd.int .u8) 5 w123 w.heap.size (fun k_ => some k_ ≠ (v215 : Value).ownBlock ∧ some k_ ≠ (.slice Ao113 y220.length co113 : Value).ownBlock ∧ some k_ ≠ (.slice Ao116 t226.length co116 : Value).ownBlock ∧ some k_ ≠ (.slice Ao118 t229.length co118 : Value).ownBlock ∧ some k_ ≠ (v233 : Value).ownBlock ∧ some k_ ≠ (v236 : Value).ownBlock) (.slice Ao114 y223.length co114) y223) := ⟨h2_⟩
    have n3_ : Aside0 (Kd.R (Kd.int .u8) 5 w123 w.heap.size (fun k_ => some k_ ≠ (v215 : Value).ownBlock ∧ some k_ ≠ (.slice Ao113 y220.length co113 : Value).ownBlock ∧ some k_ ≠ (.slice Ao114 y223.length co114 : Value).ownBlock ∧ some k_ ≠ (.slice Ao118 t229.length co118 : Value).ownBlock ∧ some k_ ≠ (v233 : Value).ownBlock ∧ some k_ ≠ (v236 : Value).ownBlock) (.slice Ao116 t226.length co116) t226) := ⟨h3_⟩
    have n4_ : Aside0 (Kd.R (Kd.int .u8) 5 w123 w.heap.size (fun k_ => some k_ ≠ (v215 : Value).ownBlock ∧ some k_ ≠ (.slice Ao113 y220.length co113 : Value).ownBlock ∧ some k_ ≠ (.slice Ao114 y223.length co114 : Value).ownBlock ∧ some k_ ≠ (.slice Ao116 t226.length co116 : Value).ownBlock ∧ some k_ ≠ (v233 : Value).ownBlock ∧ some k_ ≠ (v236 : Value).ownBlock) (.slice Ao118 t229.length co118) t229) := ⟨h4_⟩
    have n5_ : Aside0 (Kd.R (Kd.int .u8) 5 w123 w.heap.size (fun k_ => some k_ ≠ (v215 : Value).ownBlock ∧ some k_ ≠ (.slice Ao113 y220.length co113 : Value).ownBlock ∧ some k_ ≠ (.slice Ao114 y223.length co114 : Value).ownBlock ∧ some k_ ≠ (.slice Ao116 t226.length co116 : Value).ownBlock ∧ some k_ ≠ (.slice Ao118 t229.length co118 : Value).ownBlock ∧ some k_ ≠ (v236 : Value).ownBlock) v233 t232) := ⟨h5_⟩
    have n6_ : Aside0 (Kd.R (Kd.int .u8) 5 w123 w.heap.size (fun k_ => some k_ ≠ (v215 : Value).ownBlock ∧ some k_ ≠ (.slice Ao113 y220.length co113 : Value).ownBlock ∧ some k_ ≠ (.slice Ao114 y223.length co114 : Value).ownBlock ∧ some k_ ≠ (.slice Ao116 t226.length co116 : Value).ownBlock ∧ some k_ ≠ (.slice Ao118 t229.length co118 : Value).ownBlock ∧ some k_ ≠ (v233 : Value).ownBlock) v236 y235) := ⟨h6_⟩
    have n7_ : Aside0 (w123.heap[gb167]? = some (.cells #[.int .i64 a0_0, .int .i64 a0_1, .string a0_2, .int .i64 a0_3, .int .i64 a0_4, .int .i64 a0_5, .string a0_6, .int .i64 a0_7, .int .i64 a0_8, .int .i64 a0_9, .string a0_10, .int .i64 a0_11, .int .i64 a0_12, .int .i64 a0_13, .int .i64 a0_14, .int .i64 a0_15] 29 (0, 0))) := ⟨h7_⟩
    have n8_ : Aside0 (w123.heap[gb209]? = some (.cells #[.int .i64 a0_9, .string a0_10, .int .i64 a0_11, .int .i64 a0_12, .int .i64 a0_13, .int .i64 a0_14, .int .i64 a0_15] 27 (0, 0))) := ⟨h8_⟩
    have n9_ : Aside0 (Below w.heap.size w w123) := ⟨h9_⟩
    clear HO216
    clear HO222
    clear HO225
    clear HO228
    clear HO231
    clear BK167
    clear BK209
    clear HB
    clear h0_ h1_ h2_ h3_ h4_ h5_ h6_ h7_ h8_ h9_
    have HO216 := n0_
    have HO222 := n1_
    have HO225 := n2_
    have HO228 := n3_
    have HO231 := n4_
    have HO234 := n5_
    have HO237 := n6_
    have BK167 := n7_
    have BK209 := n8_
    have HB := n9_
    clear n0_ n1_ n2_ n3_ n4_ n5_ n6_ n7_ n8_ n9_
    have hHeld : w123.cell? ⟨gb209, 0, none⟩ = some (.int .i64 a0_9) ∧ w123.cell? ⟨gb209, 1, none⟩ = some (.string a0_10) ∧ w123.cell? ⟨gb209, 2, none⟩ = some (.int .i64 a0_11) ∧ w123.cell? ⟨gb209, 3, none⟩ = some (.int .i64 a0_12) ∧ w123.cell? ⟨gb209, 4, none⟩ = some (.int .i64 a0_13) ∧ w123.cell? ⟨gb209, 5, none⟩ = some (.int .i64 a0_14) ∧ w123.cell? ⟨gb209, 6, none⟩ = some (.int .i64 a0_15) := hS_
    obtain ⟨Ao125, co125, eo125⟩ := Kd.R_slice HO237.out
    (first | subst eo125 | (injection eo125 with f1_ f2_ f3_; have f4_ := f1_.symm; have f5_ := f3_.symm; clear f1_ f2_ f3_; subst f4_; subst f5_))
    refine norm_ (a' := ?_) ?_ ?_
    rotate_left
    ·
     simp only [putAll, Act.put, List.setIfInBounds_toArray, List.set_cons_zero, List.set_cons_succ]
     rfl
    refine one_ (i := 10) (N := some 110) (rl [13,1,2,2]) rfl rfl (one_of HT_.out (by kernel_rfl)) (by decide) (fun K hK => ?_)
    refine Kd.R_append_rows_step (Kd.int .u8) (w0 := w) w.heap.size (by rfl) (.tmp 104) (.tmp 109) 22 5 (.int .u8 0) 1 rfl Try.underlying22 info5 rfl (by decide) (by omega) v233 t232 y235 _ _ _ (fun k_ => some k_ ≠ (v215 : Value).ownBlock ∧ some k_ ≠ (.slice Ao113 y220.length co113 : Value).ownBlock ∧ some k_ ≠ (.slice Ao114 y223.length co114 : Value).ownBlock ∧ some k_ ≠ (.slice Ao116 t226.length co116 : Value).ownBlock ∧ some k_ ≠ (.slice Ao118 t229.length co118 : Value).ownBlock ∧ some k_ ≠ (.slice Ao125 y235.length co125 : Value).ownBlock) (fun _ => False) rfl rfl ?aO ?aR (fun _ _ h => h) (fun _ h => h.elim) ?aF ?aB ?aS ?aL ?_
    (case aR => exact qC ((Kd.R_reads' HO237.out).2.2))
    (case aB => exact (qB HB))
    (case aF => exact (fun k_ hk => ⟨Kd.fresh' (Kd.R_lt (qR HO216)) k_ hk, Kd.fresh' (Kd.R_lt (qR HO222)) k_ hk, Kd.fresh' (Kd.R_lt (qR HO225)) k_ hk, Kd.fresh' (Kd.R_lt (qR HO228)) k_ hk, Kd.fresh' (Kd.R_lt (qR HO231)) k_ hk, Kd.fresh' (Kd.R_lt (qR HO237)) k_ hk⟩))
    (case aO => exact (qR HO234))
    (case aS => exact (below_size (qB HB)))
    (case aL => have := LMc101.out; omega)
    intro v239 w124 ho hb hg hat
    rw [← Ny238.out] at ho
    replace BK167 := am_ (blk_grown (qK BK167) hg (Kd.R_ne HO234.out BK167.out (by decide)))
    replace BK209 := am_ (blk_grown (qK BK209) hg (Kd.R_ne HO234.out BK209.out (by decide)))
    replace HO216 := am_ (Kd.R_after (ok := (fun k_ => some k_ ≠ (.slice Ao113 y220.length co113 : Value).ownBlock ∧ some k_ ≠ (.slice Ao114 y223.length co114 : Value).ownBlock ∧ some k_ ≠ (.slice Ao116 t226.length co116 : Value).ownBlock ∧ some k_ ≠ (.slice Ao118 t229.length co118 : Value).ownBlock ∧ some k_ ≠ (.slice Ao125 y235.length co125 : Value).ownBlock)) (tR (Kd.R_mono HO216.out (fun _ hk => ⟨⟨hk.1, ⟨hk.2.1, ⟨hk.2.2.1, ⟨hk.2.2.2.1, hk.2.2.2.2.2⟩⟩⟩⟩, hk.2.2.2.2.1⟩))) hg hat)
    replace HO222 := am_ (Kd.R_after (ok := (fun k_ => some k_ ≠ (v215 : Value).ownBlock ∧ some k_ ≠ (.slice Ao114 y223.length co114 : Value).ownBlock ∧ some k_ ≠ (.slice Ao116 t226.length co116 : Value).ownBlock ∧ some k_ ≠ (.slice Ao118 t229.length co118 : Value).ownBlock ∧ some k_ ≠ (.slice Ao125 y235.length co125 : Value).ownBlock)) (tR (Kd.R_mono HO222.out (fun _ hk => ⟨⟨hk.1, ⟨hk.2.1, ⟨hk.2.2.1, ⟨hk.2.2.2.1, hk.2.2.2.2.2⟩⟩⟩⟩, hk.2.2.2.2.1⟩))) hg hat)
    replace HO225 := am_ (Kd.R_after (ok := (fun k_ => some k_ ≠ (v215 : Value).ownBlock ∧ some k_ ≠ (.slice Ao113 y220.length co113 : Value).ownBlock ∧ some k_ ≠ (.slice Ao116 t226.length co116 : Value).ownBlock ∧ some k_ ≠ (.slice Ao118 t229.length co118 : Value).ownBlock ∧ some k_ ≠ (.slice Ao125 y235.length co125 : Value).ownBlock)) (tR (Kd.R_mono HO225.out (fun _ hk => ⟨⟨hk.1, ⟨hk.2.1, ⟨hk.2.2.1, ⟨hk.2.2.2.1, hk.2.2.2.2.2⟩⟩⟩⟩, hk.2.2.2.2.1⟩))) hg hat)
    replace HO228 := am_ (Kd.R_after (ok := (fun k_ => some k_ ≠ (v215 : Value).ownBlock ∧ some k_ ≠ (.slice Ao113 y220.length co113 : Value).ownBlock ∧ some k_ ≠ (.slice Ao114 y223.length co114 : Value).ownBlock ∧ some k_ ≠ (.slice Ao118 t229.length co118 : Value).ownBlock ∧ some k_ ≠ (.slice Ao125 y235.length co125 : Value).ownBlock)) (tR (Kd.R_mono HO228.out (fun _ hk => ⟨⟨hk.1, ⟨hk.2.1, ⟨hk.2.2.1, ⟨hk.2.2.2.1, hk.2.2.2.2.2⟩⟩⟩⟩, hk.2.2.2.2.1⟩))) hg hat)
    replace HO231 := am_ (Kd.R_after (ok := (fun k_ => some k_ ≠ (v215 : Value).ownBlock ∧ some k_ ≠ (.slice Ao113 y220.length co113 : Value).ownBlock ∧ some k_ ≠ (.slice Ao114 y223.length co114 : Value).ownBlock ∧ some k_ ≠ (.slice Ao116 t226.length co116 : Value).ownBlock ∧ some k_ ≠ (.slice Ao125 y235.length co125 : Value).ownBlock)) (tR (Kd.R_mono HO231.out (fun _ hk => ⟨⟨hk.1, ⟨hk.2.1, ⟨hk.2.2.1, ⟨hk.2.2.2.1, hk.2.2.2.2.2⟩⟩⟩⟩, hk.2.2.2.2.1⟩))) hg hat)
    replace HO237 := am_ (Kd.R_after (ok := (fun k_ => some k_ ≠ (v215 : Value).ownBlock ∧ some k_ ≠ (.slice Ao113 y220.length co113 : Value).ownBlock ∧ some k_ ≠ (.slice Ao114 y223.length co114 : Value).ownBlock ∧ some k_ ≠ (.slice Ao116 t226.length co116 : Value).ownBlock ∧ some k_ ≠ (.slice Ao118 t229.length co118 : Value).ownBlock)) (tR (Kd.R_mono HO237.out (fun _ hk => ⟨⟨hk.1, ⟨hk.2.1, ⟨hk.2.2.1, ⟨hk.2.2.2.1, hk.2.2.2.2.1⟩⟩⟩⟩, hk.2.2.2.2.2⟩))) hg hat)
    replace HB := am_ (hb)
    have HO240 := am_ (ho)
    clear HO234
    clear ho hb hg hat
    obtain ⟨Ao126, co126, eo126⟩ := Kd.R_slice HO240.out
    (first | subst eo126 | (injection eo126 with f1_ f2_ f3_; have f4_ := f1_.symm; have f5_ := f3_.symm; clear f1_ f2_ f3_; subst f4_; subst f5_))
    refine hK.out _ _ (cz7 BK209.out) (fun hHeld => ?_)
    clear hK K
    refine norm_ (a' := ?_) ?_ ?_
    rotate_left
    ·
     show Act.put _ (some 110) _ = _
     exact ap_
    refine one_ (i := 13) (N := some 113) (rl [16,2]) rfl rfl (one_of HT_.out (by kernel_rfl)) (by decide) (fun K hK => ?_)
    refine goes_ Try.func89 (by kernel_rfl) rfl #[.slice Ao126 y238.length co126, .int .i64 a0_14] (by rfl) rfl rfl la_ ?_
    with_reducible refine (spec_PutWord.calls _ _ y238 a0_14 t241 _ ?side1 ?side2 A102.out).mono ?_
    (case side1 => exact qC ((Kd.R_reads' HO240.out).2.2))
    (case side2 => exact (Kd.R_reads' HO240.out).2.1)
    rintro e w127 ⟨v242, rfl, ho0, hb⟩
    refine ⟨_, rfl, ?_⟩
    have HO243 := am_ (Kd.R_lower (Kd.R_new' (Kd.R_new' (Kd.R_new' (Kd.R_new' (Kd.R_new' (Kd.R_new' (Kd.R_new' ho0 (Kd.R_lt (qR HO216))) (Kd.R_lt (qR HO222))) (Kd.R_lt (qR HO225))) (Kd.R_lt (qR HO228))) (Kd.R_lt (qR HO231))) (Kd.R_lt (qR HO237))) (Kd.R_lt (qR HO240))) (below_size (qB HB)))
    replace HO216 := eA_ HO216 ho0 hb
    replace HO222 := eA_ HO222 ho0 hb
    replace HO225 := eA_ HO225 ho0 hb
    replace HO228 := eA_ HO228 ho0 hb
    replace HO231 := eA_ HO231 ho0 hb
    replace HO237 := eA_ HO237 ho0 hb
    replace HO240 := eA_ HO240 ho0 hb
    replace BK167 := bK_ BK167 hb
    replace BK209 := bK_ BK209 hb
    replace HB := bS_ HB hb
    (try clear hb ho0)
    obtain ⟨Ao128, co128, eo128⟩ := Kd.R_slice HO243.out
    (first | subst eo128 | (injection eo128 with f1_ f2_ f3_; have f4_ := f1_.symm; have f5_ := f3_.symm; clear f1_ f2_ f3_; subst f4_; subst f5_))
    refine hK.out _ _ (cz7 BK209.out) (fun hHeld => ?_)
    clear hK K
    refine norm_ (a' := ?_) ?_ ?_
    rotate_left
    ·
     show Act.put _ (some 113) _ = _
     exact ap_
    refine one_ (i := 16) (N := some 116) (rl [17,1]) rfl rfl (one_of HT_.out (by kernel_rfl)) (by decide) (fun K hK => ?_)
    refine goes_ Try.func89 (by kernel_rfl) rfl #[.slice Ao128 t241.length co128, .int .i64 a0_15] (by rfl) rfl rfl la_ ?_
    with_reducible refine (spec_PutWord.calls _ _ t241 a0_15 t244 _ ?side1 ?side2 A103.out).mono ?_
    (case side1 => exact qC ((Kd.R_reads' HO243.out).2.2))
    (case side2 => exact (Kd.R_reads' HO243.out).2.1)
    rintro e w129 ⟨v245, rfl, ho0, hb⟩
    refine ⟨_, rfl, ?_⟩
    have HO246 := am_ (Kd.R_lower (Kd.R_new' (Kd.R_new' (Kd.R_new' (Kd.R_new' (Kd.R_new' (Kd.R_new' (Kd.R_new' (Kd.R_new' ho0 (Kd.R_lt (qR HO216))) (Kd.R_lt (qR HO222))) (Kd.R_lt (qR HO225))) (Kd.R_lt (qR HO228))) (Kd.R_lt (qR HO231))) (Kd.R_lt (qR HO237))) (Kd.R_lt (qR HO240))) (Kd.R_lt (qR HO243))) (below_size (qB HB)))
    replace HO216 := eA_ HO216 ho0 hb
    replace HO222 := eA_ HO222 ho0 hb
    replace HO225 := eA_ HO225 ho0 hb
    replace HO228 := eA_ HO228 ho0 hb
    replace HO231 := eA_ HO231 ho0 hb
    replace HO237 := eA_ HO237 ho0 hb
    replace HO240 := eA_ HO240 ho0 hb
    replace HO243 := eA_ HO243 ho0 hb
    replace BK167 := bK_ BK167 hb
    replace BK209 := bK_ BK209 hb
    replace HB := bS_ HB hb
    (try clear hb ho0)
    refine hK.out _ _ (cz7 BK209.out) (fun hHeld => ?_)
    clear hK K
    refine norm_ (a' := ?_) ?_ ?_
    rotate_left
    ·
     show Act.put _ (some 116) _ = _
     exact ap_
    refine pz_ (i := 17) (N := some 2) HT_ (rl [18]) rfl rfl ?_
    refine done_ (done_of HT_.out (by kernel_rfl)) ?_
    try go_wp2
    go_ret
    exact ⟨_, er_, by (with_reducible repeat (first | apply Kd.R_alloc | apply Kd.R_drewN | apply Kd.R_drew)); exact Kd.R_mono HO246.out (fun _ hk => trivial), qB HB⟩
 rw [if_pos c5] at H
 have c5b0 : (a0_0 == 1) = true := beq_iff_eq.mpr c5
 have c5b1 : (a0_0 != 1) = false := bne_eq_false_iff_eq.mpr c5
 clear c5
 (first | rw [c5b0] | rw [c5b1] | (simp only [i64_w, i32_w]; rw [c5b0]) | skip)
 have HC6 := Aside0.mk H
 clear H
 (try clear zK167)
 have zK167 := cz16 BK167.out
 (try clear fK167)
 have fK167 := fz16 BK167.out
 go_upto_region 3 with (first | ((with_reducible refine gate_dst (N := 3) rfl ?_); refine bx_ (N := 3) (cs := #[.int .i64 0, .string (⟨#[]⟩ : ByteArray), .int .i64 0, .int .i64 0, .int .i64 0, .string (⟨#[]⟩ : ByteArray), .int .i64 0, .int .i64 0]) (t := 25) ?_; intro gb168 hg w8 hbox hb; have BK168 := am_ (hbox); have GW168 := gA_ hg HB; have GE168 := GW168; have IGE168 := gI_ GE168; replace HB := bS_ HB hb; have NB167_168 := am_ ((gN_ hg (qK BK167))); have NB168_167 := am_ ((gM_ hg (qK BK167))); replace BK167 := bK_ BK167 hb; clear hb hbox hg; have hnb9 := NB168_167.out; have hnc9 := NB167_168.out; (try clear zK168); have zK168 := cz8 BK168.out; (try clear fK168); have fK168 := fz8 BK168.out))
 (try simp only [Act.put, List.setIfInBounds_toArray, List.set_cons_zero, List.set_cons_succ])
 go_cut [25] (fun v25 wc => ∃ (kq : Nat) (x25_5 : Bool), v25 = .bool x25_5 ∧ Aside0 (spec_PutItem.j0 kq x25_5 a0_1 a0_2 a0_3 a0_4 a0_5 a0_6 a0_7 a0_8 = some r) ∧ Aside0 (kq ≤ k) ∧ Aside0 (wc.heap[gb167]? = some (.cells #[.int .i64 a0_0, .int .i64 a0_1, .string a0_2, .int .i64 a0_3, .int .i64 a0_4, .int .i64 a0_5, .string a0_6, .int .i64 a0_7, .int .i64 a0_8, .int .i64 a0_9, .string a0_10, .int .i64 a0_11, .int .i64 a0_12, .int .i64 a0_13, .int .i64 a0_14, .int .i64 a0_15] 29 (0, 0))) ∧ Aside0 (wc.heap[gb168]? = some (.cells #[.int .i64 a0_1, .string a0_2, .int .i64 a0_3, .int .i64 a0_4, .int .i64 a0_5, .string a0_6, .int .i64 a0_7, .int .i64 a0_8] 25 (0, 0))) ∧ Aside0 (Below w.heap.size w wc))
 case first =>
  have H := HC6.out
  clear HC6
  replace H := bd_ H
  obtain ⟨t169, A11, H⟩ := H
  by_cases c12 : t169 = true
  rotate_left
  ·
   replace c12 := Bool.eq_false_iff.mpr c12
   subst c12
   rw [if_neg (show ¬ (false = true) by decide)] at H
   have H' := Aside0.mk H
   clear H
   have hnb23 := NB168_167.out
   have hnc23 := NB167_168.out
   (try clear zK168)
   have zK168 := cz8 BK168.out
   (try clear fK168)
   have fK168 := fz8 BK168.out
   go_wp2_with (first | ((with_reducible refine gate_callee (f := 17) rfl ?_); refine gl_ (some 13) Try.func17 #[.agg #[.int .i64 a0_1, .string a0_2, .int .i64 a0_3, .int .i64 a0_4, .int .i64 a0_5, .string a0_6, .int .i64 a0_7, .int .i64 a0_8]] ?_; (with_reducible refine (spec_AskerOk.calls k a0_1 a0_2 a0_3 a0_4 a0_5 a0_6 a0_7 a0_8 false _ A11.out).mono ?_); rintro e w25 ⟨rfl, hb⟩; refine ⟨_, rfl, ?_⟩; replace BK167 := am_ (blk_below (g := gb167) (o := .cells #[.int .i64 a0_0, .int .i64 a0_1, .string a0_2, .int .i64 a0_3, .int .i64 a0_4, .int .i64 a0_5, .string a0_6, .int .i64 a0_7, .int .i64 a0_8, .int .i64 a0_9, .string a0_10, .int .i64 a0_11, .int .i64 a0_12, .int .i64 a0_13, .int .i64 a0_14, .int .i64 a0_15] 29 (0, 0)) (by (with_reducible repeat (first | refine blk_drewN ?_ _ | refine blk_drew ?_ | refine blk_alloc ?_ _)); refine blk_far8 ?_ NB167_168.out; exact qK BK167) hb); replace BK168 := am_ (blk_below (g := gb168) (o := .cells #[.int .i64 a0_1, .string a0_2, .int .i64 a0_3, .int .i64 a0_4, .int .i64 a0_5, .string a0_6, .int .i64 a0_7, .int .i64 a0_8] 25 (0, 0)) (by exact blk_all8 (qK BK168)) hb); replace HB := bS_ HB hb; (try clear hb)))
   go_meet
   case rel => exact ⟨_, (true), eqq_, H', ⟨by first | omega | exact Nat.le_refl _⟩, ⟨qK BK167⟩, ⟨qK BK168⟩, ⟨qB HB⟩⟩
  subst c12
  rw [if_pos rfl] at H
  by_cases c13 : (!(a0_9 == 0) || (!(a0_10.toList == ([] : List UInt8)) || (!(a0_11 == 0) || (!(a0_12 == 0) || (!(a0_13 == 0) || (!(a0_14 == 0) || (!(a0_15 == 0)))))))) = true
  ·
   rw [if_pos c13] at H
   have c13b0 : (!(a0_9 == 0) || (!(a0_10.toList == ([] : List UInt8)) || (!(a0_11 == 0) || (!(a0_12 == 0) || (!(a0_13 == 0) || (!(a0_14 == 0) || (!(a0_15 == 0)))))))) = true := c13
   (try (have c13b0e := c13b0; simp only [beq_nil, bne_nil] at c13b0e))
   clear c13
   (first | rw [c13b0] | (simp only [i64_w, i32_w]; rw [c13b0]) | skip)
   have H' := Aside0.mk H
   clear H
   have hnb14 := NB168_167.out
   have hnc14 := NB167_168.out
   (try clear zK168)
   have zK168 := cz8 BK168.out
   (try clear fK168)
   have fK168 := fz8 BK168.out
   go_wp2_with (first | ((with_reducible refine gate_callee (f := 17) rfl ?_); refine gl_ (some 13) Try.func17 #[.agg #[.int .i64 a0_1, .string a0_2, .int .i64 a0_3, .int .i64 a0_4, .int .i64 a0_5, .string a0_6, .int .i64 a0_7, .int .i64 a0_8]] ?_; (with_reducible refine (spec_AskerOk.calls k a0_1 a0_2 a0_3 a0_4 a0_5 a0_6 a0_7 a0_8 true _ A11.out).mono ?_); rintro e w16 ⟨rfl, hb⟩; refine ⟨_, rfl, ?_⟩; replace BK167 := am_ (blk_below (g := gb167) (o := .cells #[.int .i64 a0_0, .int .i64 a0_1, .string a0_2, .int .i64 a0_3, .int .i64 a0_4, .int .i64 a0_5, .string a0_6, .int .i64 a0_7, .int .i64 a0_8, .int .i64 a0_9, .string a0_10, .int .i64 a0_11, .int .i64 a0_12, .int .i64 a0_13, .int .i64 a0_14, .int .i64 a0_15] 29 (0, 0)) (by (with_reducible repeat (first | refine blk_drewN ?_ _ | refine blk_drew ?_ | refine blk_alloc ?_ _)); refine blk_far8 ?_ NB167_168.out; exact qK BK167) hb); replace BK168 := am_ (blk_below (g := gb168) (o := .cells #[.int .i64 a0_1, .string a0_2, .int .i64 a0_3, .int .i64 a0_4, .int .i64 a0_5, .string a0_6, .int .i64 a0_7, .int .i64 a0_8] 25 (0, 0)) (by exact blk_all8 (qK BK168)) hb); replace HB := bS_ HB hb; (try clear hb); (try clear zK167); have zK167 := cz16 BK167.out; (try clear fK167); have fK167 := fz16 BK167.out))
   go_meet
   case rel => exact ⟨_, (true), eqq_, H', ⟨by first | omega | exact Nat.le_refl _⟩, ⟨qK BK167⟩, ⟨qK BK168⟩, ⟨qB HB⟩⟩
  rw [if_neg c13] at H
  have c13b0 : (!(a0_9 == 0) || (!(a0_10.toList == ([] : List UInt8)) || (!(a0_11 == 0) || (!(a0_12 == 0) || (!(a0_13 == 0) || (!(a0_14 == 0) || (!(a0_15 == 0)))))))) = false := by simpa using c13
  (try (have c13b0e := c13b0; simp only [beq_nil, bne_nil] at c13b0e))
  clear c13
  (first | rw [c13b0] | (simp only [i64_w, i32_w]; rw [c13b0]) | skip)
  have H' := Aside0.mk H
  clear H
  have hnb18 := NB168_167.out
  have hnc18 := NB167_168.out
  (try clear zK168)
  have zK168 := cz8 BK168.out
  (try clear fK168)
  have fK168 := fz8 BK168.out
  go_wp2_with (first | ((with_reducible refine gate_callee (f := 17) rfl ?_); refine gl_ (some 13) Try.func17 #[.agg #[.int .i64 a0_1, .string a0_2, .int .i64 a0_3, .int .i64 a0_4, .int .i64 a0_5, .string a0_6, .int .i64 a0_7, .int .i64 a0_8]] ?_; (with_reducible refine (spec_AskerOk.calls k a0_1 a0_2 a0_3 a0_4 a0_5 a0_6 a0_7 a0_8 true _ A11.out).mono ?_); rintro e w20 ⟨rfl, hb⟩; refine ⟨_, rfl, ?_⟩; replace BK167 := am_ (blk_below (g := gb167) (o := .cells #[.int .i64 a0_0, .int .i64 a0_1, .string a0_2, .int .i64 a0_3, .int .i64 a0_4, .int .i64 a0_5, .string a0_6, .int .i64 a0_7, .int .i64 a0_8, .int .i64 a0_9, .string a0_10, .int .i64 a0_11, .int .i64 a0_12, .int .i64 a0_13, .int .i64 a0_14, .int .i64 a0_15] 29 (0, 0)) (by (with_reducible repeat (first | refine blk_drewN ?_ _ | refine blk_drew ?_ | refine blk_alloc ?_ _)); refine blk_far8 ?_ NB167_168.out; exact qK BK167) hb); replace BK168 := am_ (blk_below (g := gb168) (o := .cells #[.int .i64 a0_1, .string a0_2, .int .i64 a0_3, .int .i64 a0_4, .int .i64 a0_5, .string a0_6, .int .i64 a0_7, .int .i64 a0_8] 25 (0, 0)) (by exact blk_all8 (qK BK168)) hb); replace HB := bS_ HB hb; (try clear hb); (try clear zK167); have zK167 := cz16 BK167.out; (try clear zK168); have zK168 := cz8 BK168.out; (try clear fK168); have fK168 := fz8 BK168.out))
  go_meet
  case rel => exact ⟨_, (decide (a0_8 > 65535)), eqq_, H', ⟨by first | omega | exact Nat.le_refl _⟩, ⟨qK BK167⟩, ⟨qK BK168⟩, ⟨qB HB⟩⟩
 case rest =>
  clear HC6
  try clear c1
  try clear c2
  try clear p2
  try clear c5
  try clear c5b0
  try clear c5b1
  try clear c9
  try clear c12
  try clear c13
  try clear c13b0
  try clear c14
  try clear c17
  try clear c18
  try clear c20
  try clear c23
  (try clear zK168)
  (try clear zK168)
  (try clear zK167)
  (try clear zK168)
  (try clear zK167)
  (try clear zK168)
  (try clear zK168)
  (try clear zK167)
  (try clear zK167)
  (try clear fK168)
  (try clear fK168)
  (try clear fK167)
  (try clear fK168)
  (try clear f21)
  (try clear fK168)
  (try clear fK168)
  (try clear fK167)
  (try clear fK167)
  obtain ⟨kq, x25_5, rfl, HA, HJ5, BK167, BK168, HB⟩ := hcut
  cases kq with
  | zero => exact absurd HA.out (by simp [spec_PutItem.j0])
  | succ kj5 =>
   have H := HA.out
   clear HA
   simp only [spec_PutItem.j0] at H
   by_cases c26 : x25_5 = true
   ·
    subst c26
    rw [if_pos rfl] at H
    obtain ⟨y170, hy170⟩ : ∃ y_ : List Int, y_ = (([] : List Int)) := ⟨_, rfl⟩
    rw [← hy170] at H
    have Ny170 := Aside0.mk hy170
    clear hy170
    obtain rfl := Option.some.inj H
    go_wp2_with (first | ((with_reducible refine gate_dst (N := 26) rfl ?_); refine Kd.R_lit (Kd.int .u8) _ 5 ?hg (N := 26) ?hd (xs := ([] : List Int)) (inner := []) (ok := fun _ => True) (okp := fun _ => True) ?hr ?hp (fun _ hk => hk) trivial (Below.refl _ _) (Nat.le_refl _) (by simp) ?_; (case hd => rfl); (case hg => rfl); (case hr => first | (go_simp; done) | (go_simp; rfl)); (case hp => exact (Reps.none _ _)); intro v171 w27 ho28 hb hg_ hnew_; clear hg_ hnew_; (first | rw [← Ny170.out] at ho28 | (simp only [Int.reduceToNat] at ho28; rw [← Ny170.out] at ho28)); have HO172 := am_ (Kd.R_lower ho28 (below_size (qB HB))); replace BK167 := bK_ BK167 hb; replace BK168 := bK_ BK168 hb; replace HB := bS_ HB hb; clear hb ho28))
    go_ret
    exact ⟨_, er_, qR HO172, qB HB⟩
   replace c26 := Bool.eq_false_iff.mpr c26
   subst c26
   rw [if_neg (show ¬ (false = true) by decide)] at H
   obtain ⟨y173, hy173⟩ : ∃ y_ : List Int, y_ = (([1] : List Int)) := ⟨_, rfl⟩
   rw [← hy173] at H
   have Ny173 := Aside0.mk hy173
   clear hy173
   replace H := bd_ H
   obtain ⟨t176, A29, H⟩ := H
   obtain ⟨y179, hy179⟩ : ∃ y_ : List Int, y_ = (([(a0_3) % 256] : List Int)) := ⟨_, rfl⟩
   replace H := mk_ H hy179
   (try dsimp only at H)
   have Ny179 := Aside0.mk hy179
   clear hy179
   by_cases c30 : t176.length + y179.length < 140737488355328
   case neg => exact nn_ c30 H
   rw [if_pos c30] at H
   have LMc30 := Aside0.mk c30
   clear c30
   obtain ⟨y182, hy182⟩ : ∃ y_ : List Int, y_ = (t176 ++ y179) := ⟨_, rfl⟩
   replace H : ((spec_PutText.f kj5 y182 a0_2).bind fun t185 => ((spec_PutWord.f t185 a0_4).bind fun t188 => ((spec_PutWord.f t188 (wrap64 (Int.tdiv a0_5 256))).bind fun t191 => ((some (([(Int.tmod a0_5 256) % 256] : List Int) : List Int)).bind fun y194 => (if t191.length + y194.length < 140737488355328 then ((spec_PutText.f kj5 (t191 ++ y194) a0_6).bind fun t200 => ((spec_PutWord.f t200 a0_7).bind fun t203 => ((spec_PutWord.f t203 a0_8).bind fun t206 => (some t206)))) else (none)))))) = some r := by first | (rw [hy182]; with_reducible exact H) | (have H2_ := (Option.bind_some _ _).symm.trans H; rw [hy182]; with_reducible exact H2_) | (have H2_ := (Option.bind_some _ _).symm.trans H; with_reducible exact H2_) | with_reducible exact H | (rw [hy182]; exact H) | exact H
   have Ny182 := Aside0.mk hy182
   clear hy182
   replace H := bd_ H
   obtain ⟨t185, A31, H⟩ := H
   replace H := bd_ H
   obtain ⟨t188, A32, H⟩ := H
   replace H := bd_ H
   obtain ⟨t191, A33, H⟩ := H
   obtain ⟨y194, hy194⟩ : ∃ y_ : List Int, y_ = (([(Int.tmod a0_5 256) % 256] : List Int)) := ⟨_, rfl⟩
   replace H := mk_ H hy194
   (try dsimp only at H)
   have Ny194 := Aside0.mk hy194
   clear hy194
   by_cases c34 : t191.length + y194.length < 140737488355328
   case neg => exact nn_ c34 H
   rw [if_pos c34] at H
   have LMc34 := Aside0.mk c34
   clear c34
   obtain ⟨y197, hy197⟩ : ∃ y_ : List Int, y_ = (t191 ++ y194) := ⟨_, rfl⟩
   replace H : ((spec_PutText.f kj5 y197 a0_6).bind fun t200 => ((spec_PutWord.f t200 a0_7).bind fun t203 => ((spec_PutWord.f t203 a0_8).bind fun t206 => (some t206)))) = some r := by first | (rw [hy197]; with_reducible exact H) | (have H2_ := (Option.bind_some _ _).symm.trans H; rw [hy197]; with_reducible exact H2_) | (have H2_ := (Option.bind_some _ _).symm.trans H; with_reducible exact H2_) | with_reducible exact H | (rw [hy197]; exact H) | exact H
   have Ny197 := Aside0.mk hy197
   clear hy197
   replace H := bd_ H
   obtain ⟨t200, A35, H⟩ := H
   replace H := bd_ H
   obtain ⟨t203, A36, H⟩ := H
   replace H := bd_ H
   obtain ⟨t206, A37, H⟩ := H
   obtain rfl := Option.some.inj H
   try go_wp2
   replace BK167 := am_ (blk_drew BK167.out)
   replace BK168 := am_ (blk_drew BK168.out)
   replace HB := am_ (below_drew1 HB.out)
   refine start_ (n := 13) (S := fun w' => w'.cell? ⟨gb168, 0, none⟩ = some (.int .i64 a0_1) ∧ w'.cell? ⟨gb168, 1, none⟩ = some (.string a0_2) ∧ w'.cell? ⟨gb168, 2, none⟩ = some (.int .i64 a0_3) ∧ w'.cell? ⟨gb168, 3, none⟩ = some (.int .i64 a0_4) ∧ w'.cell? ⟨gb168, 4, none⟩ = some (.int .i64 a0_5) ∧ w'.cell? ⟨gb168, 5, none⟩ = some (.string a0_6) ∧ w'.cell? ⟨gb168, 6, none⟩ = some (.int .i64 a0_7) ∧ w'.cell? ⟨gb168, 7, none⟩ = some (.int .i64 a0_8)) (ds := []) (rl [0,13]) (by kernel_rfl) rfl rfl (cz8 BK168.out) (fun hHeld => ?_); refine with_tabW spec_PutItem.tab5 spec_PutItem.bits5 (fun HT_ HW_ => ?_)
   generalize wc.drew = w38 at BK167 BK168 HB hHeld ⊢
   refine pz_ (i := 1) (N := some 28) HT_ (rl [0,1,1,11]) rfl rfl ?_
   refine pz_ (i := 4) (N := some 31) HT_ (rl [0,1,1,2,1,8]) rfl rfl ?_
   refine pz_ (i := 9) (N := some 36) HT_ (rl [0,1,1,2,1,4,1,3]) rfl rfl ?_
   refine tz_ (i := 2) (N := some 29) HT_ HW_ (rl [0,1,2,1,1,4,1,3]) rfl rfl hHeld ?_
   refine tz_ (i := 5) (N := some 32) HT_ HW_ (rl [0,1,2,1,2,3,1,3]) rfl rfl hHeld ?_
   refine pz_ (i := 6) (N := some 33) HT_ (rl [0,1,2,1,3,2,1,3]) rfl rfl ?_
   refine tz_ (i := 10) (N := some 37) HT_ HW_ (rl [0,1,2,1,3,2,2,2]) rfl rfl hHeld ?_
   refine join_ (σ := Value × Value × Value) 3 (rl [8,1,2,2]) (fun s_ => [(27, s_.1), (30, s_.2.1), (34, s_.2.2)]) (fun s_ w' => (w'.cell? ⟨gb168, 0, none⟩ = some (.int .i64 a0_1) ∧ w'.cell? ⟨gb168, 1, none⟩ = some (.string a0_2) ∧ w'.cell? ⟨gb168, 2, none⟩ = some (.int .i64 a0_3) ∧ w'.cell? ⟨gb168, 3, none⟩ = some (.int .i64 a0_4) ∧ w'.cell? ⟨gb168, 4, none⟩ = some (.int .i64 a0_5) ∧ w'.cell? ⟨gb168, 5, none⟩ = some (.string a0_6) ∧ w'.cell? ⟨gb168, 6, none⟩ = some (.int .i64 a0_7) ∧ w'.cell? ⟨gb168, 7, none⟩ = some (.int .i64 a0_8)) ∧ (Kd.R (Kd.int .u8) 5 w' w.heap.size (fun k_ => some k_ ≠ (s_.2.1 : Value).ownBlock ∧ some k_ ≠ (s_.2.2 : Value).ownBlock) s_.1 y173) ∧ (Kd.R (Kd.int .u8) 5 w' w.heap.size (fun k_ => some k_ ≠ (s_.1 : Value).ownBlock ∧ some k_ ≠ (s_.2.2 : Value).ownBlock) s_.2.1 t176) ∧ (Kd.R (Kd.int .u8) 5 w' w.heap.size (fun k_ => some k_ ≠ (s_.1 : Value).ownBlock ∧ some k_ ≠ (s_.2.1 : Value).ownBlock) s_.2.2 y179) ∧ (w'.heap[gb167]? = some (.cells #[.int .i64 a0_0, .int .i64 a0_1, .string a0_2, .int .i64 a0_3, .int .i64 a0_4, .int .i64 a0_5, .string a0_6, .int .i64 a0_7, .int .i64 a0_8, .int .i64 a0_9, .string a0_10, .int .i64 a0_11, .int .i64 a0_12, .int .i64 a0_13, .int .i64 a0_14, .int .i64 a0_15] 29 (0, 0))) ∧ (w'.heap[gb168]? = some (.cells #[.int .i64 a0_1, .string a0_2, .int .i64 a0_3, .int .i64 a0_4, .int .i64 a0_5, .string a0_6, .int .i64 a0_7, .int .i64 a0_8] 25 (0, 0))) ∧ (Below w.heap.size w w')) ?_ ?_
   rotate_left
   ·
    intro hCont
    refine two_ (i := 0) (j := 7) (Ni := some 27) (Nj := some 34) (rl [3,1,3,2,2,2]) (rl [0,1,2,1,4,1,2,2]) rfl rfl rfl rfl (two_of HT_.out (by kernel_rfl)) (by decide) (by decide) (fun K hK => ?_) (fun K hK => ?_)
    ·
     skip
     refine Kd.R_lit_step (Kd.int .u8) _ 5 ?hg (N := 27) ?hd (xs := ([1] : List Int)) (inner := [.int .u8 1]) (ok := fun _ => True) (okp := fun _ => True) ?hr ?hp (fun _ hk => hk) trivial (Below.refl _ _) (Nat.le_refl _) (by simp) ?_; (case hd => rfl); (case hg => rfl); (case hr => first | (go_simp; done) | (go_simp; rfl)); (case hp => exact (Reps.one (show Kd.M (Kd.int .u8) _ _ _ 1 [.int .u8 1] from rfl) (Reps.none _ _)))
     intro v174 w39 ho40 hb hg_ hnew_
     clear hg_ hnew_
     (first | rw [← Ny173.out] at ho40 | (simp only [Int.reduceToNat] at ho40; rw [← Ny173.out] at ho40))
     have HO175 := am_ (Kd.R_lower ho40 (below_size (qB HB)))
     replace BK167 := bK_ BK167 hb
     replace BK168 := bK_ BK168 hb
     replace HB := bS_ HB hb
     clear hb ho40
     obtain ⟨Ao41, co41, eo41⟩ := Kd.R_slice HO175.out
     (first | subst eo41 | (injection eo41 with f1_ f2_ f3_; have f4_ := f1_.symm; have f5_ := f3_.symm; clear f1_ f2_ f3_; subst f4_; subst f5_))
     refine hK.out _ _ (cz8 BK168.out) (fun hHeld => ?_)
     clear hK K
     refine norm_ (a' := ?_) ?_ ?_
     rotate_left
     ·
      show Act.put _ (some 27) _ = _
      exact ap_
     refine two_ (i := 3) (j := 7) (Ni := some 30) (Nj := some 34) (rl [7,2,2,2]) (rl [3,1,4,1,2,2]) rfl rfl rfl rfl (two_of HT_.out (by kernel_rfl)) (by decide) (by decide) (fun K hK => ?_) (fun K hK => ?_)
     ·
      skip
      refine goes_ Try.func89 (by kernel_rfl) rfl #[.slice Ao41 y173.length co41, .int .i64 a0_1] (by rfl) rfl rfl la_ ?_
      with_reducible refine (spec_PutWord.calls _ _ y173 a0_1 t176 _ ?side1 ?side2 A29.out).mono ?_
      (case side1 => exact qC ((Kd.R_reads' HO175.out).2.2))
      (case side2 => exact (Kd.R_reads' HO175.out).2.1)
      rintro e w42 ⟨v177, rfl, ho0, hb⟩
      refine ⟨_, rfl, ?_⟩
      have HO178 := am_ (Kd.R_lower (Kd.R_new' ho0 (Kd.R_lt (qR HO175))) (below_size (qB HB)))
      replace HO175 := eA_ HO175 ho0 hb
      replace BK167 := bK_ BK167 hb
      replace BK168 := bK_ BK168 hb
      replace HB := bS_ HB hb
      (try clear hb ho0)
      refine hK.out _ _ (cz8 BK168.out) (fun hHeld => ?_)
      clear hK K
      refine norm_ (a' := ?_) ?_ ?_
      rotate_left
      ·
       show Act.put _ (some 30) _ = _
       exact ap_
      refine one_ (i := 7) (N := some 34) (rl [8,1,2,2]) rfl rfl (one_of HT_.out (by kernel_rfl)) (by decide) (fun K hK => ?_)
      refine Kd.R_lit_step (Kd.int .u8) _ 5 ?hg (N := 34) ?hd (xs := ([(a0_3) % 256] : List Int)) (inner := [.int .u8 ((a0_3) % 256)]) (ok := fun _ => True) (okp := fun _ => True) ?hr ?hp (fun _ hk => hk) trivial (Below.refl _ _) (Nat.le_refl _) (by simp) ?_; (case hd => rfl); (case hg => rfl); (case hr => first | (go_simp; done) | (go_simp; rfl)); (case hp => exact (Reps.one (show Kd.M (Kd.int .u8) _ _ _ ((a0_3) % 256) [.int .u8 ((a0_3) % 256)] from rfl) (Reps.none _ _)))
      intro v180 w43 ho44 hb hg_ hnew_
      clear hg_ hnew_
      (first | rw [← Ny179.out] at ho44 | (simp only [Int.reduceToNat] at ho44; rw [← Ny179.out] at ho44))
      have HO181 := am_ (Kd.R_lower (Kd.R_new' (Kd.R_new' ho44 (Kd.R_lt (qR HO175))) (Kd.R_lt (qR HO178))) (below_size (qB HB)))
      replace HO175 := eA_ HO175 ho44 hb
      replace HO178 := eA_ HO178 ho44 hb
      replace BK167 := bK_ BK167 hb
      replace BK168 := bK_ BK168 hb
      replace HB := bS_ HB hb
      clear hb ho44
      refine hK.out _ _ (cz8 BK168.out) (fun hHeld => ?_)
      clear hK K
      refine norm_ (a' := ?_) ?_ ?_
      rotate_left
      ·
       show Act.put _ (some 34) _ = _
       exact ap_
      exact norm_ (by simp only [putAll, Act.put, List.setIfInBounds_toArray, List.set_cons_zero, List.set_cons_succ]) (hCont (.slice Ao41 y173.length co41, v177, v180) _ ⟨hHeld, (tR (Kd.R_mono HO175.out (fun _ hk => ⟨hk.1.2, hk.2⟩))), (tR (Kd.R_mono HO178.out (fun _ hk => ⟨hk.1.2, hk.2⟩))), (tR (Kd.R_mono HO181.out (fun _ hk => ⟨hk.1.2, hk.2⟩))), (qK BK167), (qK BK168), (qB HB)⟩)
     ·
      skip
      refine Kd.R_lit_step (Kd.int .u8) _ 5 ?hg (N := 34) ?hd (xs := ([(a0_3) % 256] : List Int)) (inner := [.int .u8 ((a0_3) % 256)]) (ok := fun _ => True) (okp := fun _ => True) ?hr ?hp (fun _ hk => hk) trivial (Below.refl _ _) (Nat.le_refl _) (by simp) ?_; (case hd => rfl); (case hg => rfl); (case hr => first | (go_simp; done) | (go_simp; rfl)); (case hp => exact (Reps.one (show Kd.M (Kd.int .u8) _ _ _ ((a0_3) % 256) [.int .u8 ((a0_3) % 256)] from rfl) (Reps.none _ _)))
      intro v180 w41 ho42 hb hg_ hnew_
      clear hg_ hnew_
      (first | rw [← Ny179.out] at ho42 | (simp only [Int.reduceToNat] at ho42; rw [← Ny179.out] at ho42))
      have HO181 := am_ (Kd.R_lower (Kd.R_new' ho42 (Kd.R_lt (qR HO175))) (below_size (qB HB)))
      replace HO175 := eA_ HO175 ho42 hb
      replace BK167 := bK_ BK167 hb
      replace BK168 := bK_ BK168 hb
      replace HB := bS_ HB hb
      clear hb ho42
      obtain ⟨Ao43, co43, eo43⟩ := Kd.R_slice HO175.out
      (first | subst eo43 | (injection eo43 with f1_ f2_ f3_; have f4_ := f1_.symm; have f5_ := f3_.symm; clear f1_ f2_ f3_; subst f4_; subst f5_))
      refine hK.out _ _ (cz8 BK168.out) (fun hHeld => ?_)
      clear hK K
      refine norm_ (a' := ?_) ?_ ?_
      rotate_left
      ·
       show Act.put _ (some 34) _ = _
       exact ap_
      refine one_ (i := 3) (N := some 30) (rl [8,1,2,2]) rfl rfl (one_of HT_.out (by kernel_rfl)) (by decide) (fun K hK => ?_)
      refine goes_ Try.func89 (by kernel_rfl) rfl #[.slice Ao43 y173.length co43, .int .i64 a0_1] (by rfl) rfl rfl la_ ?_
      with_reducible refine (spec_PutWord.calls _ _ y173 a0_1 t176 _ ?side1 ?side2 A29.out).mono ?_
      (case side1 => exact qC ((Kd.R_reads' HO175.out).2.2))
      (case side2 => exact (Kd.R_reads' HO175.out).2.1)
      rintro e w44 ⟨v177, rfl, ho0, hb⟩
      refine ⟨_, rfl, ?_⟩
      have HO178 := am_ (Kd.R_lower (Kd.R_new' (Kd.R_new' ho0 (Kd.R_lt (qR HO175))) (Kd.R_lt (qR HO181))) (below_size (qB HB)))
      replace HO175 := eA_ HO175 ho0 hb
      replace HO181 := eA_ HO181 ho0 hb
      replace BK167 := bK_ BK167 hb
      replace BK168 := bK_ BK168 hb
      replace HB := bS_ HB hb
      (try clear hb ho0)
      refine hK.out _ _ (cz8 BK168.out) (fun hHeld => ?_)
      clear hK K
      refine norm_ (a' := ?_) ?_ ?_
      rotate_left
      ·
       show Act.put _ (some 30) _ = _
       exact ap_
      exact norm_ (by simp only [putAll, Act.put, List.setIfInBounds_toArray, List.set_cons_zero, List.set_cons_succ]) (hCont (.slice Ao43 y173.length co43, v177, v180) _ ⟨hHeld, (tR (Kd.R_mono HO175.out (fun _ hk => ⟨hk.2, hk.1.2⟩))), (tR (Kd.R_mono HO178.out (fun _ hk => ⟨hk.1.2, hk.2⟩))), (tR (Kd.R_mono HO181.out (fun _ hk => ⟨hk.1.2, hk.2⟩))), (qK BK167), (qK BK168), (qB HB)⟩)
    ·
     skip
     refine Kd.R_lit_step (Kd.int .u8) _ 5 ?hg (N := 34) ?hd (xs := ([(a0_3) % 256] : List Int)) (inner := [.int .u8 ((a0_3) % 256)]) (ok := fun _ => True) (okp := fun _ => True) ?hr ?hp (fun _ hk => hk) trivial (Below.refl _ _) (Nat.le_refl _) (by simp) ?_; (case hd => rfl); (case hg => rfl); (case hr => first | (go_simp; done) | (go_simp; rfl)); (case hp => exact (Reps.one (show Kd.M (Kd.int .u8) _ _ _ ((a0_3) % 256) [.int .u8 ((a0_3) % 256)] from rfl) (Reps.none _ _)))
     intro v180 w39 ho40 hb hg_ hnew_
     clear hg_ hnew_
     (first | rw [← Ny179.out] at ho40 | (simp only [Int.reduceToNat] at ho40; rw [← Ny179.out] at ho40))
     have HO181 := am_ (Kd.R_lower ho40 (below_size (qB HB)))
     replace BK167 := bK_ BK167 hb
     replace BK168 := bK_ BK168 hb
     replace HB := bS_ HB hb
     clear hb ho40
     refine hK.out _ _ (cz8 BK168.out) (fun hHeld => ?_)
     clear hK K
     refine norm_ (a' := ?_) ?_ ?_
     rotate_left
     ·
      show Act.put _ (some 34) _ = _
      exact ap_
     refine one_ (i := 0) (N := some 27) (rl [3,1,4,1,2,2]) rfl rfl (one_of HT_.out (by kernel_rfl)) (by decide) (fun K hK => ?_)
     refine Kd.R_lit_step (Kd.int .u8) _ 5 ?hg (N := 27) ?hd (xs := ([1] : List Int)) (inner := [.int .u8 1]) (ok := fun _ => True) (okp := fun _ => True) ?hr ?hp (fun _ hk => hk) trivial (Below.refl _ _) (Nat.le_refl _) (by simp) ?_; (case hd => rfl); (case hg => rfl); (case hr => first | (go_simp; done) | (go_simp; rfl)); (case hp => exact (Reps.one (show Kd.M (Kd.int .u8) _ _ _ 1 [.int .u8 1] from rfl) (Reps.none _ _)))
     intro v174 w41 ho42 hb hg_ hnew_
     clear hg_ hnew_
     (first | rw [← Ny173.out] at ho42 | (simp only [Int.reduceToNat] at ho42; rw [← Ny173.out] at ho42))
     have HO175 := am_ (Kd.R_lower (Kd.R_new' ho42 (Kd.R_lt (qR HO181))) (below_size (qB HB)))
     replace HO181 := eA_ HO181 ho42 hb
     replace BK167 := bK_ BK167 hb
     replace BK168 := bK_ BK168 hb
     replace HB := bS_ HB hb
     clear hb ho42
     obtain ⟨Ao43, co43, eo43⟩ := Kd.R_slice HO175.out
     (first | subst eo43 | (injection eo43 with f1_ f2_ f3_; have f4_ := f1_.symm; have f5_ := f3_.symm; clear f1_ f2_ f3_; subst f4_; subst f5_))
     refine hK.out _ _ (cz8 BK168.out) (fun hHeld => ?_)
     clear hK K
     refine norm_ (a' := ?_) ?_ ?_
     rotate_left
     ·
      show Act.put _ (some 27) _ = _
      exact ap_
     refine one_ (i := 3) (N := some 30) (rl [8,1,2,2]) rfl rfl (one_of HT_.out (by kernel_rfl)) (by decide) (fun K hK => ?_)
     refine goes_ Try.func89 (by kernel_rfl) rfl #[.slice Ao43 y173.length co43, .int .i64 a0_1] (by rfl) rfl rfl la_ ?_
     with_reducible refine (spec_PutWord.calls _ _ y173 a0_1 t176 _ ?side1 ?side2 A29.out).mono ?_
     (case side1 => exact qC ((Kd.R_reads' HO175.out).2.2))
     (case side2 => exact (Kd.R_reads' HO175.out).2.1)
     rintro e w44 ⟨v177, rfl, ho0, hb⟩
     refine ⟨_, rfl, ?_⟩
     have HO178 := am_ (Kd.R_lower (Kd.R_new' (Kd.R_new' ho0 (Kd.R_lt (qR HO181))) (Kd.R_lt (qR HO175))) (below_size (qB HB)))
     replace HO181 := eA_ HO181 ho0 hb
     replace HO175 := eA_ HO175 ho0 hb
     replace BK167 := bK_ BK167 hb
     replace BK168 := bK_ BK168 hb
     replace HB := bS_ HB hb
     (try clear hb ho0)
     refine hK.out _ _ (cz8 BK168.out) (fun hHeld => ?_)
     clear hK K
     refine norm_ (a' := ?_) ?_ ?_
     rotate_left
     ·
      show Act.put _ (some 30) _ = _
      exact ap_
     exact norm_ (by simp only [putAll, Act.put, List.setIfInBounds_toArray, List.set_cons_zero, List.set_cons_succ]) (hCont (.slice Ao43 y173.length co43, v177, v180) _ ⟨hHeld, (tR (Kd.R_mono HO175.out (fun _ hk => ⟨hk.2, hk.1.2⟩))), (tR (Kd.R_mono HO178.out (fun _ hk => ⟨hk.2, hk.1.2⟩))), (tR (Kd.R_mono HO181.out (fun _ hk => ⟨hk.1.2, hk.2⟩))), (qK BK167), (qK BK168), (qB HB)⟩)
   rintro ⟨v174, v177, v180⟩ w45 ⟨hS_, h0_, h1_, h2_, h3_, h4_, h5_⟩
   have n0_ : Aside0 (Kd.R (Kd.int .u8) 5 w45 w.heap.size (fun k_ => some k_ ≠ (v177 : Value).ownBlock ∧ some k_ ≠ (v180 : Value).ownBlock) v174 y173) := ⟨h0_⟩
   have n1_ : Aside0 (Kd.R (Kd.int .u8) 5 w45 w.heap.size (fun k_ => some k_ ≠ (v174 : Value).ownBlock ∧ some k_ ≠ (v180 : Value).ownBlock) v177 t176) := ⟨h1_⟩
   have n2_ : Aside0 (Kd.R (Kd.int .u8) 5 w45 w.heap.size (fun k_ => some k_ ≠ (v174 : Value).ownBlock ∧ some k_ ≠ (v177 : Value).ownBlock) v180 y179) := ⟨h2_⟩
   have n3_ : Aside0 (w45.heap[gb167]? = some (.cells #[.int .i64 a0_0, .int .i64 a0_1, .string a0_2, .int .i64 a0_3, .int .i64 a0_4, .int .i64 a0_5, .string a0_6, .int .i64 a0_7, .int .i64 a0_8, .int .i64 a0_9, .string a0_10, .int .i64 a0_11, .int .i64 a0_12, .int .i64 a0_13, .int .i64 a0_14, .int .i64 a0_15] 29 (0, 0))) := ⟨h3_⟩
   have n4_ : Aside0 (w45.heap[gb168]? = some (.cells #[.int .i64 a0_1, .string a0_2, .int .i64 a0_3, .int .i64 a0_4, .int .i64 a0_5, .string a0_6, .int .i64 a0_7, .int .i64 a0_8] 25 (0, 0))) := ⟨h4_⟩
   have n5_ : Aside0 (Below w.heap.size w w45) := ⟨h5_⟩
   clear BK167
   clear BK168
   clear HB
   clear h0_ h1_ h2_ h3_ h4_ h5_
   have HO175 := n0_
   have HO178 := n1_
   have HO181 := n2_
   have BK167 := n3_
   have BK168 := n4_
   have HB := n5_
   clear n0_ n1_ n2_ n3_ n4_ n5_
   have hHeld : w45.cell? ⟨gb168, 0, none⟩ = some (.int .i64 a0_1) ∧ w45.cell? ⟨gb168, 1, none⟩ = some (.string a0_2) ∧ w45.cell? ⟨gb168, 2, none⟩ = some (.int .i64 a0_3) ∧ w45.cell? ⟨gb168, 3, none⟩ = some (.int .i64 a0_4) ∧ w45.cell? ⟨gb168, 4, none⟩ = some (.int .i64 a0_5) ∧ w45.cell? ⟨gb168, 5, none⟩ = some (.string a0_6) ∧ w45.cell? ⟨gb168, 6, none⟩ = some (.int .i64 a0_7) ∧ w45.cell? ⟨gb168, 7, none⟩ = some (.int .i64 a0_8) := hS_
   obtain ⟨Ao47, co47, eo47⟩ := Kd.R_slice HO181.out
   (first | subst eo47 | (injection eo47 with f1_ f2_ f3_; have f4_ := f1_.symm; have f5_ := f3_.symm; clear f1_ f2_ f3_; subst f4_; subst f5_))
   refine norm_ (a' := ?_) ?_ ?_
   rotate_left
   ·
    simp only [putAll, Act.put, List.setIfInBounds_toArray, List.set_cons_zero, List.set_cons_succ]
    rfl
   refine one_ (i := 8) (N := some 35) (rl [11,2]) rfl rfl (one_of HT_.out (by kernel_rfl)) (by decide) (fun K hK => ?_)
   refine Kd.R_append_rows_step (Kd.int .u8) (w0 := w) w.heap.size (by rfl) (.tmp 30) (.tmp 34) 22 5 (.int .u8 0) 1 rfl Try.underlying22 info5 rfl (by decide) (by omega) v177 t176 y179 _ _ _ (fun k_ => some k_ ≠ (v174 : Value).ownBlock ∧ some k_ ≠ (.slice Ao47 y179.length co47 : Value).ownBlock) (fun _ => False) rfl rfl ?aO ?aR (fun _ _ h => h) (fun _ h => h.elim) ?aF ?aB ?aS ?aL ?_
   (case aR => exact qC ((Kd.R_reads' HO181.out).2.2))
   (case aB => exact (qB HB))
   (case aF => exact (fun k_ hk => ⟨Kd.fresh' (Kd.R_lt (qR HO175)) k_ hk, Kd.fresh' (Kd.R_lt (qR HO181)) k_ hk⟩))
   (case aO => exact (qR HO178))
   (case aS => exact (below_size (qB HB)))
   (case aL => have := LMc30.out; omega)
   intro v183 w46 ho hb hg hat
   rw [← Ny182.out] at ho
   replace BK167 := am_ (blk_grown (qK BK167) hg (Kd.R_ne HO178.out BK167.out (by decide)))
   replace BK168 := am_ (blk_grown (qK BK168) hg (Kd.R_ne HO178.out BK168.out (by decide)))
   replace HO175 := am_ (Kd.R_after (ok := (fun k_ => some k_ ≠ (.slice Ao47 y179.length co47 : Value).ownBlock)) (tR (Kd.R_mono HO175.out (fun _ hk => ⟨hk.2, hk.1⟩))) hg hat)
   replace HO181 := am_ (Kd.R_after (ok := (fun k_ => some k_ ≠ (v174 : Value).ownBlock)) (qR HO181) hg hat)
   replace HB := am_ (hb)
   have HO184 := am_ (ho)
   clear HO178
   clear ho hb hg hat
   obtain ⟨Ao48, co48, eo48⟩ := Kd.R_slice HO184.out
   (first | subst eo48 | (injection eo48 with f1_ f2_ f3_; have f4_ := f1_.symm; have f5_ := f3_.symm; clear f1_ f2_ f3_; subst f4_; subst f5_))
   refine hK.out _ _ (cz8 BK168.out) (fun hHeld => ?_)
   clear hK K
   refine norm_ (a' := ?_) ?_ ?_
   rotate_left
   ·
    show Act.put _ (some 35) _ = _
    exact ap_
   refine one_ (i := 11) (N := some 38) (rl [12,1]) rfl rfl (one_of HT_.out (by kernel_rfl)) (by decide) (fun K hK => ?_)
   refine goes_ Try.func88 (by kernel_rfl) rfl #[.slice Ao48 y182.length co48, .string a0_2] (by rfl) rfl rfl la_ ?_
   with_reducible refine (spec_PutText.calls kj5 _ _ y182 a0_2 t185 _ ?side1 ?side2 A31.out).mono ?_
   (case side1 => exact qC ((Kd.R_reads' HO184.out).2.2))
   (case side2 => exact (Kd.R_reads' HO184.out).2.1)
   rintro e w49 ⟨v186, rfl, ho0, hb⟩
   refine ⟨_, rfl, ?_⟩
   have HO187 := am_ (Kd.R_lower (Kd.R_new' (Kd.R_new' (Kd.R_new' ho0 (Kd.R_lt (qR HO175))) (Kd.R_lt (qR HO181))) (Kd.R_lt (qR HO184))) (below_size (qB HB)))
   replace HO175 := eA_ HO175 ho0 hb
   replace HO181 := eA_ HO181 ho0 hb
   replace HO184 := eA_ HO184 ho0 hb
   replace BK167 := bK_ BK167 hb
   replace BK168 := bK_ BK168 hb
   replace HB := bS_ HB hb
   (try clear hb ho0)
   refine hK.out _ _ (cz8 BK168.out) (fun hHeld => ?_)
   clear hK K
   refine norm_ (a' := ?_) ?_ ?_
   rotate_left
   ·
    show Act.put _ (some 38) _ = _
    exact ap_
   refine pz_ (i := 12) (N := some 4) HT_ (rl [13]) rfl rfl ?_
   refine done_ (done_of HT_.out (by kernel_rfl)) ?_
   obtain ⟨Ao50, co50, eo50⟩ := Kd.R_slice HO187.out
   subst eo50
   try go_wp2
   replace HO175 := am_ (Kd.R_drew HO175.out)
   replace HO181 := am_ (Kd.R_drew HO181.out)
   replace HO184 := am_ (Kd.R_drew HO184.out)
   replace HO187 := am_ (Kd.R_drew HO187.out)
   replace BK167 := am_ (blk_drew BK167.out)
   replace BK168 := am_ (blk_drew BK168.out)
   replace HB := am_ (below_drew1 HB.out)
   refine start_ (n := 15) (S := fun w' => w'.cell? ⟨gb168, 0, none⟩ = some (.int .i64 a0_1) ∧ w'.cell? ⟨gb168, 1, none⟩ = some (.string a0_2) ∧ w'.cell? ⟨gb168, 2, none⟩ = some (.int .i64 a0_3) ∧ w'.cell? ⟨gb168, 3, none⟩ = some (.int .i64 a0_4) ∧ w'.cell? ⟨gb168, 4, none⟩ = some (.int .i64 a0_5) ∧ w'.cell? ⟨gb168, 5, none⟩ = some (.string a0_6) ∧ w'.cell? ⟨gb168, 6, none⟩ = some (.int .i64 a0_7) ∧ w'.cell? ⟨gb168, 7, none⟩ = some (.int .i64 a0_8)) (ds := []) (rl [0,15]) (by kernel_rfl) rfl rfl (cz8 BK168.out) (fun hHeld => ?_); refine with_tabW spec_PutItem.tab6 spec_PutItem.bits6 (fun HT_ HW_ => ?_)
   generalize w49.drew = w51 at HO175 HO181 HO184 HO187 BK167 BK168 HB hHeld ⊢
   refine pz_ (i := 0) (N := some 39) HT_ (rl [1,14]) rfl rfl ?_
   refine pz_ (i := 1) (N := some 40) HT_ (rl [2,13]) rfl rfl ?_
   refine pz_ (i := 4) (N := some 43) HT_ (rl [2,2,1,10]) rfl rfl ?_
   refine pz_ (i := 8) (N := some 47) HT_ (rl [2,2,1,3,1,6]) rfl rfl ?_
   refine tz_ (i := 2) (N := some 41) HT_ HW_ (rl [3,1,1,3,1,6]) rfl rfl hHeld ?_
   refine tz_ (i := 5) (N := some 44) HT_ HW_ (rl [3,1,2,2,1,6]) rfl rfl hHeld ?_
   refine pz_ (i := 6) (N := some 45) HT_ (rl [3,1,3,1,1,6]) rfl rfl ?_
   refine tz_ (i := 9) (N := some 48) HT_ HW_ (rl [3,1,3,1,2,5]) rfl rfl hHeld ?_
   refine pz_ (i := 10) (N := some 49) HT_ (rl [3,1,3,1,3,4]) rfl rfl ?_
   refine pz_ (i := 11) (N := some 50) HT_ (rl [3,1,3,1,4,3]) rfl rfl ?_
   refine join_ (σ := Value × Value × Value) 2 (rl [13,2]) (fun s_ => [(42, s_.1), (46, s_.2.1), (51, s_.2.2)]) (fun s_ w' => (w'.cell? ⟨gb168, 0, none⟩ = some (.int .i64 a0_1) ∧ w'.cell? ⟨gb168, 1, none⟩ = some (.string a0_2) ∧ w'.cell? ⟨gb168, 2, none⟩ = some (.int .i64 a0_3) ∧ w'.cell? ⟨gb168, 3, none⟩ = some (.int .i64 a0_4) ∧ w'.cell? ⟨gb168, 4, none⟩ = some (.int .i64 a0_5) ∧ w'.cell? ⟨gb168, 5, none⟩ = some (.string a0_6) ∧ w'.cell? ⟨gb168, 6, none⟩ = some (.int .i64 a0_7) ∧ w'.cell? ⟨gb168, 7, none⟩ = some (.int .i64 a0_8)) ∧ (Kd.R (Kd.int .u8) 5 w' w.heap.size (fun k_ => some k_ ≠ (.slice Ao47 y179.length co47 : Value).ownBlock ∧ some k_ ≠ (.slice Ao48 y182.length co48 : Value).ownBlock ∧ some k_ ≠ (.slice Ao50 t185.length co50 : Value).ownBlock ∧ some k_ ≠ (s_.1 : Value).ownBlock ∧ some k_ ≠ (s_.2.1 : Value).ownBlock ∧ some k_ ≠ (s_.2.2 : Value).ownBlock) v174 y173) ∧ (Kd.R (Kd.int .u8) 5 w' w.heap.size (fun k_ => some k_ ≠ (v174 : Value).ownBlock ∧ some k_ ≠ (.slice Ao48 y182.length co48 : Value).ownBlock ∧ some k_ ≠ (.slice Ao50 t185.length co50 : Value).ownBlock ∧ some k_ ≠ (s_.1 : Value).ownBlock ∧ some k_ ≠ (s_.2.1 : Value).ownBlock ∧ some k_ ≠ (s_.2.2 : Value).ownBlock) (.slice Ao47 y179.length co47) y179) ∧ (Kd.R (Kd.int .u8) 5 w' w.heap.size (fun k_ => some k_ ≠ (v174 : Value).ownBlock ∧ some k_ ≠ (.slice Ao47 y179.length co47 : Value).ownBlock ∧ some k_ ≠ (.slice Ao50 t185.length co50 : Value).ownBlock ∧ some k_ ≠ (s_.1 : Value).ownBlock ∧ some k_ ≠ (s_.2.1 : Value).ownBlock ∧ some k_ ≠ (s_.2.2 : Value).ownBlock) (.slice Ao48 y182.length co48) y182) ∧ (Kd.R (Kd.int .u8) 5 w' w.heap.size (fun k_ => some k_ ≠ (v174 : Value).ownBlock ∧ some k_ ≠ (.slice Ao47 y179.length co47 : Value).ownBlock ∧ some k_ ≠ (.slice Ao48 y182.length co48 : Value).ownBlock ∧ some k_ ≠ (s_.1 : Value).ownBlock ∧ some k_ ≠ (s_.2.1 : Value).ownBlock ∧ some k_ ≠ (s_.2.2 : Value).ownBlock) (.slice Ao50 t185.length co50) t185) ∧ (Kd.R (Kd.int .u8) 5 w' w.heap.size (fun k_ => some k_ ≠ (v174 : Value).ownBlock ∧ some k_ ≠ (.slice Ao47 y179.length co47 : Value).ownBlock ∧ some k_ ≠ (.slice Ao48 y182.length co48 : Value).ownBlock ∧ some k_ ≠ (.slice Ao50 t185.length co50 : Value).ownBlock ∧ some k_ ≠ (s_.2.1 : Value).ownBlock ∧ some k_ ≠ (s_.2.2 : Value).ownBlock) s_.1 t188) ∧ (Kd.R (Kd.int .u8) 5 w' w.heap.size (fun k_ => some k_ ≠ (v174 : Value).ownBlock ∧ some k_ ≠ (.slice Ao47 y179.length co47 : Value).ownBlock ∧ some k_ ≠ (.slice Ao48 y182.length co48 : Value).ownBlock ∧ some k_ ≠ (.slice Ao50 t185.length co50 : Value).ownBlock ∧ some k_ ≠ (s_.1 : Value).ownBlock ∧ some k_ ≠ (s_.2.2 : Value).ownBlock) s_.2.1 t191) ∧ (Kd.R (Kd.int .u8) 5 w' w.heap.size (fun k_ => some k_ ≠ (v174 : Value).ownBlock ∧ some k_ ≠ (.slice Ao47 y179.length co47 : Value).ownBlock ∧ some k_ ≠ (.slice Ao48 y182.length co48 : Value).ownBlock ∧ some k_ ≠ (.slice Ao50 t185.length co50 : Value).ownBlock ∧ some k_ ≠ (s_.1 : Value).ownBlock ∧ some k_ ≠ (s_.2.1 : Value).ownBlock) s_.2.2 y194) ∧ (w'.heap[gb167]? = some (.cells #[.int .i64 a0_0, .int .i64 a0_1, .string a0_2, .int .i64 a0_3, .int .i64 a0_4, .int .i64 a0_5, .string a0_6, .int .i64 a0_7, .int .i64 a0_8, .int .i64 a0_9, .string a0_10, .int .i64 a0_11, .int .i64 a0_12, .int .i64 a0_13, .int .i64 a0_14, .int .i64 a0_15] 29 (0, 0))) ∧ (w'.heap[gb168]? = some (.cells #[.int .i64 a0_1, .string a0_2, .int .i64 a0_3, .int .i64 a0_4, .int .i64 a0_5, .string a0_6, .int .i64 a0_7, .int .i64 a0_8] 25 (0, 0))) ∧ (Below w.heap.size w w')) ?_ ?_
   rotate_left
   ·
    intro hCont
    refine two_ (i := 3) (j := 12) (Ni := some 42) (Nj := some 51) (rl [7,1,4,3]) (rl [3,1,3,1,5,2]) rfl rfl rfl rfl (two_of HT_.out (by kernel_rfl)) (by decide) (by decide) (fun K hK => ?_) (fun K hK => ?_)
    ·
     skip
     refine goes_ Try.func89 (by kernel_rfl) rfl #[.slice Ao50 t185.length co50, .int .i64 a0_4] (by rfl) rfl rfl la_ ?_
     with_reducible refine (spec_PutWord.calls _ _ t185 a0_4 t188 _ ?side1 ?side2 A32.out).mono ?_
     (case side1 => exact qC ((Kd.R_reads' HO187.out).2.2))
     (case side2 => exact (Kd.R_reads' HO187.out).2.1)
     rintro e w52 ⟨v189, rfl, ho0, hb⟩
     refine ⟨_, rfl, ?_⟩
     have HO190 := am_ (Kd.R_lower (Kd.R_new' (Kd.R_new' (Kd.R_new' (Kd.R_new' ho0 (Kd.R_lt (qR HO175))) (Kd.R_lt (qR HO181))) (Kd.R_lt (qR HO184))) (Kd.R_lt (qR HO187))) (below_size (qB HB)))
     replace HO175 := eA_ HO175 ho0 hb
     replace HO181 := eA_ HO181 ho0 hb
     replace HO184 := eA_ HO184 ho0 hb
     replace HO187 := eA_ HO187 ho0 hb
     replace BK167 := bK_ BK167 hb
     replace BK168 := bK_ BK168 hb
     replace HB := bS_ HB hb
     (try clear hb ho0)
     obtain ⟨Ao53, co53, eo53⟩ := Kd.R_slice HO190.out
     (first | subst eo53 | (injection eo53 with f1_ f2_ f3_; have f4_ := f1_.symm; have f5_ := f3_.symm; clear f1_ f2_ f3_; subst f4_; subst f5_))
     refine hK.out _ _ (cz8 BK168.out) (fun hHeld => ?_)
     clear hK K
     refine norm_ (a' := ?_) ?_ ?_
     rotate_left
     ·
      show Act.put _ (some 42) _ = _
      exact ap_
     refine two_ (i := 7) (j := 12) (Ni := some 46) (Nj := some 51) (rl [12,3]) (rl [7,1,5,2]) rfl rfl rfl rfl (two_of HT_.out (by kernel_rfl)) (by decide) (by decide) (fun K hK => ?_) (fun K hK => ?_)
     ·
      skip
      refine goes_ Try.func89 (by kernel_rfl) rfl #[.slice Ao53 t188.length co53, .int .i64 (wrap64 (Int.tdiv a0_5 256))] (by rfl) rfl rfl la_ ?_
      with_reducible refine (spec_PutWord.calls _ _ t188 (wrap64 (Int.tdiv a0_5 256)) t191 _ ?side1 ?side2 A33.out).mono ?_
      (case side1 => exact qC ((Kd.R_reads' HO190.out).2.2))
      (case side2 => exact (Kd.R_reads' HO190.out).2.1)
      rintro e w54 ⟨v192, rfl, ho0, hb⟩
      refine ⟨_, rfl, ?_⟩
      have HO193 := am_ (Kd.R_lower (Kd.R_new' (Kd.R_new' (Kd.R_new' (Kd.R_new' (Kd.R_new' ho0 (Kd.R_lt (qR HO175))) (Kd.R_lt (qR HO181))) (Kd.R_lt (qR HO184))) (Kd.R_lt (qR HO187))) (Kd.R_lt (qR HO190))) (below_size (qB HB)))
      replace HO175 := eA_ HO175 ho0 hb
      replace HO181 := eA_ HO181 ho0 hb
      replace HO184 := eA_ HO184 ho0 hb
      replace HO187 := eA_ HO187 ho0 hb
      replace HO190 := eA_ HO190 ho0 hb
      replace BK167 := bK_ BK167 hb
      replace BK168 := bK_ BK168 hb
      replace HB := bS_ HB hb
      (try clear hb ho0)
      refine hK.out _ _ (cz8 BK168.out) (fun hHeld => ?_)
      clear hK K
      refine norm_ (a' := ?_) ?_ ?_
      rotate_left
      ·
       show Act.put _ (some 46) _ = _
       exact ap_
      refine one_ (i := 12) (N := some 51) (rl [13,2]) rfl rfl (one_of HT_.out (by kernel_rfl)) (by decide) (fun K hK => ?_)
      refine Kd.R_lit_step (Kd.int .u8) _ 5 ?hg (N := 51) ?hd (xs := ([(Int.tmod a0_5 256) % 256] : List Int)) (inner := [.int .u8 ((Int.tmod a0_5 256) % 256)]) (ok := fun _ => True) (okp := fun _ => True) ?hr ?hp (fun _ hk => hk) trivial (Below.refl _ _) (Nat.le_refl _) (by simp) ?_; (case hd => rfl); (case hg => rfl); (case hr => first | (go_simp; done) | (go_simp; rfl)); (case hp => exact (Reps.one (show Kd.M (Kd.int .u8) _ _ _ ((Int.tmod a0_5 256) % 256) [.int .u8 ((Int.tmod a0_5 256) % 256)] from rfl) (Reps.none _ _)))
      intro v195 w55 ho56 hb hg_ hnew_
      clear hg_ hnew_
      (first | rw [← Ny194.out] at ho56 | (simp only [Int.reduceToNat] at ho56; rw [← Ny194.out] at ho56))
      have HO196 := am_ (Kd.R_lower (Kd.R_new' (Kd.R_new' (Kd.R_new' (Kd.R_new' (Kd.R_new' (Kd.R_new' ho56 (Kd.R_lt (qR HO175))) (Kd.R_lt (qR HO181))) (Kd.R_lt (qR HO184))) (Kd.R_lt (qR HO187))) (Kd.R_lt (qR HO190))) (Kd.R_lt (qR HO193))) (below_size (qB HB)))
      replace HO175 := eA_ HO175 ho56 hb
      replace HO181 := eA_ HO181 ho56 hb
      replace HO184 := eA_ HO184 ho56 hb
      replace HO187 := eA_ HO187 ho56 hb
      replace HO190 := eA_ HO190 ho56 hb
      replace HO193 := eA_ HO193 ho56 hb
      replace BK167 := bK_ BK167 hb
      replace BK168 := bK_ BK168 hb
      replace HB := bS_ HB hb
      clear hb ho56
      refine hK.out _ _ (cz8 BK168.out) (fun hHeld => ?_)
      clear hK K
      refine norm_ (a' := ?_) ?_ ?_
      rotate_left
      ·
       show Act.put _ (some 51) _ = _
       exact ap_
      exact norm_ (by simp only [putAll, Act.put, List.setIfInBounds_toArray, List.set_cons_zero, List.set_cons_succ]) (hCont (.slice Ao53 t188.length co53, v192, v195) _ ⟨hHeld, (tR (Kd.R_mono HO175.out (fun _ hk => ⟨hk.1.1.1.1.1, ⟨hk.1.1.1.1.2, ⟨hk.1.1.1.2, ⟨hk.1.1.2, ⟨hk.1.2, hk.2⟩⟩⟩⟩⟩))), (tR (Kd.R_mono HO181.out (fun _ hk => ⟨hk.1.1.1.1.1, ⟨hk.1.1.1.1.2, ⟨hk.1.1.1.2, ⟨hk.1.1.2, ⟨hk.1.2, hk.2⟩⟩⟩⟩⟩))), (tR (Kd.R_mono HO184.out (fun _ hk => ⟨hk.1.1.1.1.1, ⟨hk.1.1.1.1.2, ⟨hk.1.1.1.2, ⟨hk.1.1.2, ⟨hk.1.2, hk.2⟩⟩⟩⟩⟩))), (tR (Kd.R_mono HO187.out (fun _ hk => ⟨hk.1.1.1.1.1.2, ⟨hk.1.1.1.1.2, ⟨hk.1.1.1.2, ⟨hk.1.1.2, ⟨hk.1.2, hk.2⟩⟩⟩⟩⟩))), (tR (Kd.R_mono HO190.out (fun _ hk => ⟨hk.1.1.1.1.1.2, ⟨hk.1.1.1.1.2, ⟨hk.1.1.1.2, ⟨hk.1.1.2, ⟨hk.1.2, hk.2⟩⟩⟩⟩⟩))), (tR (Kd.R_mono HO193.out (fun _ hk => ⟨hk.1.1.1.1.1.2, ⟨hk.1.1.1.1.2, ⟨hk.1.1.1.2, ⟨hk.1.1.2, ⟨hk.1.2, hk.2⟩⟩⟩⟩⟩))), (tR (Kd.R_mono HO196.out (fun _ hk => ⟨hk.1.1.1.1.1.2, ⟨hk.1.1.1.1.2, ⟨hk.1.1.1.2, ⟨hk.1.1.2, ⟨hk.1.2, hk.2⟩⟩⟩⟩⟩))), (qK BK167), (qK BK168), (qB HB)⟩)
     ·
      skip
      refine Kd.R_lit_step (Kd.int .u8) _ 5 ?hg (N := 51) ?hd (xs := ([(Int.tmod a0_5 256) % 256] : List Int)) (inner := [.int .u8 ((Int.tmod a0_5 256) % 256)]) (ok := fun _ => True) (okp := fun _ => True) ?hr ?hp (fun _ hk => hk) trivial (Below.refl _ _) (Nat.le_refl _) (by simp) ?_; (case hd => rfl); (case hg => rfl); (case hr => first | (go_simp; done) | (go_simp; rfl)); (case hp => exact (Reps.one (show Kd.M (Kd.int .u8) _ _ _ ((Int.tmod a0_5 256) % 256) [.int .u8 ((Int.tmod a0_5 256) % 256)] from rfl) (Reps.none _ _)))
      intro v195 w53 ho54 hb hg_ hnew_
      clear hg_ hnew_
      (first | rw [← Ny194.out] at ho54 | (simp only [Int.reduceToNat] at ho54; rw [← Ny194.out] at ho54))
      have HO196 := am_ (Kd.R_lower (Kd.R_new' (Kd.R_new' (Kd.R_new' (Kd.R_new' (Kd.R_new' ho54 (Kd.R_lt (qR HO175))) (Kd.R_lt (qR HO181))) (Kd.R_lt (qR HO184))) (Kd.R_lt (qR HO187))) (Kd.R_lt (qR HO190))) (below_size (qB HB)))
      replace HO175 := eA_ HO175 ho54 hb
      replace HO181 := eA_ HO181 ho54 hb
      replace HO184 := eA_ HO184 ho54 hb
      replace HO187 := eA_ HO187 ho54 hb
      replace HO190 := eA_ HO190 ho54 hb
      replace BK167 := bK_ BK167 hb
      replace BK168 := bK_ BK168 hb
      replace HB := bS_ HB hb
      clear hb ho54
      obtain ⟨Ao55, co55, eo55⟩ := Kd.R_slice HO190.out
      (first | subst eo55 | (injection eo55 with f1_ f2_ f3_; have f4_ := f1_.symm; have f5_ := f3_.symm; clear f1_ f2_ f3_; subst f4_; subst f5_))
      refine hK.out _ _ (cz8 BK168.out) (fun hHeld => ?_)
      clear hK K
      refine norm_ (a' := ?_) ?_ ?_
      rotate_left
      ·
       show Act.put _ (some 51) _ = _
       exact ap_
      refine one_ (i := 7) (N := some 46) (rl [13,2]) rfl rfl (one_of HT_.out (by kernel_rfl)) (by decide) (fun K hK => ?_)
      refine goes_ Try.func89 (by kernel_rfl) rfl #[.slice Ao55 t188.length co55, .int .i64 (wrap64 (Int.tdiv a0_5 256))] (by rfl) rfl rfl la_ ?_
      with_reducible refine (spec_PutWord.calls _ _ t188 (wrap64 (Int.tdiv a0_5 256)) t191 _ ?side1 ?side2 A33.out).mono ?_
      (case side1 => exact qC ((Kd.R_reads' HO190.out).2.2))
      (case side2 => exact (Kd.R_reads' HO190.out).2.1)
      rintro e w56 ⟨v192, rfl, ho0, hb⟩
      refine ⟨_, rfl, ?_⟩
      have HO193 := am_ (Kd.R_lower (Kd.R_new' (Kd.R_new' (Kd.R_new' (Kd.R_new' (Kd.R_new' (Kd.R_new' ho0 (Kd.R_lt (qR HO175))) (Kd.R_lt (qR HO181))) (Kd.R_lt (qR HO184))) (Kd.R_lt (qR HO187))) (Kd.R_lt (qR HO190))) (Kd.R_lt (qR HO196))) (below_size (qB HB)))
      replace HO175 := eA_ HO175 ho0 hb
      replace HO181 := eA_ HO181 ho0 hb
      replace HO184 := eA_ HO184 ho0 hb
      replace HO187 := eA_ HO187 ho0 hb
      replace HO190 := eA_ HO190 ho0 hb
      replace HO196 := eA_ HO196 ho0 hb
      replace BK167 := bK_ BK167 hb
      replace BK168 := bK_ BK168 hb
      replace HB := bS_ HB hb
      (try clear hb ho0)
      refine hK.out _ _ (cz8 BK168.out) (fun hHeld => ?_)
      clear hK K
      refine norm_ (a' := ?_) ?_ ?_
      rotate_left
      ·
       show Act.put _ (some 46) _ = _
       exact ap_
      exact norm_ (by simp only [putAll, Act.put, List.setIfInBounds_toArray, List.set_cons_zero, List.set_cons_succ]) (hCont (.slice Ao55 t188.length co55, v192, v195) _ ⟨hHeld, (tR (Kd.R_mono HO175.out (fun _ hk => ⟨hk.1.1.1.1.1, ⟨hk.1.1.1.1.2, ⟨hk.1.1.1.2, ⟨hk.1.1.2, ⟨hk.2, hk.1.2⟩⟩⟩⟩⟩))), (tR (Kd.R_mono HO181.out (fun _ hk => ⟨hk.1.1.1.1.1, ⟨hk.1.1.1.1.2, ⟨hk.1.1.1.2, ⟨hk.1.1.2, ⟨hk.2, hk.1.2⟩⟩⟩⟩⟩))), (tR (Kd.R_mono HO184.out (fun _ hk => ⟨hk.1.1.1.1.1, ⟨hk.1.1.1.1.2, ⟨hk.1.1.1.2, ⟨hk.1.1.2, ⟨hk.2, hk.1.2⟩⟩⟩⟩⟩))), (tR (Kd.R_mono HO187.out (fun _ hk => ⟨hk.1.1.1.1.1.2, ⟨hk.1.1.1.1.2, ⟨hk.1.1.1.2, ⟨hk.1.1.2, ⟨hk.2, hk.1.2⟩⟩⟩⟩⟩))), (tR (Kd.R_mono HO190.out (fun _ hk => ⟨hk.1.1.1.1.1.2, ⟨hk.1.1.1.1.2, ⟨hk.1.1.1.2, ⟨hk.1.1.2, ⟨hk.2, hk.1.2⟩⟩⟩⟩⟩))), (tR (Kd.R_mono HO193.out (fun _ hk => ⟨hk.1.1.1.1.1.2, ⟨hk.1.1.1.1.2, ⟨hk.1.1.1.2, ⟨hk.1.1.2, ⟨hk.1.2, hk.2⟩⟩⟩⟩⟩))), (tR (Kd.R_mono HO196.out (fun _ hk => ⟨hk.1.1.1.1.1.2, ⟨hk.1.1.1.1.2, ⟨hk.1.1.1.2, ⟨hk.1.1.2, ⟨hk.1.2, hk.2⟩⟩⟩⟩⟩))), (qK BK167), (qK BK168), (qB HB)⟩)
    ·
     skip
     refine Kd.R_lit_step (Kd.int .u8) _ 5 ?hg (N := 51) ?hd (xs := ([(Int.tmod a0_5 256) % 256] : List Int)) (inner := [.int .u8 ((Int.tmod a0_5 256) % 256)]) (ok := fun _ => True) (okp := fun _ => True) ?hr ?hp (fun _ hk => hk) trivial (Below.refl _ _) (Nat.le_refl _) (by simp) ?_; (case hd => rfl); (case hg => rfl); (case hr => first | (go_simp; done) | (go_simp; rfl)); (case hp => exact (Reps.one (show Kd.M (Kd.int .u8) _ _ _ ((Int.tmod a0_5 256) % 256) [.int .u8 ((Int.tmod a0_5 256) % 256)] from rfl) (Reps.none _ _)))
     intro v195 w52 ho53 hb hg_ hnew_
     clear hg_ hnew_
     (first | rw [← Ny194.out] at ho53 | (simp only [Int.reduceToNat] at ho53; rw [← Ny194.out] at ho53))
     have HO196 := am_ (Kd.R_lower (Kd.R_new' (Kd.R_new' (Kd.R_new' (Kd.R_new' ho53 (Kd.R_lt (qR HO175))) (Kd.R_lt (qR HO181))) (Kd.R_lt (qR HO184))) (Kd.R_lt (qR HO187))) (below_size (qB HB)))
     replace HO175 := eA_ HO175 ho53 hb
     replace HO181 := eA_ HO181 ho53 hb
     replace HO184 := eA_ HO184 ho53 hb
     replace HO187 := eA_ HO187 ho53 hb
     replace BK167 := bK_ BK167 hb
     replace BK168 := bK_ BK168 hb
     replace HB := bS_ HB hb
     clear hb ho53
     refine hK.out _ _ (cz8 BK168.out) (fun hHeld => ?_)
     clear hK K
     refine norm_ (a' := ?_) ?_ ?_
     rotate_left
     ·
      show Act.put _ (some 51) _ = _
      exact ap_
     refine one_ (i := 3) (N := some 42) (rl [7,1,5,2]) rfl rfl (one_of HT_.out (by kernel_rfl)) (by decide) (fun K hK => ?_)
     refine goes_ Try.func89 (by kernel_rfl) rfl #[.slice Ao50 t185.length co50, .int .i64 a0_4] (by rfl) rfl rfl la_ ?_
     with_reducible refine (spec_PutWord.calls _ _ t185 a0_4 t188 _ ?side1 ?side2 A32.out).mono ?_
     (case side1 => exact qC ((Kd.R_reads' HO187.out).2.2))
     (case side2 => exact (Kd.R_reads' HO187.out).2.1)
     rintro e w54 ⟨v189, rfl, ho0, hb⟩
     refine ⟨_, rfl, ?_⟩
     have HO190 := am_ (Kd.R_lower (Kd.R_new' (Kd.R_new' (Kd.R_new' (Kd.R_new' (Kd.R_new' ho0 (Kd.R_lt (qR HO175))) (Kd.R_lt (qR HO181))) (Kd.R_lt (qR HO184))) (Kd.R_lt (qR HO187))) (Kd.R_lt (qR HO196))) (below_size (qB HB)))
     replace HO175 := eA_ HO175 ho0 hb
     replace HO181 := eA_ HO181 ho0 hb
     replace HO184 := eA_ HO184 ho0 hb
     replace HO187 := eA_ HO187 ho0 hb
     replace HO196 := eA_ HO196 ho0 hb
     replace BK167 := bK_ BK167 hb
     replace BK168 := bK_ BK168 hb
     replace HB := bS_ HB hb
     (try clear hb ho0)
     obtain ⟨Ao55, co55, eo55⟩ := Kd.R_slice HO190.out
     (first | subst eo55 | (injection eo55 with f1_ f2_ f3_; have f4_ := f1_.symm; have f5_ := f3_.symm; clear f1_ f2_ f3_; subst f4_; subst f5_))
     refine hK.out _ _ (cz8 BK168.out) (fun hHeld => ?_)
     clear hK K
     refine norm_ (a' := ?_) ?_ ?_
     rotate_left
     ·
      show Act.put _ (some 42) _ = _
      exact ap_
     refine one_ (i := 7) (N := some 46) (rl [13,2]) rfl rfl (one_of HT_.out (by kernel_rfl)) (by decide) (fun K hK => ?_)
     refine goes_ Try.func89 (by kernel_rfl) rfl #[.slice Ao55 t188.length co55, .int .i64 (wrap64 (Int.tdiv a0_5 256))] (by rfl) rfl rfl la_ ?_
     with_reducible refine (spec_PutWord.calls _ _ t188 (wrap64 (Int.tdiv a0_5 256)) t191 _ ?side1 ?side2 A33.out).mono ?_
     (case side1 => exact qC ((Kd.R_reads' HO190.out).2.2))
     (case side2 => exact (Kd.R_reads' HO190.out).2.1)
     rintro e w56 ⟨v192, rfl, ho0, hb⟩
     refine ⟨_, rfl, ?_⟩
     have HO193 := am_ (Kd.R_lower (Kd.R_new' (Kd.R_new' (Kd.R_new' (Kd.R_new' (Kd.R_new' (Kd.R_new' ho0 (Kd.R_lt (qR HO175))) (Kd.R_lt (qR HO181))) (Kd.R_lt (qR HO184))) (Kd.R_lt (qR HO187))) (Kd.R_lt (qR HO196))) (Kd.R_lt (qR HO190))) (below_size (qB HB)))
     replace HO175 := eA_ HO175 ho0 hb
     replace HO181 := eA_ HO181 ho0 hb
     replace HO184 := eA_ HO184 ho0 hb
     replace HO187 := eA_ HO187 ho0 hb
     replace HO196 := eA_ HO196 ho0 hb
     replace HO190 := eA_ HO190 ho0 hb
     replace BK167 := bK_ BK167 hb
     replace BK168 := bK_ BK168 hb
     replace HB := bS_ HB hb
     (try clear hb ho0)
     refine hK.out _ _ (cz8 BK168.out) (fun hHeld => ?_)
     clear hK K
     refine norm_ (a' := ?_) ?_ ?_
     rotate_left
     ·
      show Act.put _ (some 46) _ = _
      exact ap_
     exact norm_ (by simp only [putAll, Act.put, List.setIfInBounds_toArray, List.set_cons_zero, List.set_cons_succ]) (hCont (.slice Ao55 t188.length co55, v192, v195) _ ⟨hHeld, (tR (Kd.R_mono HO175.out (fun _ hk => ⟨hk.1.1.1.1.1, ⟨hk.1.1.1.1.2, ⟨hk.1.1.1.2, ⟨hk.1.2, ⟨hk.2, hk.1.1.2⟩⟩⟩⟩⟩))), (tR (Kd.R_mono HO181.out (fun _ hk => ⟨hk.1.1.1.1.1, ⟨hk.1.1.1.1.2, ⟨hk.1.1.1.2, ⟨hk.1.2, ⟨hk.2, hk.1.1.2⟩⟩⟩⟩⟩))), (tR (Kd.R_mono HO184.out (fun _ hk => ⟨hk.1.1.1.1.1, ⟨hk.1.1.1.1.2, ⟨hk.1.1.1.2, ⟨hk.1.2, ⟨hk.2, hk.1.1.2⟩⟩⟩⟩⟩))), (tR (Kd.R_mono HO187.out (fun _ hk => ⟨hk.1.1.1.1.1.2, ⟨hk.1.1.1.1.2, ⟨hk.1.1.1.2, ⟨hk.1.2, ⟨hk.2, hk.1.1.2⟩⟩⟩⟩⟩))), (tR (Kd.R_mono HO190.out (fun _ hk => ⟨hk.1.1.1.1.1.2, ⟨hk.1.1.1.1.2, ⟨hk.1.1.1.2, ⟨hk.1.1.2, ⟨hk.2, hk.1.2⟩⟩⟩⟩⟩))), (tR (Kd.R_mono HO193.out (fun _ hk => ⟨hk.1.1.1.1.1.2, ⟨hk.1.1.1.1.2, ⟨hk.1.1.1.2, ⟨hk.1.1.2, ⟨hk.2, hk.1.2⟩⟩⟩⟩⟩))), (tR (Kd.R_mono HO196.out (fun _ hk => ⟨hk.1.1.1.1.1.2, ⟨hk.1.1.1.1.2, ⟨hk.1.1.1.2, ⟨hk.1.1.2, ⟨hk.1.2, hk.2⟩⟩⟩⟩⟩))), (qK BK167), (qK BK168), (qB HB)⟩)
   rintro ⟨v189, v192, v195⟩ w57 ⟨hS_, h0_, h1_, h2_, h3_, h4_, h5_, h6_, h7_, h8_, h9_⟩
   have n0_ : Aside0 (Kd.R (Kd.int .u8) 5 w57 w.heap.size (fun k_ => some k_ ≠ (.slice Ao47 y179.length co47 : Value).ownBlock ∧ some k_ ≠ (.slice Ao48 y182.length co48 : Value).ownBlock ∧ some k_ ≠ (.slice Ao50 t185.length co50 : Value).ownBlock ∧ some k_ ≠ (v189 : Value).ownBlock ∧ some k_ ≠ (v192 : Value).ownBlock ∧ some k_ ≠ (v195 : Value).ownBlock) v174 y173) := ⟨h0_⟩
   have n1_ : Aside0 (Kd.R (Kd.int .u8) 5 w57 w.heap.size (fun k_ => some k_ ≠ (v174 : Value).ownBlock ∧ some k_ ≠ (.slice Ao48 y182.length co48 : Value).ownBlock ∧ some k_ ≠ (.slice Ao50 t185.length co50 : Value).ownBlock ∧ some k_ ≠ (v189 : Value).ownBlock ∧ some k_ ≠ (v192 : Value).ownBlock ∧ some k_ ≠ (v195 : Value).ownBlock) (.slice Ao47 y179.length co47) y179) := ⟨h1_⟩
   have n2_ : Aside0 (Kd.R (Kd.int .u8) 5 w57 w.heap.size (fun k_ => some k_ ≠ (v174 : Value).ownBlock ∧ some k_ ≠ (.slice Ao47 y179.length co47 : Value).ownBlock ∧ some k_ ≠ (.slice Ao50 t185.length co50 : Value).ownBlock ∧ some k_ ≠ (v189 : Value).ownBlock ∧ some k_ ≠ (v192 : Value).ownBlock ∧ some k_ ≠ (v195 : Value).ownBlock) (.slice Ao48 y182.length co48) y182) := ⟨h2_⟩
   have n3_ : Aside0 (Kd.R (Kd.int .u8) 5 w57 w.heap.size (fun k_ => some k_ ≠ (v174 : Value).ownBlock ∧ some k_ ≠ (.slice Ao47 y179.length co47 : Value).ownBlock ∧ some k_ ≠ (.slice Ao48 y182.length co48 : Value).ownBlock ∧ some k_ ≠ (v189 : Value).ownBlock ∧ some k_ ≠ (v192 : Value).ownBlock ∧ some k_ ≠ (v195 : Value).ownBlock) (.slice Ao50 t185.length co50) t185) := ⟨h3_⟩
   have n4_ : Aside0 (Kd.R (Kd.int .u8) 5 w57 w.heap.size (fun k_ => some k_ ≠ (v174 : Value).ownBlock ∧ some k_ ≠ (.slice Ao47 y179.length co47 : Value).ownBlock ∧ some k_ ≠ (.slice Ao48 y182.length co48 : Value).ownBlock ∧ some k_ ≠ (.slice Ao50 t185.length co50 : Value).ownBlock ∧ some k_ ≠ (v192 : Value).ownBlock ∧ some k_ ≠ (v195 : Value).ownBlock) v189 t188) := ⟨h4_⟩
   have n5_ : Aside0 (Kd.R (Kd.int .u8) 5 w57 w.heap.size (fun k_ => some k_ ≠ (v174 : Value).ownBlock ∧ some k_ ≠ (.slice Ao47 y179.length co47 : Value).ownBlock ∧ some k_ ≠ (.slice Ao48 y182.length co48 : Value).ownBlock ∧ some k_ ≠ (.slice Ao50 t185.length co50 : Value).ownBlock ∧ some k_ ≠ (v189 : Value).ownBlock ∧ some k_ ≠ (v195 : Value).ownBlock) v192 t191) := ⟨h5_⟩
   have n6_ : Aside0 (Kd.R (Kd.int .u8) 5 w57 w.heap.size (fun k_ => some k_ ≠ (v174 : Value).ownBlock ∧ some k_ ≠ (.slice Ao47 y179.length co47 : Value).ownBlock ∧ some k_ ≠ (.slice Ao48 y182.length co48 : Value).ownBlock ∧ some k_ ≠ (.slice Ao50 t185.length co50 : Value).ownBlock ∧ some k_ ≠ (v189 : Value).ownBlock ∧ some k_ ≠ (v192 : Value).ownBlock) v195 y194) := ⟨h6_⟩
   have n7_ : Aside0 (w57.heap[gb167]? = some (.cells #[.int .i64 a0_0, .int .i64 a0_1, .string a0_2, .int .i64 a0_3, .int .i64 a0_4, .int .i64 a0_5, .string a0_6, .int .i64 a0_7, .int .i64 a0_8, .int .i64 a0_9, .string a0_10, .int .i64 a0_11, .int .i64 a0_12, .int .i64 a0_13, .int .i64 a0_14, .int .i64 a0_15] 29 (0, 0))) := ⟨h7_⟩
   have n8_ : Aside0 (w57.heap[gb168]? = some (.cells #[.int .i64 a0_1, .string a0_2, .int .i64 a0_3, .int .i64 a0_4, .int .i64 a0_5, .string a0_6, .int .i64 a0_7, .int .i64 a0_8] 25 (0, 0))) := ⟨h8_⟩
   have n9_ : Aside0 (Below w.heap.size w w57) := ⟨h9_⟩
   clear HO175
   clear HO181
   clear HO184
   clear HO187
   clear BK167
   clear BK168
   clear HB
   clear h0_ h1_ h2_ h3_ h4_ h5_ h6_ h7_ h8_ h9_
   have HO175 := n0_
   have HO181 := n1_
   have HO184 := n2_
   have HO187 := n3_
   have HO190 := n4_
   have HO193 := n5_
   have HO196 := n6_
   have BK167 := n7_
   have BK168 := n8_
   have HB := n9_
   clear n0_ n1_ n2_ n3_ n4_ n5_ n6_ n7_ n8_ n9_
   have hHeld : w57.cell? ⟨gb168, 0, none⟩ = some (.int .i64 a0_1) ∧ w57.cell? ⟨gb168, 1, none⟩ = some (.string a0_2) ∧ w57.cell? ⟨gb168, 2, none⟩ = some (.int .i64 a0_3) ∧ w57.cell? ⟨gb168, 3, none⟩ = some (.int .i64 a0_4) ∧ w57.cell? ⟨gb168, 4, none⟩ = some (.int .i64 a0_5) ∧ w57.cell? ⟨gb168, 5, none⟩ = some (.string a0_6) ∧ w57.cell? ⟨gb168, 6, none⟩ = some (.int .i64 a0_7) ∧ w57.cell? ⟨gb168, 7, none⟩ = some (.int .i64 a0_8) := hS_
   obtain ⟨Ao59, co59, eo59⟩ := Kd.R_slice HO196.out
   (first | subst eo59 | (injection eo59 with f1_ f2_ f3_; have f4_ := f1_.symm; have f5_ := f3_.symm; clear f1_ f2_ f3_; subst f4_; subst f5_))
   refine norm_ (a' := ?_) ?_ ?_
   rotate_left
   ·
    simp only [putAll, Act.put, List.setIfInBounds_toArray, List.set_cons_zero, List.set_cons_succ]
    rfl
   refine one_ (i := 13) (N := some 52) (rl [14,1]) rfl rfl (one_of HT_.out (by kernel_rfl)) (by decide) (fun K hK => ?_)
   refine Kd.R_append_rows_step (Kd.int .u8) (w0 := w) w.heap.size (by rfl) (.tmp 46) (.tmp 51) 22 5 (.int .u8 0) 1 rfl Try.underlying22 info5 rfl (by decide) (by omega) v192 t191 y194 _ _ _ (fun k_ => some k_ ≠ (v174 : Value).ownBlock ∧ some k_ ≠ (.slice Ao47 y179.length co47 : Value).ownBlock ∧ some k_ ≠ (.slice Ao48 y182.length co48 : Value).ownBlock ∧ some k_ ≠ (.slice Ao50 t185.length co50 : Value).ownBlock ∧ some k_ ≠ (v189 : Value).ownBlock ∧ some k_ ≠ (.slice Ao59 y194.length co59 : Value).ownBlock) (fun _ => False) rfl rfl ?aO ?aR (fun _ _ h => h) (fun _ h => h.elim) ?aF ?aB ?aS ?aL ?_
   (case aR => exact qC ((Kd.R_reads' HO196.out).2.2))
   (case aB => exact (qB HB))
   (case aF => exact (fun k_ hk => ⟨Kd.fresh' (Kd.R_lt (qR HO175)) k_ hk, Kd.fresh' (Kd.R_lt (qR HO181)) k_ hk, Kd.fresh' (Kd.R_lt (qR HO184)) k_ hk, Kd.fresh' (Kd.R_lt (qR HO187)) k_ hk, Kd.fresh' (Kd.R_lt (qR HO190)) k_ hk, Kd.fresh' (Kd.R_lt (qR HO196)) k_ hk⟩))
   (case aO => exact (qR HO193))
   (case aS => exact (below_size (qB HB)))
   (case aL => have := LMc34.out; omega)
   intro v198 w58 ho hb hg hat
   rw [← Ny197.out] at ho
   replace BK167 := am_ (blk_grown (qK BK167) hg (Kd.R_ne HO193.out BK167.out (by decide)))
   replace BK168 := am_ (blk_grown (qK BK168) hg (Kd.R_ne HO193.out BK168.out (by decide)))
   replace HO175 := am_ (Kd.R_after (ok := (fun k_ => some k_ ≠ (.slice Ao47 y179.length co47 : Value).ownBlock ∧ some k_ ≠ (.slice Ao48 y182.length co48 : Value).ownBlock ∧ some k_ ≠ (.slice Ao50 t185.length co50 : Value).ownBlock ∧ some k_ ≠ (v189 : Value).ownBlock ∧ some k_ ≠ (.slice Ao59 y194.length co59 : Value).ownBlock)) (tR (Kd.R_mono HO175.out (fun _ hk => ⟨⟨hk.1, ⟨hk.2.1, ⟨hk.2.2.1, ⟨hk.2.2.2.1, hk.2.2.2.2.2⟩⟩⟩⟩, hk.2.2.2.2.1⟩))) hg hat)
   replace HO181 := am_ (Kd.R_after (ok := (fun k_ => some k_ ≠ (v174 : Value).ownBlock ∧ some k_ ≠ (.slice Ao48 y182.length co48 : Value).ownBlock ∧ some k_ ≠ (.slice Ao50 t185.length co50 : Value).ownBlock ∧ some k_ ≠ (v189 : Value).ownBlock ∧ some k_ ≠ (.slice Ao59 y194.length co59 : Value).ownBlock)) (tR (Kd.R_mono HO181.out (fun _ hk => ⟨⟨hk.1, ⟨hk.2.1, ⟨hk.2.2.1, ⟨hk.2.2.2.1, hk.2.2.2.2.2⟩⟩⟩⟩, hk.2.2.2.2.1⟩))) hg hat)
   replace HO184 := am_ (Kd.R_after (ok := (fun k_ => some k_ ≠ (v174 : Value).ownBlock ∧ some k_ ≠ (.slice Ao47 y179.length co47 : Value).ownBlock ∧ some k_ ≠ (.slice Ao50 t185.length co50 : Value).ownBlock ∧ some k_ ≠ (v189 : Value).ownBlock ∧ some k_ ≠ (.slice Ao59 y194.length co59 : Value).ownBlock)) (tR (Kd.R_mono HO184.out (fun _ hk => ⟨⟨hk.1, ⟨hk.2.1, ⟨hk.2.2.1, ⟨hk.2.2.2.1, hk.2.2.2.2.2⟩⟩⟩⟩, hk.2.2.2.2.1⟩))) hg hat)
   replace HO187 := am_ (Kd.R_after (ok := (fun k_ => some k_ ≠ (v174 : Value).ownBlock ∧ some k_ ≠ (.slice Ao47 y179.length co47 : Value).ownBlock ∧ some k_ ≠ (.slice Ao48 y182.length co48 : Value).ownBlock ∧ some k_ ≠ (v189 : Value).ownBlock ∧ some k_ ≠ (.slice Ao59 y194.length co59 : Value).ownBlock)) (tR (Kd.R_mono HO187.out (fun _ hk => ⟨⟨hk.1, ⟨hk.2.1, ⟨hk.2.2.1, ⟨hk.2.2.2.1, hk.2.2.2.2.2⟩⟩⟩⟩, hk.2.2.2.2.1⟩))) hg hat)
   replace HO190 := am_ (Kd.R_after (ok := (fun k_ => some k_ ≠ (v174 : Value).ownBlock ∧ some k_ ≠ (.slice Ao47 y179.length co47 : Value).ownBlock ∧ some k_ ≠ (.slice Ao48 y182.length co48 : Value).ownBlock ∧ some k_ ≠ (.slice Ao50 t185.length co50 : Value).ownBlock ∧ some k_ ≠ (.slice Ao59 y194.length co59 : Value).ownBlock)) (tR (Kd.R_mono HO190.out (fun _ hk => ⟨⟨hk.1, ⟨hk.2.1, ⟨hk.2.2.1, ⟨hk.2.2.2.1, hk.2.2.2.2.2⟩⟩⟩⟩, hk.2.2.2.2.1⟩))) hg hat)
   replace HO196 := am_ (Kd.R_after (ok := (fun k_ => some k_ ≠ (v174 : Value).ownBlock ∧ some k_ ≠ (.slice Ao47 y179.length co47 : Value).ownBlock ∧ some k_ ≠ (.slice Ao48 y182.length co48 : Value).ownBlock ∧ some k_ ≠ (.slice Ao50 t185.length co50 : Value).ownBlock ∧ some k_ ≠ (v189 : Value).ownBlock)) (tR (Kd.R_mono HO196.out (fun _ hk => ⟨⟨hk.1, ⟨hk.2.1, ⟨hk.2.2.1, ⟨hk.2.2.2.1, hk.2.2.2.2.1⟩⟩⟩⟩, hk.2.2.2.2.2⟩))) hg hat)
   replace HB := am_ (hb)
   have HO199 := am_ (ho)
   clear HO193
   clear ho hb hg hat
   refine hK.out _ _ (cz8 BK168.out) (fun hHeld => ?_)
   clear hK K
   refine norm_ (a' := ?_) ?_ ?_
   rotate_left
   ·
    show Act.put _ (some 52) _ = _
    exact ap_
   refine pz_ (i := 14) (N := some 4) HT_ (rl [15]) rfl rfl ?_
   refine done_ (done_of HT_.out (by kernel_rfl)) ?_
   try go_wp2
   replace HO175 := am_ (Kd.R_drew HO175.out)
   replace HO181 := am_ (Kd.R_drew HO181.out)
   replace HO184 := am_ (Kd.R_drew HO184.out)
   replace HO187 := am_ (Kd.R_drew HO187.out)
   replace HO190 := am_ (Kd.R_drew HO190.out)
   replace HO196 := am_ (Kd.R_drew HO196.out)
   replace HO199 := am_ (Kd.R_drew HO199.out)
   replace BK167 := am_ (blk_drew BK167.out)
   replace BK168 := am_ (blk_drew BK168.out)
   replace HB := am_ (below_drew1 HB.out)
   obtain ⟨Ao61, co61, eo61⟩ := Kd.R_slice HO199.out
   (first | subst eo61 | (injection eo61 with f1_ f2_ f3_; have f4_ := f1_.symm; have f5_ := f3_.symm; clear f1_ f2_ f3_; subst f4_; subst f5_))
   refine start_ (n := 11) (S := fun w' => w'.cell? ⟨gb168, 0, none⟩ = some (.int .i64 a0_1) ∧ w'.cell? ⟨gb168, 1, none⟩ = some (.string a0_2) ∧ w'.cell? ⟨gb168, 2, none⟩ = some (.int .i64 a0_3) ∧ w'.cell? ⟨gb168, 3, none⟩ = some (.int .i64 a0_4) ∧ w'.cell? ⟨gb168, 4, none⟩ = some (.int .i64 a0_5) ∧ w'.cell? ⟨gb168, 5, none⟩ = some (.string a0_6) ∧ w'.cell? ⟨gb168, 6, none⟩ = some (.int .i64 a0_7) ∧ w'.cell? ⟨gb168, 7, none⟩ = some (.int .i64 a0_8)) (ds := []) #[oo,oo,oo,oo,oo,oo,oo,oo,oo,oo,oo] (by kernel_rfl) rfl rfl (cz8 BK168.out) (fun hHeld => ?_); refine with_tabW spec_PutItem.tab7 spec_PutItem.bits7 (fun HT_ HW_ => ?_)
   generalize w58.drew = w60 at HO175 HO181 HO184 HO187 HO190 HO196 HO199 BK167 BK168 HB hHeld ⊢
   refine pz_ (i := 0) (N := some 53) HT_ #[ii,oo,oo,oo,oo,oo,oo,oo,oo,oo,oo] rfl rfl ?_
   refine pz_ (i := 1) (N := some 54) HT_ #[ii,ii,oo,oo,oo,oo,oo,oo,oo,oo,oo] rfl rfl ?_
   refine pz_ (i := 4) (N := some 57) HT_ #[ii,ii,oo,oo,ii,oo,oo,oo,oo,oo,oo] rfl rfl ?_
   refine pz_ (i := 7) (N := some 60) HT_ #[ii,ii,oo,oo,ii,oo,oo,ii,oo,oo,oo] rfl rfl ?_
   refine tz_ (i := 2) (N := some 55) HT_ HW_ #[ii,ii,ii,oo,ii,oo,oo,ii,oo,oo,oo] rfl rfl hHeld ?_
   refine tz_ (i := 5) (N := some 58) HT_ HW_ #[ii,ii,ii,oo,ii,ii,oo,ii,oo,oo,oo] rfl rfl hHeld ?_
   refine tz_ (i := 8) (N := some 61) HT_ HW_ #[ii,ii,ii,oo,ii,ii,oo,ii,ii,oo,oo] rfl rfl hHeld ?_
   refine one_ (i := 3) (N := some 56) #[ii,ii,ii,ii,ii,ii,oo,ii,ii,oo,oo] rfl rfl (one_of HT_.out (by kernel_rfl)) (by decide) (fun K hK => ?_)
   refine goes_ Try.func88 (by kernel_rfl) rfl #[.slice Ao61 y197.length co61, .string a0_6] (by rfl) rfl rfl la_ ?_
   with_reducible refine (spec_PutText.calls kj5 _ _ y197 a0_6 t200 _ ?side1 ?side2 A35.out).mono ?_
   (case side1 => exact qC ((Kd.R_reads' HO199.out).2.2))
   (case side2 => exact (Kd.R_reads' HO199.out).2.1)
   rintro e w62 ⟨v201, rfl, ho0, hb⟩
   refine ⟨_, rfl, ?_⟩
   have HO202 := am_ (Kd.R_lower (Kd.R_new' (Kd.R_new' (Kd.R_new' (Kd.R_new' (Kd.R_new' (Kd.R_new' (Kd.R_new' ho0 (Kd.R_lt (qR HO175))) (Kd.R_lt (qR HO181))) (Kd.R_lt (qR HO184))) (Kd.R_lt (qR HO187))) (Kd.R_lt (qR HO190))) (Kd.R_lt (qR HO196))) (Kd.R_lt (qR HO199))) (below_size (qB HB)))
   replace HO175 := eA_ HO175 ho0 hb
   replace HO181 := eA_ HO181 ho0 hb
   replace HO184 := eA_ HO184 ho0 hb
   replace HO187 := eA_ HO187 ho0 hb
   replace HO190 := eA_ HO190 ho0 hb
   replace HO196 := eA_ HO196 ho0 hb
   replace HO199 := eA_ HO199 ho0 hb
   replace BK167 := bK_ BK167 hb
   replace BK168 := bK_ BK168 hb
   replace HB := bS_ HB hb
   (try clear hb ho0)
   obtain ⟨Ao63, co63, eo63⟩ := Kd.R_slice HO202.out
   (first | subst eo63 | (injection eo63 with f1_ f2_ f3_; have f4_ := f1_.symm; have f5_ := f3_.symm; clear f1_ f2_ f3_; subst f4_; subst f5_))
   refine hK.out _ _ (cz8 BK168.out) (fun hHeld => ?_)
   clear hK K
   refine norm_ (a' := ?_) ?_ ?_
   rotate_left
   ·
    show Act.put _ (some 56) _ = _
    exact ap_
   refine one_ (i := 6) (N := some 59) #[ii,ii,ii,ii,ii,ii,ii,ii,ii,oo,oo] rfl rfl (one_of HT_.out (by kernel_rfl)) (by decide) (fun K hK => ?_)
   refine goes_ Try.func89 (by kernel_rfl) rfl #[.slice Ao63 t200.length co63, .int .i64 a0_7] (by rfl) rfl rfl la_ ?_
   with_reducible refine (spec_PutWord.calls _ _ t200 a0_7 t203 _ ?side1 ?side2 A36.out).mono ?_
   (case side1 => exact qC ((Kd.R_reads' HO202.out).2.2))
   (case side2 => exact (Kd.R_reads' HO202.out).2.1)
   rintro e w64 ⟨v204, rfl, ho0, hb⟩
   refine ⟨_, rfl, ?_⟩
   have HO205 := am_ (Kd.R_lower (Kd.R_new' (Kd.R_new' (Kd.R_new' (Kd.R_new' (Kd.R_new' (Kd.R_new' (Kd.R_new' (Kd.R_new' ho0 (Kd.R_lt (qR HO175))) (Kd.R_lt (qR HO181))) (Kd.R_lt (qR HO184))) (Kd.R_lt (qR HO187))) (Kd.R_lt (qR HO190))) (Kd.R_lt (qR HO196))) (Kd.R_lt (qR HO199))) (Kd.R_lt (qR HO202))) (below_size (qB HB)))
   replace HO175 := eA_ HO175 ho0 hb
   replace HO181 := eA_ HO181 ho0 hb
   replace HO184 := eA_ HO184 ho0 hb
   replace HO187 := eA_ HO187 ho0 hb
   replace HO190 := eA_ HO190 ho0 hb
   replace HO196 := eA_ HO196 ho0 hb
   replace HO199 := eA_ HO199 ho0 hb
   replace HO202 := eA_ HO202 ho0 hb
   replace BK167 := bK_ BK167 hb
   replace BK168 := bK_ BK168 hb
   replace HB := bS_ HB hb
   (try clear hb ho0)
   obtain ⟨Ao65, co65, eo65⟩ := Kd.R_slice HO205.out
   (first | subst eo65 | (injection eo65 with f1_ f2_ f3_; have f4_ := f1_.symm; have f5_ := f3_.symm; clear f1_ f2_ f3_; subst f4_; subst f5_))
   refine hK.out _ _ (cz8 BK168.out) (fun hHeld => ?_)
   clear hK K
   refine norm_ (a' := ?_) ?_ ?_
   rotate_left
   ·
    show Act.put _ (some 59) _ = _
    exact ap_
   refine one_ (i := 9) (N := some 62) #[ii,ii,ii,ii,ii,ii,ii,ii,ii,ii,oo] rfl rfl (one_of HT_.out (by kernel_rfl)) (by decide) (fun K hK => ?_)
   refine goes_ Try.func89 (by kernel_rfl) rfl #[.slice Ao65 t203.length co65, .int .i64 a0_8] (by rfl) rfl rfl la_ ?_
   with_reducible refine (spec_PutWord.calls _ _ t203 a0_8 t206 _ ?side1 ?side2 A37.out).mono ?_
   (case side1 => exact qC ((Kd.R_reads' HO205.out).2.2))
   (case side2 => exact (Kd.R_reads' HO205.out).2.1)
   rintro e w66 ⟨v207, rfl, ho0, hb⟩
   refine ⟨_, rfl, ?_⟩
   have HO208 := am_ (Kd.R_lower (Kd.R_new' (Kd.R_new' (Kd.R_new' (Kd.R_new' (Kd.R_new' (Kd.R_new' (Kd.R_new' (Kd.R_new' (Kd.R_new' ho0 (Kd.R_lt (qR HO175))) (Kd.R_lt (qR HO181))) (Kd.R_lt (qR HO184))) (Kd.R_lt (qR HO187))) (Kd.R_lt (qR HO190))) (Kd.R_lt (qR HO196))) (Kd.R_lt (qR HO199))) (Kd.R_lt (qR HO202))) (Kd.R_lt (qR HO205))) (below_size (qB HB)))
   replace HO175 := eA_ HO175 ho0 hb
   replace HO181 := eA_ HO181 ho0 hb
   replace HO184 := eA_ HO184 ho0 hb
   replace HO187 := eA_ HO187 ho0 hb
   replace HO190 := eA_ HO190 ho0 hb
   replace HO196 := eA_ HO196 ho0 hb
   replace HO199 := eA_ HO199 ho0 hb
   replace HO202 := eA_ HO202 ho0 hb
   replace HO205 := eA_ HO205 ho0 hb
   replace BK167 := bK_ BK167 hb
   replace BK168 := bK_ BK168 hb
   replace HB := bS_ HB hb
   (try clear hb ho0)
   refine hK.out _ _ (cz8 BK168.out) (fun hHeld => ?_)
   clear hK K
   refine norm_ (a' := ?_) ?_ ?_
   rotate_left
   ·
    show Act.put _ (some 62) _ = _
    exact ap_
   refine pz_ (i := 10) (N := some 2) HT_ #[ii,ii,ii,ii,ii,ii,ii,ii,ii,ii,ii] rfl rfl ?_
   refine done_ (done_of HT_.out (by kernel_rfl)) ?_
   try go_wp2
   go_ret
   exact ⟨_, er_, by (with_reducible repeat (first | apply Kd.R_alloc | apply Kd.R_drewN | apply Kd.R_drew)); exact Kd.R_mono HO208.out (fun _ hk => trivial), qB HB⟩

end Go.Proofs.Ytiffahfpfgnjnaa.PFnWays
