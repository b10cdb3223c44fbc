-- Written by a program of this session (myprint.py, over the kit's print): contracts of FnExactGetCtl
import Derived.Test.YtiffahfpfgnjnabPFnExactGetCtlx0
import Derived.Test.YtiffahfpfgnjnabPFnExactGetCtlx1
import Derived.Test.YtiffahfpfgnjnabPFnExactGetCtlx2
import Derived.Test.YtiffahfpfgnjnabPFnExactGetCtlx4
import Derived.Test.YtiffahfpfgnjnabPFnExactGetCtlx5
import Derived.Test.YtiffahfpfgnjnabPFnExactGetCtlx6
namespace Go.Proofs.Ytiffahfpfgnjnab.PFnExactGetCtl
open Go.RowKit Go.Proofs.YtiffahfpfgnjnabW.PrintWords Go.Proofs.YtiffahfpfgnjnabW.PrintLast Go.Proofs.YtiffahfpfgnjnabW.PrintMore Go.Proofs.YtiffahfpfgnjnabV
attribute [local go_sem] max2_int min2_int max_two min_two max_three min_three max_four min_four   -- for this text's walks alone
set_option linter.unusedVariables false
set_option linter.unusedSimpArgs false

attribute [local go_sem high] eqA90 eqA124
/-! ### spec_PutItem: function 105 -/
mutual
def spec_PutItem.j0 : Nat → Bool → Int → ByteArray → Int → Int → Int → ByteArray → Int → Int → Option (List Int)
 | 0, _, _, _, _, _, _, _, _, _ => none
 | k + 1, x25, x166000, x166001, x166002, x166003, x166004, x166005, x166006, x166007 => if x25 = true then (some (([] : List Int))) else ((spec_PutWord.f (([1] : List Int)) x166000).bind fun t173 => ((some (([(x166002) % 256] : List Int) : List Int)).bind fun y176 => (if t173.length + y176.length < 140737488355328 then ((spec_PutText.f k (t173 ++ y176) x166001).bind fun t182 => ((spec_PutWord.f t182 x166003).bind fun t185 => ((spec_PutWord.f t185 (wrap64 (Int.tdiv x166004 256))).bind fun t188 => ((some (([(Int.tmod x166004 256) % 256] : List Int) : List Int)).bind fun y191 => (if t188.length + y191.length < 140737488355328 then ((spec_PutText.f k (t188 ++ y191) x166005).bind fun t197 => ((spec_PutWord.f t197 x166006).bind fun t200 => ((spec_PutWord.f t200 x166007).bind fun t203 => (some t203)))) else (none)))))) else (none))))
def spec_PutItem.j1 : Nat → Bool → Int → ByteArray → Int → Int → Int → Int → Int → Option (List Int)
 | 0, _, _, _, _, _, _, _, _ => none
 | k + 1, x83, x207000, x207001, x207002, x207003, x207004, x207005, x207006 => if x83 = true then (some (([] : List Int))) else ((spec_PutWord.f (([2] : List Int)) x207000).bind fun t214 => ((some (([(x207003) % 256] : List Int) : List Int)).bind fun y217 => (if t214.length + y217.length < 140737488355328 then ((spec_PutText.f k (t214 ++ y217) x207001).bind fun t223 => ((spec_PutWord.f t223 x207002).bind fun t226 => ((spec_PutWord.f t226 (wrap64 (Int.tdiv x207004 256))).bind fun t229 => ((some (([(Int.tmod x207004 256) % 256] : List Int) : List Int)).bind fun y232 => (if t229.length + y232.length < 140737488355328 then ((spec_PutWord.f (t229 ++ y232) x207005).bind fun t238 => ((spec_PutWord.f t238 x207006).bind fun t241 => (some t241))) else (none)))))) else (none))))
end
def spec_PutItem.f (k : Nat) (a0_0 : Int) (a0_1 : Int) (a0_2 : ByteArray) (a0_3 : Int) (a0_4 : Int) (a0_5 : Int) (a0_6 : ByteArray) (a0_7 : Int) (a0_8 : Int) (a0_9 : Int) (a0_10 : ByteArray) (a0_11 : Int) (a0_12 : Int) (a0_13 : Int) (a0_14 : Int) (a0_15 : Int) : Option (List Int) := if a0_0 = 1 then ((spec_AskerOk.f k a0_1 a0_2 a0_3 a0_4 a0_5 a0_6 a0_7 a0_8).bind fun t166 => (if t166 = true then (if (!(a0_9 == 0) || (!(a0_10.toList == ([] : List UInt8)) || (!(a0_11 == 0) || (!(a0_12 == 0) || (!(a0_13 == 0) || (!(a0_14 == 0) || (!(a0_15 == 0)))))))) = true then (spec_PutItem.j0 k true a0_1 a0_2 a0_3 a0_4 a0_5 a0_6 a0_7 a0_8) else (spec_PutItem.j0 k (decide (a0_8 > 65535)) a0_1 a0_2 a0_3 a0_4 a0_5 a0_6 a0_7 a0_8)) else (spec_PutItem.j0 k true a0_1 a0_2 a0_3 a0_4 a0_5 a0_6 a0_7 a0_8))) else (if a0_0 = 2 then ((spec_LineOk.f k a0_9 a0_10 a0_11 a0_12 a0_13 a0_14 a0_15).bind fun t207 => (if t207 = true then (if (!(a0_1 == 0) || (!(a0_2.toList == ([] : List UInt8)) || (!(a0_3 == 0) || (!(a0_4 == 0) || (!(a0_5 == 0) || (!(a0_6.toList == ([] : List UInt8)) || (!(a0_7 == 0) || (!(a0_8 == 0))))))))) = true then (spec_PutItem.j1 k true a0_9 a0_10 a0_11 a0_12 a0_13 a0_14 a0_15) else (spec_PutItem.j1 k (decide (a0_15 > 65535)) a0_9 a0_10 a0_11 a0_12 a0_13 a0_14 a0_15)) else (spec_PutItem.j1 k true a0_9 a0_10 a0_11 a0_12 a0_13 a0_14 a0_15))) else (spec_PutItem.j1 k true a0_9 a0_10 a0_11 a0_12 a0_13 a0_14 a0_15))
theorem spec_PutItem.mono_l : ∀ k, (∀ y0 y1 y2 y3 y4 y5 y6 y7 y8, LeO (spec_PutItem.j0 k y0 y1 y2 y3 y4 y5 y6 y7 y8) (spec_PutItem.j0 (k + 1) y0 y1 y2 y3 y4 y5 y6 y7 y8)) ∧ (∀ y0 y1 y2 y3 y4 y5 y6 y7, LeO (spec_PutItem.j1 k y0 y1 y2 y3 y4 y5 y6 y7) (spec_PutItem.j1 (k + 1) y0 y1 y2 y3 y4 y5 y6 y7))
 | 0 => ⟨fun _ _ _ _ _ _ _ _ _ r h => by simp [spec_PutItem.j0] at h, fun _ _ _ _ _ _ _ _ r h => by simp [spec_PutItem.j1] at h⟩
 | k + 1 => by
  obtain ⟨ih0, ih1⟩ := spec_PutItem.mono_l k
  refine ⟨?_, ?_⟩
  ·
   intro y0 y1 y2 y3 y4 y5 y6 y7 y8
   unfold spec_PutItem.j0
   have m0 := @spec_AskerOk.mono; have m1 := @spec_LineOk.mono; have m2 := @spec_PutText.mono; exact mo_
  ·
   intro y0 y1 y2 y3 y4 y5 y6 y7
   unfold spec_PutItem.j1
   have m0 := @spec_AskerOk.mono; have m1 := @spec_LineOk.mono; have m2 := @spec_PutText.mono; exact mo_
theorem spec_PutItem.mono : ∀ a0 a1 a2 a3 a4 a5 a6 a7 a8 a9 a10 a11 a12 a13 a14 a15 k, LeO (spec_PutItem.f k a0 a1 a2 a3 a4 a5 a6 a7 a8 a9 a10 a11 a12 a13 a14 a15) (spec_PutItem.f (k + 1) a0 a1 a2 a3 a4 a5 a6 a7 a8 a9 a10 a11 a12 a13 a14 a15) := by
 intro a0 a1 a2 a3 a4 a5 a6 a7 a8 a9 a10 a11 a12 a13 a14 a15 k
 obtain ⟨ih0, ih1⟩ := spec_PutItem.mono_l k
 unfold spec_PutItem.f
 have m0 := @spec_AskerOk.mono; have m1 := @spec_LineOk.mono; have m2 := @spec_PutText.mono; exact mo_
def spec_PutItem.T5 : Bool × List (List Nat × List Nat) := (true, [([], []), ([], []), ([1], [1]), ([0, 2], [0, 2]), ([], []), ([4], [4]), ([5], [5]), ([6], [6]), ([3, 7, 3], [3, 7]), ([], []), ([9], [9]), ([8, 10, 8], [8, 10]), ([11, 11, 0, 1, 2, 3, 4, 5, 6, 7, 8, 9, 10, 11], [11])])
def spec_PutItem.B5 : List Nat := [0, 0, 2, 7, 0, 16, 48, 112, 255, 0, 512, 2047, 4095]
theorem spec_PutItem.tab5 : rtab .any (opsOf Try.f105 5) = spec_PutItem.T5 := by kernel_rfl
theorem spec_PutItem.bits5 : waitsOk spec_PutItem.T5.2 spec_PutItem.B5 = true := by kernel_rfl
def spec_PutItem.T6 : Bool × List (List Nat × List Nat) := (true, [([], []), ([], []), ([1], [1]), ([0, 2], [0, 2]), ([], []), ([4], [4]), ([5], [5]), ([3, 6, 3], [3, 6]), ([], []), ([8], [8]), ([9], [9]), ([10], [10]), ([11], [11]), ([7, 12, 7], [7, 12]), ([13, 13, 0, 1, 2, 3, 4, 5, 6, 7, 8, 9, 10, 11, 12, 13], [0, 13])])
def spec_PutItem.B6 : List Nat := [0, 0, 2, 7, 0, 16, 48, 127, 0, 256, 768, 1792, 3840, 8191, 16383]
theorem spec_PutItem.tab6 : rtab .any (opsOf Try.f105 6) = spec_PutItem.T6 := by kernel_rfl
theorem spec_PutItem.bits6 : waitsOk spec_PutItem.T6.2 spec_PutItem.B6 = true := by kernel_rfl
def spec_PutItem.T7 : Bool × List (List Nat × List Nat) := (true, [([], []), ([], []), ([1], [1]), ([0, 2], [0, 2]), ([], []), ([4], [4]), ([3, 5, 3], [3, 5]), ([], []), ([7], [7]), ([6, 8, 6], [6, 8]), ([9, 9, 0, 1, 2, 3, 4, 5, 6, 7, 8, 9], [9])])
def spec_PutItem.B7 : List Nat := [0, 0, 2, 7, 0, 16, 63, 0, 128, 511, 1023]
theorem spec_PutItem.tab7 : rtab .any (opsOf Try.f105 7) = spec_PutItem.T7 := by kernel_rfl
theorem spec_PutItem.bits7 : waitsOk spec_PutItem.T7.2 spec_PutItem.B7 = true := by kernel_rfl
def spec_PutItem.T11 : Bool × List (List Nat × List Nat) := (true, [([], []), ([], []), ([1], [1]), ([0, 2], [0, 2]), ([], []), ([4], [4]), ([5], [5]), ([6], [6]), ([3, 7, 3], [3, 7]), ([], []), ([9], [9]), ([8, 10, 8], [8, 10]), ([], []), ([12], [12]), ([11, 13, 11], [11, 13]), ([14, 14, 0, 1, 2, 3, 4, 5, 6, 7, 8, 9, 10, 11, 12, 13, 14], [14])])
def spec_PutItem.B11 : List Nat := [0, 0, 2, 7, 0, 16, 48, 112, 255, 0, 512, 2047, 0, 4096, 16383, 32767]
theorem spec_PutItem.tab11 : rtab .any (opsOf Try.f105 11) = spec_PutItem.T11 := by kernel_rfl
theorem spec_PutItem.bits11 : waitsOk spec_PutItem.T11.2 spec_PutItem.B11 = true := by kernel_rfl
def spec_PutItem.T12 : Bool × List (List Nat × List Nat) := (true, [([], []), ([], []), ([1], [1]), ([2], [2]), ([0, 3], [0, 3]), ([], []), ([5], [5]), ([6], [6]), ([7], [7]), ([8], [8]), ([4, 9, 4], [4, 9]), ([], []), ([11], [11]), ([10, 12, 10], [10, 12]), ([], []), ([14], [14]), ([13, 15, 13], [13, 15]), ([16, 16, 0, 1, 2, 3, 4, 5, 6, 7, 8, 9, 10, 11, 12, 13, 14, 15, 16], [16])])
def spec_PutItem.B12 : List Nat := [0, 0, 2, 6, 15, 0, 32, 96, 224, 480, 1023, 0, 2048, 8191, 0, 16384, 65535, 131071]
theorem spec_PutItem.tab12 : rtab .any (opsOf Try.f105 12) = spec_PutItem.T12 := by kernel_rfl
theorem spec_PutItem.bits12 : waitsOk spec_PutItem.T12.2 spec_PutItem.B12 = true := by kernel_rfl
set_option maxHeartbeats 8000000 in
set_option maxRecDepth 100000 in
theorem spec_PutItem.calls (k : Nat) (a0_0 : Int) (a0_1 : Int) (a0_2 : ByteArray) (a0_3 : Int) (a0_4 : Int) (a0_5 : Int) (a0_6 : ByteArray) (a0_7 : Int) (a0_8 : Int) (a0_9 : Int) (a0_10 : ByteArray) (a0_11 : Int) (a0_12 : Int) (a0_13 : Int) (a0_14 : Int) (a0_15 : Int) (r : List Int) (w : World) (h : spec_PutItem.f k a0_0 a0_1 a0_2 a0_3 a0_4 a0_5 a0_6 a0_7 a0_8 a0_9 a0_10 a0_11 a0_12 a0_13 a0_14 a0_15 = some r) :
  Calls Try.prog 105 #[.agg #[.int .i64 a0_0, .int .i64 a0_1, .string a0_2, .int .i64 a0_3, .int .i64 a0_4, .int .i64 a0_5, .string a0_6, .int .i64 a0_7, .int .i64 a0_8, .int .i64 a0_9, .string a0_10, .int .i64 a0_11, .int .i64 a0_12, .int .i64 a0_13, .int .i64 a0_14, .int .i64 a0_15]] w fun e w' => ∃ v0_ : Value, e = .returned (v0_) ∧ Kd.R (Kd.int .u8) 5 w' w.heap.size (fun _ => True) v0_ r ∧ Below w.heap.size w w' := by
 have hu126 := Try.underlying126
 have hu90 := Try.underlying90
 have hu124 := Try.underlying124
 have HB := Aside0.mk (Below.refl w.heap.size w)
 have H := h
 unfold spec_PutItem.f at H
 clear h
 have HC2 := Aside0.mk H
 clear H
 go_enter Try.func105, Try.ntmps105
 go_upto_if 9 with (first | ((with_reducible refine gate_dst (N := 1) rfl ?_); refine bx_ (N := 1) (cs := #[.int .i64 a0_0, .int .i64 a0_1, .string a0_2, .int .i64 a0_3, .int .i64 a0_4, .int .i64 a0_5, .string a0_6, .int .i64 a0_7, .int .i64 a0_8, .int .i64 a0_9, .string a0_10, .int .i64 a0_11, .int .i64 a0_12, .int .i64 a0_13, .int .i64 a0_14, .int .i64 a0_15]) (t := 126) ?_; intro gb164 hg w3 hbox hb; have BK164 := am_ (hbox); have GW164 := gA_ hg HB; have GE164 := GW164; have IGE164 := gI_ GE164; replace HB := bS_ HB hb; clear hb hbox hg; (try clear zK164); have zK164 := cz16 BK164.out; (try clear fK164); have fK164 := fz16 BK164.out))
 (try simp only [Act.put, List.setIfInBounds_toArray, List.set_cons_zero, List.set_cons_succ])
 have H := HC2.out
 clear HC2
 replace H := ie_ H
 obtain ⟨-, H, c5b0, c5b1⟩ | ⟨c5, H, c5b0, c5b1⟩ := H
 rotate_left
 ·
  (first | rw [c5b0] | rw [c5b1] | (simp only [i64_w, i32_w]; rw [c5b0]) | skip)
  have HC67 := Aside0.mk H
  clear H
  (try clear zK164)
  have zK164 := cz16 BK164.out
  (try clear fK164)
  have fK164 := fz16 BK164.out
  go_upto_region 9 with (first | ((with_reducible refine gate_dst (N := 5) rfl ?_); refine bx_ (N := 5) (cs := #[.int .i64 0, .string (⟨#[]⟩ : ByteArray), .int .i64 0, .int .i64 0, .int .i64 0, .int .i64 0, .int .i64 0]) (t := 124) ?_; intro gb206 hg w69 hbox hb; have BK206 := am_ (hbox); have GW206 := gA_ hg HB; have GE206 := GW206; have IGE206 := gI_ GE206; replace HB := bS_ HB hb; have NB164_206 := am_ ((gN_ hg (qK BK164))); have NB206_164 := am_ ((gM_ hg (qK BK164))); replace BK164 := bK_ BK164 hb; clear hb hbox hg; have hnb70 := NB206_164.out; have hnc70 := NB164_206.out; (try clear zK206); have zK206 := cz7 BK206.out; (try clear fK206); have fK206 := fz7 BK206.out))
  (try simp only [Act.put, List.setIfInBounds_toArray, List.set_cons_zero, List.set_cons_succ])
  go_cut [83] (fun v83 wc => ∃ (kq : Nat) (x83_66 : Bool), v83 = .bool x83_66 ∧ Aside0 (spec_PutItem.j1 kq x83_66 a0_9 a0_10 a0_11 a0_12 a0_13 a0_14 a0_15 = some r) ∧ Aside0 (kq ≤ k) ∧ Aside0 (wc.heap[gb164]? = some (.cells #[.int .i64 a0_0, .int .i64 a0_1, .string a0_2, .int .i64 a0_3, .int .i64 a0_4, .int .i64 a0_5, .string a0_6, .int .i64 a0_7, .int .i64 a0_8, .int .i64 a0_9, .string a0_10, .int .i64 a0_11, .int .i64 a0_12, .int .i64 a0_13, .int .i64 a0_14, .int .i64 a0_15] 126 (0, 0))) ∧ Aside0 (wc.heap[gb206]? = some (.cells #[.int .i64 a0_9, .string a0_10, .int .i64 a0_11, .int .i64 a0_12, .int .i64 a0_13, .int .i64 a0_14, .int .i64 a0_15] 124 (0, 0))) ∧ Aside0 (Below w.heap.size w wc))
  case first =>
   have H := HC67.out
   clear HC67
   replace H := ie_ H
   obtain ⟨-, H, c72b0, c72b1⟩ | ⟨c72, H, c72b0, c72b1⟩ := H
   rotate_left
   ·
    (first | rw [c72b0] | rw [c72b1] | (simp only [i64_w, i32_w]; rw [c72b0]) | skip)
    have H' := Aside0.mk H
    clear H
    have hnb91 := NB164_206.out
    have hnc91 := NB206_164.out
    (try clear zK164)
    have zK164 := cz16 BK164.out
    (try clear fK164)
    have fK164 := fz16 BK164.out
    go_wp2
    go_meet
    case rel => exact ⟨_, (true), eqq_, H', ⟨by first | omega | exact Nat.le_refl _⟩, ⟨by (with_reducible repeat (first | refine blk_drewN ?_ _ | refine blk_drew ?_ | refine blk_alloc ?_ _)); refine blk_far7 ?_ NB164_206.out; exact qK BK164⟩, ⟨by (with_reducible repeat (first | refine blk_drewN ?_ _ | refine blk_drew ?_ | refine blk_alloc ?_ _)); refine blk_all7 (show _ = some (Go.Obj.cells #[.int .i64 0, .string (⟨#[]⟩ : ByteArray), .int .i64 0, .int .i64 0, .int .i64 0, .int .i64 0, .int .i64 0] _ (0, 0)) from ?_); exact qK BK206⟩, ⟨qB HB⟩⟩
   (first | rw [c72b0] | rw [c72b1] | (simp only [i64_w, i32_w]; rw [c72b0]) | skip)
   replace H := bd_ H
   obtain ⟨t207, A73, H⟩ := H
   by_cases c74 : t207 = true
   rotate_left
   ·
    replace c74 := Bool.eq_false_iff.mpr c74
    subst c74
    rw [if_neg (show ¬ (false = true) by decide)] at H
    have H' := Aside0.mk H
    clear H
    have hnb87 := NB164_206.out
    have hnc87 := NB206_164.out
    (try clear zK164)
    have zK164 := cz16 BK164.out
    (try clear fK164)
    have fK164 := fz16 BK164.out
    (try clear zK206)
    have zK206 := cz7 BK206.out
    (try clear fK206)
    have fK206 := fz7 BK206.out
    go_wp2_with (first | (go_at_call 124; (with_reducible refine (spec_LineOk.calls k a0_9 a0_10 a0_11 a0_12 a0_13 a0_14 a0_15 false _ A73.out).mono ?_); rintro e w90 ⟨rfl, hb⟩; replace BK164 := am_ (blk_below (g := gb164) (o := .cells #[.int .i64 a0_0, .int .i64 a0_1, .string a0_2, .int .i64 a0_3, .int .i64 a0_4, .int .i64 a0_5, .string a0_6, .int .i64 a0_7, .int .i64 a0_8, .int .i64 a0_9, .string a0_10, .int .i64 a0_11, .int .i64 a0_12, .int .i64 a0_13, .int .i64 a0_14, .int .i64 a0_15] 126 (0, 0)) (by (with_reducible repeat (first | refine blk_drewN ?_ _ | refine blk_drew ?_ | refine blk_alloc ?_ _)); refine blk_far7 ?_ NB164_206.out; exact qK BK164) hb); replace BK206 := am_ (blk_below (g := gb206) (o := .cells #[.int .i64 a0_9, .string a0_10, .int .i64 a0_11, .int .i64 a0_12, .int .i64 a0_13, .int .i64 a0_14, .int .i64 a0_15] 124 (0, 0)) (by exact blk_all7 (qK BK206)) hb); replace HB := bS_ HB hb; (try clear hb)))
    go_meet
    case rel => exact ⟨_, (true), eqq_, H', ⟨by first | omega | exact Nat.le_refl _⟩, ⟨qK BK164⟩, ⟨qK BK206⟩, ⟨qB HB⟩⟩
   subst c74
   rw [if_pos rfl] at H
   replace H := id_ H
   obtain ⟨c75, H, -⟩ | ⟨c75, H, -⟩ := H
   ·
    have c75b0 : (!(a0_1 == 0) || (!(a0_2.toList == ([] : List UInt8)) || (!(a0_3 == 0) || (!(a0_4 == 0) || (!(a0_5 == 0) || (!(a0_6.toList == ([] : List UInt8)) || (!(a0_7 == 0) || (!(a0_8 == 0))))))))) = true := c75
    (try (have c75b0e := c75b0; simp only [beq_nil, bne_nil] at c75b0e))
    clear c75
    have H' := Aside0.mk H
    clear H
    have hnb76 := NB164_206.out
    have hnc76 := NB206_164.out
    (try clear zK164)
    have zK164 := cz16 BK164.out
    (try clear fK164)
    have fK164 := fz16 BK164.out
    (try clear zK206)
    have zK206 := cz7 BK206.out
    (try clear fK206)
    have fK206 := fz7 BK206.out
    go_wp2_with (first | (go_at_call 124; (with_reducible refine (spec_LineOk.calls k a0_9 a0_10 a0_11 a0_12 a0_13 a0_14 a0_15 true _ A73.out).mono ?_); rintro e w79 ⟨rfl, hb⟩; replace BK164 := am_ (blk_below (g := gb164) (o := .cells #[.int .i64 a0_0, .int .i64 a0_1, .string a0_2, .int .i64 a0_3, .int .i64 a0_4, .int .i64 a0_5, .string a0_6, .int .i64 a0_7, .int .i64 a0_8, .int .i64 a0_9, .string a0_10, .int .i64 a0_11, .int .i64 a0_12, .int .i64 a0_13, .int .i64 a0_14, .int .i64 a0_15] 126 (0, 0)) (by (with_reducible repeat (first | refine blk_drewN ?_ _ | refine blk_drew ?_ | refine blk_alloc ?_ _)); refine blk_far7 ?_ NB164_206.out; exact qK BK164) hb); replace BK206 := am_ (blk_below (g := gb206) (o := .cells #[.int .i64 a0_9, .string a0_10, .int .i64 a0_11, .int .i64 a0_12, .int .i64 a0_13, .int .i64 a0_14, .int .i64 a0_15] 124 (0, 0)) (by exact blk_all7 (qK BK206)) hb); replace HB := bS_ HB hb; (try clear hb); (try clear zK164); have zK164 := cz16 BK164.out; (try clear fK164); have fK164 := fz16 BK164.out))
    go_meet
    case rel => exact ⟨_, (true), eqq_, H', ⟨by first | omega | exact Nat.le_refl _⟩, ⟨qK BK164⟩, ⟨qK BK206⟩, ⟨qB HB⟩⟩
   have c75b0 : (!(a0_1 == 0) || (!(a0_2.toList == ([] : List UInt8)) || (!(a0_3 == 0) || (!(a0_4 == 0) || (!(a0_5 == 0) || (!(a0_6.toList == ([] : List UInt8)) || (!(a0_7 == 0) || (!(a0_8 == 0))))))))) = false := by simpa using c75
   (try (have c75b0e := c75b0; simp only [beq_nil, bne_nil] at c75b0e))
   clear c75
   have H' := Aside0.mk H
   clear H
   have hnb81 := NB164_206.out
   have hnc81 := NB206_164.out
   (try clear zK164)
   have zK164 := cz16 BK164.out
   (try clear fK164)
   have fK164 := fz16 BK164.out
   (try clear zK206)
   have zK206 := cz7 BK206.out
   (try clear fK206)
   have fK206 := fz7 BK206.out
   go_wp2_with (first | (go_at_call 124; (with_reducible refine (spec_LineOk.calls k a0_9 a0_10 a0_11 a0_12 a0_13 a0_14 a0_15 true _ A73.out).mono ?_); rintro e w84 ⟨rfl, hb⟩; replace BK164 := am_ (blk_below (g := gb164) (o := .cells #[.int .i64 a0_0, .int .i64 a0_1, .string a0_2, .int .i64 a0_3, .int .i64 a0_4, .int .i64 a0_5, .string a0_6, .int .i64 a0_7, .int .i64 a0_8, .int .i64 a0_9, .string a0_10, .int .i64 a0_11, .int .i64 a0_12, .int .i64 a0_13, .int .i64 a0_14, .int .i64 a0_15] 126 (0, 0)) (by (with_reducible repeat (first | refine blk_drewN ?_ _ | refine blk_drew ?_ | refine blk_alloc ?_ _)); refine blk_far7 ?_ NB164_206.out; exact qK BK164) hb); replace BK206 := am_ (blk_below (g := gb206) (o := .cells #[.int .i64 a0_9, .string a0_10, .int .i64 a0_11, .int .i64 a0_12, .int .i64 a0_13, .int .i64 a0_14, .int .i64 a0_15] 124 (0, 0)) (by exact blk_all7 (qK BK206)) hb); replace HB := bS_ HB hb; (try clear hb); (try clear zK164); have zK164 := cz16 BK164.out; (try clear fK164); have fK164 := fz16 BK164.out; (try clear zK206); have zK206 := cz7 BK206.out; (try clear fK206); have fK206 := fz7 BK206.out))
   go_meet
   case rel => exact ⟨_, (decide (a0_15 > 65535)), eqq_, H', ⟨by first | omega | exact Nat.le_refl _⟩, ⟨qK BK164⟩, ⟨qK BK206⟩, ⟨qB HB⟩⟩
  case rest =>
   clear HC67
   try clear c1
   try clear p2
   try clear c3
   try clear c5
   try clear c5b0
   try clear c5b1
   try clear c7
   try clear c8
   try clear c9
   try clear c10
   try clear c12
   try clear c30
   try clear c34
   try clear c70
   try clear c72
   try clear c72b0
   try clear c72b1
   try clear c74
   try clear c75
   try clear c75b0
   try clear c76
   try clear c81
   try clear c87
   try clear c91
   (try clear zK164)
   (try clear zK206)
   (try clear zK164)
   (try clear zK206)
   (try clear zK164)
   (try clear zK164)
   (try clear zK206)
   (try clear zK164)
   (try clear zK206)
   (try clear zK164)
   (try clear zK206)
   (try clear zK164)
   (try clear fK164)
   (try clear fK206)
   (try clear fK164)
   (try clear fK206)
   (try clear fK164)
   (try clear fK164)
   (try clear fK206)
   (try clear fK164)
   (try clear fK206)
   (try clear fK164)
   (try clear fK206)
   (try clear fK164)
   obtain ⟨kq, x83_66, rfl, HA, HJ66, BK164, BK206, HB⟩ := hcut
   cases kq with
   | zero => exact absurd HA.out (by simp [spec_PutItem.j1])
   | succ kj66 =>
    have H := HA.out
    clear HA
    simp only [spec_PutItem.j1] at H
    by_cases c93 : x83_66 = true
    ·
     subst c93
     rw [if_pos rfl] at H
     obtain ⟨y208, hy208⟩ : ∃ y_ : List Int, y_ = (([] : List Int)) := ⟨_, rfl⟩
     rw [← hy208] at H
     have Ny208 := Aside0.mk hy208
     clear hy208
     obtain rfl := Option.some.inj H
     go_wp2_with (first | ((with_reducible refine gate_dst (N := 84) rfl ?_); refine Kd.R_lit (Kd.int .u8) _ 5 ?hg (N := 84) ?hd (xs := ([] : List Int)) (inner := []) (ok := fun _ => True) (okp := fun _ => True) ?hr ?hp (fun _ hk => hk) trivial (Below.refl _ _) (Nat.le_refl _) (by simp) ?_; (case hd => rfl); (case hg => rfl); (case hr => first | (go_simp; done) | (go_simp; rfl)); (case hp => exact (Reps.none _ _)); intro v209 w94 ho95 hb hg_ hnew_; clear hg_ hnew_; (first | rw [← Ny208.out] at ho95 | (simp only [Int.reduceToNat] at ho95; rw [← Ny208.out] at ho95)); have HO210 := am_ (Kd.R_lower ho95 (below_size (qB HB))); replace BK164 := bK_ BK164 hb; replace BK206 := bK_ BK206 hb; replace HB := bS_ HB hb; clear hb ho95))
     go_ret
     exact ⟨_, er_, qR HO210, qB HB⟩
    replace c93 := Bool.eq_false_iff.mpr c93
    subst c93
    rw [if_neg (show ¬ (false = true) by decide)] at H
    obtain ⟨y211, hy211⟩ : ∃ y_ : List Int, y_ = (([2] : List Int)) := ⟨_, rfl⟩
    rw [← hy211] at H
    have Ny211 := Aside0.mk hy211
    clear hy211
    replace H := bd_ H
    obtain ⟨t214, A96, H⟩ := H
    obtain ⟨y217, hy217⟩ : ∃ y_ : List Int, y_ = (([(a0_12) % 256] : List Int)) := ⟨_, rfl⟩
    replace H := mk_ H hy217
    (try dsimp only at H)
    have Ny217 := Aside0.mk hy217
    clear hy217
    replace H := ip_ H
    obtain ⟨c97, H, -⟩ := H
    have LMc97 := Aside0.mk c97
    clear c97
    obtain ⟨y220, hy220⟩ : ∃ y_ : List Int, y_ = (t214 ++ y217) := ⟨_, rfl⟩
    replace H : ((spec_PutText.f kj66 y220 a0_10).bind fun t223 => ((spec_PutWord.f t223 a0_11).bind fun t226 => ((spec_PutWord.f t226 (wrap64 (Int.tdiv a0_13 256))).bind fun t229 => ((some (([(Int.tmod a0_13 256) % 256] : List Int) : List Int)).bind fun y232 => (if t229.length + y232.length < 140737488355328 then ((spec_PutWord.f (t229 ++ y232) a0_14).bind fun t238 => ((spec_PutWord.f t238 a0_15).bind fun t241 => (some t241))) else (none)))))) = some r := by first | (rw [hy220]; with_reducible exact H) | (have H2_ := (Option.bind_some _ _).symm.trans H; rw [hy220]; with_reducible exact H2_) | (have H2_ := (Option.bind_some _ _).symm.trans H; with_reducible exact H2_) | with_reducible exact H | (rw [hy220]; exact H) | exact H
    have Ny220 := Aside0.mk hy220
    clear hy220
    replace H := bd_ H
    obtain ⟨t223, A98, H⟩ := H
    replace H := bd_ H
    obtain ⟨t226, A99, H⟩ := H
    replace H := bd_ H
    obtain ⟨t229, A100, H⟩ := H
    obtain ⟨y232, hy232⟩ : ∃ y_ : List Int, y_ = (([(Int.tmod a0_13 256) % 256] : List Int)) := ⟨_, rfl⟩
    replace H := mk_ H hy232
    (try dsimp only at H)
    have Ny232 := Aside0.mk hy232
    clear hy232
    replace H := ip_ H
    obtain ⟨c101, H, -⟩ := H
    have LMc101 := Aside0.mk c101
    clear c101
    obtain ⟨y235, hy235⟩ : ∃ y_ : List Int, y_ = (t229 ++ y232) := ⟨_, rfl⟩
    replace H : ((spec_PutWord.f y235 a0_14).bind fun t238 => ((spec_PutWord.f t238 a0_15).bind fun t241 => (some t241))) = some r := by first | (rw [hy235]; with_reducible exact H) | (have H2_ := (Option.bind_some _ _).symm.trans H; rw [hy235]; with_reducible exact H2_) | (have H2_ := (Option.bind_some _ _).symm.trans H; with_reducible exact H2_) | with_reducible exact H | (rw [hy235]; exact H) | exact H
    have Ny235 := Aside0.mk hy235
    clear hy235
    replace H := bd_ H
    obtain ⟨t238, A102, H⟩ := H
    replace H := bd_ H
    obtain ⟨t241, A103, H⟩ := H
    obtain rfl := Option.some.inj H
    try go_wp2
    replace BK164 := am_ (blk_drew BK164.out)
    replace BK206 := am_ (blk_drew BK206.out)
    replace HB := am_ (below_drew1 HB.out)
    refine start_ (n := 16) (S := fun w' => w'.cell? ⟨gb206, 0, none⟩ = some (.int .i64 a0_9) ∧ w'.cell? ⟨gb206, 1, none⟩ = some (.string a0_10) ∧ w'.cell? ⟨gb206, 2, none⟩ = some (.int .i64 a0_11) ∧ w'.cell? ⟨gb206, 3, none⟩ = some (.int .i64 a0_12) ∧ w'.cell? ⟨gb206, 4, none⟩ = some (.int .i64 a0_13) ∧ w'.cell? ⟨gb206, 5, none⟩ = some (.int .i64 a0_14) ∧ w'.cell? ⟨gb206, 6, none⟩ = some (.int .i64 a0_15)) (ds := []) (rl [0,16]) (by kernel_rfl) rfl rfl (cz7 BK206.out) (fun hHeld => ?_); refine with_tabW spec_PutItem.tab11 spec_PutItem.bits11 (fun HT_ HW_ => ?_)
    generalize wc.drew = w104 at BK164 BK206 HB hHeld ⊢
    refine pq_ 1 86 HT_ (rl [0,1,1,14]) ?_
    refine pq_ 4 89 HT_ (rl [0,1,1,2,1,11]) ?_
    refine pq_ 9 94 HT_ (rl [0,1,1,2,1,4,1,6]) ?_
    refine pq_ 12 97 HT_ (rl [0,1,1,2,1,4,1,2,1,3]) ?_
    refine tz_ (i := 2) (N := some 87) HT_ HW_ (rl [0,1,2,1,1,4,1,2,1,3]) rfl rfl hHeld ?_
    refine tz_ (i := 5) (N := some 90) HT_ HW_ (rl [0,1,2,1,2,3,1,2,1,3]) rfl rfl hHeld ?_
    refine pq_ 6 91 HT_ (rl [0,1,2,1,3,2,1,2,1,3]) ?_
    refine tz_ (i := 10) (N := some 95) HT_ HW_ (rl [0,1,2,1,3,2,2,1,1,3]) rfl rfl hHeld ?_
    refine tz_ (i := 13) (N := some 98) HT_ HW_ (rl [0,1,2,1,3,2,2,1,2,2]) rfl rfl hHeld ?_
    refine join_ (σ := Value × Value × Value) 4 (rl [8,1,2,1,2,2]) (fun s_ => [(85, s_.1), (88, s_.2.1), (92, s_.2.2)]) (fun s_ w' => (w'.cell? ⟨gb206, 0, none⟩ = some (.int .i64 a0_9) ∧ w'.cell? ⟨gb206, 1, none⟩ = some (.string a0_10) ∧ w'.cell? ⟨gb206, 2, none⟩ = some (.int .i64 a0_11) ∧ w'.cell? ⟨gb206, 3, none⟩ = some (.int .i64 a0_12) ∧ w'.cell? ⟨gb206, 4, none⟩ = some (.int .i64 a0_13) ∧ w'.cell? ⟨gb206, 5, none⟩ = some (.int .i64 a0_14) ∧ w'.cell? ⟨gb206, 6, none⟩ = some (.int .i64 a0_15)) ∧ (Kd.R (Kd.int .u8) 5 w' w.heap.size (fun k_ => some k_ ≠ (s_.2.1 : Value).ownBlock ∧ some k_ ≠ (s_.2.2 : Value).ownBlock) s_.1 y211) ∧ (Kd.R (Kd.int .u8) 5 w' w.heap.size (fun k_ => some k_ ≠ (s_.1 : Value).ownBlock ∧ some k_ ≠ (s_.2.2 : Value).ownBlock) s_.2.1 t214) ∧ (Kd.R (Kd.int .u8) 5 w' w.heap.size (fun k_ => some k_ ≠ (s_.1 : Value).ownBlock ∧ some k_ ≠ (s_.2.1 : Value).ownBlock) s_.2.2 y217) ∧ (w'.heap[gb164]? = some (.cells #[.int .i64 a0_0, .int .i64 a0_1, .string a0_2, .int .i64 a0_3, .int .i64 a0_4, .int .i64 a0_5, .string a0_6, .int .i64 a0_7, .int .i64 a0_8, .int .i64 a0_9, .string a0_10, .int .i64 a0_11, .int .i64 a0_12, .int .i64 a0_13, .int .i64 a0_14, .int .i64 a0_15] 126 (0, 0))) ∧ (w'.heap[gb206]? = some (.cells #[.int .i64 a0_9, .string a0_10, .int .i64 a0_11, .int .i64 a0_12, .int .i64 a0_13, .int .i64 a0_14, .int .i64 a0_15] 124 (0, 0))) ∧ (Below w.heap.size w w')) ?_ ?_
    rotate_left
    ·
     intro hCont
     refine two_ (i := 0) (j := 7) (Ni := some 85) (Nj := some 92) (rl [3,1,3,2,2,1,2,2]) (rl [0,1,2,1,4,1,2,1,2,2]) rfl rfl rfl rfl (two_of HT_.out (by kernel_rfl)) (by decide) (by decide) (fun K hK => ?_) (fun K hK => ?_)
     ·
      skip
      refine Kd.R_lit_step (Kd.int .u8) _ 5 ?hg (N := 85) ?hd (xs := ([2] : List Int)) (inner := [.int .u8 2]) (ok := fun _ => True) (okp := fun _ => True) ?hr ?hp (fun _ hk => hk) trivial (Below.refl _ _) (Nat.le_refl _) (by simp) ?_; (case hd => rfl); (case hg => rfl); (case hr => first | (go_simp; done) | (go_simp; rfl)); (case hp => exact (Reps.one (show Kd.M (Kd.int .u8) _ _ _ 2 [.int .u8 2] from rfl) (Reps.none _ _)))
      intro v212 w105 ho106 hb hg_ hnew_
      clear hg_ hnew_
      (first | rw [← Ny211.out] at ho106 | (simp only [Int.reduceToNat] at ho106; rw [← Ny211.out] at ho106))
      have HO213 := am_ (Kd.R_lower ho106 (below_size (qB HB)))
      replace BK164 := bK_ BK164 hb
      replace BK206 := bK_ BK206 hb
      replace HB := bS_ HB hb
      clear hb ho106
      obtain ⟨Ao107, co107, eo107⟩ := Kd.R_slice HO213.out
      (first | subst eo107 | (injection eo107 with f1_ f2_ f3_; have f4_ := f1_.symm; have f5_ := f3_.symm; clear f1_ f2_ f3_; subst f4_; subst f5_))
      refine hK.out _ _ (cz7 BK206.out) (fun hHeld => ?_)
      clear hK K
      refine nm_ (some 85) ?_
      refine two_ (i := 3) (j := 7) (Ni := some 88) (Nj := some 92) (rl [7,2,2,1,2,2]) (rl [3,1,4,1,2,1,2,2]) rfl rfl rfl rfl (two_of HT_.out (by kernel_rfl)) (by decide) (by decide) (fun K hK => ?_) (fun K hK => ?_)
      ·
       skip
       refine goes_ Try.func106 (by kernel_rfl) rfl #[.slice Ao107 y211.length co107, .int .i64 a0_9] (by rfl) rfl rfl la_ ?_
       with_reducible refine (spec_PutWord.calls _ _ y211 a0_9 t214 _ ?side1 ?side2 A96.out).mono ?_
       (case side1 => exact qC ((Kd.R_reads' HO213.out).2.2))
       (case side2 => exact (Kd.R_reads' HO213.out).2.1)
       rintro e w108 ⟨v215, rfl, ho0, hb⟩
       refine ⟨_, rfl, ?_⟩
       have HO216 := am_ (Kd.R_lower (Kd.R_new' ho0 (Kd.R_lt (qR HO213))) (below_size (qB HB)))
       replace HO213 := eA_ HO213 ho0 hb
       replace BK164 := bK_ BK164 hb
       replace BK206 := bK_ BK206 hb
       replace HB := bS_ HB hb
       (try clear hb ho0)
       refine hK.out _ _ (cz7 BK206.out) (fun hHeld => ?_)
       clear hK K
       refine nm_ (some 88) ?_
       refine on_ HT_ (i := 7) (N := some 92) (rl [8,1,2,1,2,2]) (fun K hK => ?_)
       refine Kd.R_lit_step (Kd.int .u8) _ 5 ?hg (N := 92) ?hd (xs := ([(a0_12) % 256] : List Int)) (inner := [.int .u8 ((a0_12) % 256)]) (ok := fun _ => True) (okp := fun _ => True) ?hr ?hp (fun _ hk => hk) trivial (Below.refl _ _) (Nat.le_refl _) (by simp) ?_; (case hd => rfl); (case hg => rfl); (case hr => first | (go_simp; done) | (go_simp; rfl)); (case hp => exact (Reps.one (show Kd.M (Kd.int .u8) _ _ _ ((a0_12) % 256) [.int .u8 ((a0_12) % 256)] from rfl) (Reps.none _ _)))
       intro v218 w109 ho110 hb hg_ hnew_
       clear hg_ hnew_
       (first | rw [← Ny217.out] at ho110 | (simp only [Int.reduceToNat] at ho110; rw [← Ny217.out] at ho110))
       have HO219 := am_ (Kd.R_lower (Kd.R_new' (Kd.R_new' ho110 (Kd.R_lt (qR HO213))) (Kd.R_lt (qR HO216))) (below_size (qB HB)))
       replace HO213 := eA_ HO213 ho110 hb
       replace HO216 := eA_ HO216 ho110 hb
       replace BK164 := bK_ BK164 hb
       replace BK206 := bK_ BK206 hb
       replace HB := bS_ HB hb
       clear hb ho110
       refine hK.out _ _ (cz7 BK206.out) (fun hHeld => ?_)
       clear hK K
       refine nm_ (some 92) ?_
       exact norm_ (by simp only [putAll, Act.put, List.setIfInBounds_toArray, List.set_cons_zero, List.set_cons_succ]) (hCont (.slice Ao107 y211.length co107, v215, v218) _ ⟨hHeld, (xR1_ HO213), (xR1_ HO216), (xR1_ HO219), (qK BK164), (qK BK206), (qB HB)⟩)
      ·
       skip
       refine Kd.R_lit_step (Kd.int .u8) _ 5 ?hg (N := 92) ?hd (xs := ([(a0_12) % 256] : List Int)) (inner := [.int .u8 ((a0_12) % 256)]) (ok := fun _ => True) (okp := fun _ => True) ?hr ?hp (fun _ hk => hk) trivial (Below.refl _ _) (Nat.le_refl _) (by simp) ?_; (case hd => rfl); (case hg => rfl); (case hr => first | (go_simp; done) | (go_simp; rfl)); (case hp => exact (Reps.one (show Kd.M (Kd.int .u8) _ _ _ ((a0_12) % 256) [.int .u8 ((a0_12) % 256)] from rfl) (Reps.none _ _)))
       intro v218 w107 ho108 hb hg_ hnew_
       clear hg_ hnew_
       (first | rw [← Ny217.out] at ho108 | (simp only [Int.reduceToNat] at ho108; rw [← Ny217.out] at ho108))
       have HO219 := am_ (Kd.R_lower (Kd.R_new' ho108 (Kd.R_lt (qR HO213))) (below_size (qB HB)))
       replace HO213 := eA_ HO213 ho108 hb
       replace BK164 := bK_ BK164 hb
       replace BK206 := bK_ BK206 hb
       replace HB := bS_ HB hb
       clear hb ho108
       obtain ⟨Ao109, co109, eo109⟩ := Kd.R_slice HO213.out
       (first | subst eo109 | (injection eo109 with f1_ f2_ f3_; have f4_ := f1_.symm; have f5_ := f3_.symm; clear f1_ f2_ f3_; subst f4_; subst f5_))
       refine hK.out _ _ (cz7 BK206.out) (fun hHeld => ?_)
       clear hK K
       refine nm_ (some 92) ?_
       refine on_ HT_ (i := 3) (N := some 88) (rl [8,1,2,1,2,2]) (fun K hK => ?_)
       refine goes_ Try.func106 (by kernel_rfl) rfl #[.slice Ao109 y211.length co109, .int .i64 a0_9] (by rfl) rfl rfl la_ ?_
       with_reducible refine (spec_PutWord.calls _ _ y211 a0_9 t214 _ ?side1 ?side2 A96.out).mono ?_
       (case side1 => exact qC ((Kd.R_reads' HO213.out).2.2))
       (case side2 => exact (Kd.R_reads' HO213.out).2.1)
       rintro e w110 ⟨v215, rfl, ho0, hb⟩
       refine ⟨_, rfl, ?_⟩
       have HO216 := am_ (Kd.R_lower (Kd.R_new' (Kd.R_new' ho0 (Kd.R_lt (qR HO213))) (Kd.R_lt (qR HO219))) (below_size (qB HB)))
       replace HO213 := eA_ HO213 ho0 hb
       replace HO219 := eA_ HO219 ho0 hb
       replace BK164 := bK_ BK164 hb
       replace BK206 := bK_ BK206 hb
       replace HB := bS_ HB hb
       (try clear hb ho0)
       refine hK.out _ _ (cz7 BK206.out) (fun hHeld => ?_)
       clear hK K
       refine nm_ (some 88) ?_
       exact norm_ (by simp only [putAll, Act.put, List.setIfInBounds_toArray, List.set_cons_zero, List.set_cons_succ]) (hCont (.slice Ao109 y211.length co109, v215, v218) _ ⟨hHeld, (xR1_ HO213), (xR1_ HO216), (xR1_ HO219), (qK BK164), (qK BK206), (qB HB)⟩)
     ·
      skip
      refine Kd.R_lit_step (Kd.int .u8) _ 5 ?hg (N := 92) ?hd (xs := ([(a0_12) % 256] : List Int)) (inner := [.int .u8 ((a0_12) % 256)]) (ok := fun _ => True) (okp := fun _ => True) ?hr ?hp (fun _ hk => hk) trivial (Below.refl _ _) (Nat.le_refl _) (by simp) ?_; (case hd => rfl); (case hg => rfl); (case hr => first | (go_simp; done) | (go_simp; rfl)); (case hp => exact (Reps.one (show Kd.M (Kd.int .u8) _ _ _ ((a0_12) % 256) [.int .u8 ((a0_12) % 256)] from rfl) (Reps.none _ _)))
      intro v218 w105 ho106 hb hg_ hnew_
      clear hg_ hnew_
      (first | rw [← Ny217.out] at ho106 | (simp only [Int.reduceToNat] at ho106; rw [← Ny217.out] at ho106))
      have HO219 := am_ (Kd.R_lower ho106 (below_size (qB HB)))
      replace BK164 := bK_ BK164 hb
      replace BK206 := bK_ BK206 hb
      replace HB := bS_ HB hb
      clear hb ho106
      refine hK.out _ _ (cz7 BK206.out) (fun hHeld => ?_)
      clear hK K
      refine nm_ (some 92) ?_
      refine on_ HT_ (i := 0) (N := some 85) (rl [3,1,4,1,2,1,2,2]) (fun K hK => ?_)
      refine Kd.R_lit_step (Kd.int .u8) _ 5 ?hg (N := 85) ?hd (xs := ([2] : List Int)) (inner := [.int .u8 2]) (ok := fun _ => True) (okp := fun _ => True) ?hr ?hp (fun _ hk => hk) trivial (Below.refl _ _) (Nat.le_refl _) (by simp) ?_; (case hd => rfl); (case hg => rfl); (case hr => first | (go_simp; done) | (go_simp; rfl)); (case hp => exact (Reps.one (show Kd.M (Kd.int .u8) _ _ _ 2 [.int .u8 2] from rfl) (Reps.none _ _)))
      intro v212 w107 ho108 hb hg_ hnew_
      clear hg_ hnew_
      (first | rw [← Ny211.out] at ho108 | (simp only [Int.reduceToNat] at ho108; rw [← Ny211.out] at ho108))
      have HO213 := am_ (Kd.R_lower (Kd.R_new' ho108 (Kd.R_lt (qR HO219))) (below_size (qB HB)))
      replace HO219 := eA_ HO219 ho108 hb
      replace BK164 := bK_ BK164 hb
      replace BK206 := bK_ BK206 hb
      replace HB := bS_ HB hb
      clear hb ho108
      obtain ⟨Ao109, co109, eo109⟩ := Kd.R_slice HO213.out
      (first | subst eo109 | (injection eo109 with f1_ f2_ f3_; have f4_ := f1_.symm; have f5_ := f3_.symm; clear f1_ f2_ f3_; subst f4_; subst f5_))
      refine hK.out _ _ (cz7 BK206.out) (fun hHeld => ?_)
      clear hK K
      refine nm_ (some 85) ?_
      refine on_ HT_ (i := 3) (N := some 88) (rl [8,1,2,1,2,2]) (fun K hK => ?_)
      refine goes_ Try.func106 (by kernel_rfl) rfl #[.slice Ao109 y211.length co109, .int .i64 a0_9] (by rfl) rfl rfl la_ ?_
      with_reducible refine (spec_PutWord.calls _ _ y211 a0_9 t214 _ ?side1 ?side2 A96.out).mono ?_
      (case side1 => exact qC ((Kd.R_reads' HO213.out).2.2))
      (case side2 => exact (Kd.R_reads' HO213.out).2.1)
      rintro e w110 ⟨v215, rfl, ho0, hb⟩
      refine ⟨_, rfl, ?_⟩
      have HO216 := am_ (Kd.R_lower (Kd.R_new' (Kd.R_new' ho0 (Kd.R_lt (qR HO219))) (Kd.R_lt (qR HO213))) (below_size (qB HB)))
      replace HO219 := eA_ HO219 ho0 hb
      replace HO213 := eA_ HO213 ho0 hb
      replace BK164 := bK_ BK164 hb
      replace BK206 := bK_ BK206 hb
      replace HB := bS_ HB hb
      (try clear hb ho0)
      refine hK.out _ _ (cz7 BK206.out) (fun hHeld => ?_)
      clear hK K
      refine nm_ (some 88) ?_
      exact norm_ (by simp only [putAll, Act.put, List.setIfInBounds_toArray, List.set_cons_zero, List.set_cons_succ]) (hCont (.slice Ao109 y211.length co109, v215, v218) _ ⟨hHeld, (xR1_ HO213), (xR1_ HO216), (xR1_ HO219), (qK BK164), (qK BK206), (qB HB)⟩)
    rintro ⟨v212, v215, v218⟩ w111 ⟨hS_, h0_, h1_, h2_, h3_, h4_, h5_⟩
    have n0_ : Aside0 (Kd.R (Kd.int .u8) 5 w111 w.heap.size (fun k_ => nv v215 k_ ∧ nv v218 k_) v212 y211) := ⟨h0_⟩
    have n1_ : Aside0 (Kd.R (Kd.int .u8) 5 w111 w.heap.size (fun k_ => nv v212 k_ ∧ nv v218 k_) v215 t214) := ⟨h1_⟩
    have n2_ : Aside0 (Kd.R (Kd.int .u8) 5 w111 w.heap.size (fun k_ => nv v212 k_ ∧ nv v215 k_) v218 y217) := ⟨h2_⟩
    have n3_ : Aside0 (w111.heap[gb164]? = some (.cells #[.int .i64 a0_0, .int .i64 a0_1, .string a0_2, .int .i64 a0_3, .int .i64 a0_4, .int .i64 a0_5, .string a0_6, .int .i64 a0_7, .int .i64 a0_8, .int .i64 a0_9, .string a0_10, .int .i64 a0_11, .int .i64 a0_12, .int .i64 a0_13, .int .i64 a0_14, .int .i64 a0_15] 126 (0, 0))) := ⟨h3_⟩
    have n4_ : Aside0 (w111.heap[gb206]? = some (.cells #[.int .i64 a0_9, .string a0_10, .int .i64 a0_11, .int .i64 a0_12, .int .i64 a0_13, .int .i64 a0_14, .int .i64 a0_15] 124 (0, 0))) := ⟨h4_⟩
    have n5_ : Aside0 (Below w.heap.size w w111) := ⟨h5_⟩
    clear BK164
    clear BK206
    clear HB
    clear h0_ h1_ h2_ h3_ h4_ h5_
    have HO213 := n0_
    have HO216 := n1_
    have HO219 := n2_
    have BK164 := n3_
    have BK206 := n4_
    have HB := n5_
    clear n0_ n1_ n2_ n3_ n4_ n5_
    have hHeld : w111.cell? ⟨gb206, 0, none⟩ = some (.int .i64 a0_9) ∧ w111.cell? ⟨gb206, 1, none⟩ = some (.string a0_10) ∧ w111.cell? ⟨gb206, 2, none⟩ = some (.int .i64 a0_11) ∧ w111.cell? ⟨gb206, 3, none⟩ = some (.int .i64 a0_12) ∧ w111.cell? ⟨gb206, 4, none⟩ = some (.int .i64 a0_13) ∧ w111.cell? ⟨gb206, 5, none⟩ = some (.int .i64 a0_14) ∧ w111.cell? ⟨gb206, 6, none⟩ = some (.int .i64 a0_15) := hS_
    obtain ⟨Ao113, co113, eo113⟩ := Kd.R_slice HO219.out
    (first | subst eo113 | (injection eo113 with f1_ f2_ f3_; have f4_ := f1_.symm; have f5_ := f3_.symm; clear f1_ f2_ f3_; subst f4_; subst f5_))
    refine norm_ (a' := ?_) ?_ ?_
    rotate_left
    ·
     simp only [putAll, Act.put, List.setIfInBounds_toArray, List.set_cons_zero, List.set_cons_succ]
     rfl
    refine on_ HT_ (i := 8) (N := some 93) (rl [11,1,2,2]) (fun K hK => ?_)
    refine Kd.R_append_rows_step (Kd.int .u8) (w0 := w) w.heap.size (by rfl) (.tmp 88) (.tmp 92) 70 5 (.int .u8 0) 1 rfl Try.underlying70 info5 rfl (by decide) (by omega) v215 t214 y217 _ _ _ (fun k_ => nv v212 k_ ∧ nb Ao113 y217.length co113 k_) (fun _ => False) rfl rfl ?aO ?aR (fun _ _ h => h) (fun _ h => h.elim) ?aF ?aB ?aS ?aL ?_
    (case aR => exact qC ((Kd.R_reads' HO219.out).2.2))
    (case aB => exact (qB HB))
    (case aF => exact (fun k_ hk => ⟨Kd.fresh' (Kd.R_lt (qR HO213)) k_ hk, Kd.fresh' (Kd.R_lt (qR HO219)) k_ hk⟩))
    (case aO => exact (qR HO216))
    (case aS => exact (below_size (qB HB)))
    (case aL => have := LMc97.out; omega)
    intro v221 w112 ho hb hg hat
    rw [← Ny220.out] at ho
    replace BK164 := kG_ BK164 HO216 hg
    replace BK206 := kG_ BK206 HO216 hg
    replace HO213 := am_ (Kd.R_after (ok := (fun k_ => nb Ao113 y217.length co113 k_)) (xR1_ HO213) hg hat)
    replace HO219 := aR_ HO219 hg hat
    replace HB := am_ (hb)
    have HO222 := am_ (ho)
    clear HO216
    clear ho hb hg hat
    obtain ⟨Ao114, co114, eo114⟩ := Kd.R_slice HO222.out
    (first | subst eo114 | (injection eo114 with f1_ f2_ f3_; have f4_ := f1_.symm; have f5_ := f3_.symm; clear f1_ f2_ f3_; subst f4_; subst f5_))
    refine hK.out _ _ (cz7 BK206.out) (fun hHeld => ?_)
    clear hK K
    refine nm_ (some 93) ?_
    refine on_ HT_ (i := 11) (N := some 96) (rl [14,2]) (fun K hK => ?_)
    refine goes_ Try.func123 (by kernel_rfl) rfl #[.slice Ao114 y220.length co114, .string a0_10] (by rfl) rfl rfl la_ ?_
    with_reducible refine (spec_PutText.calls kj66 _ _ y220 a0_10 t223 _ ?side1 ?side2 A98.out).mono ?_
    (case side1 => exact qC ((Kd.R_reads' HO222.out).2.2))
    (case side2 => exact (Kd.R_reads' HO222.out).2.1)
    rintro e w115 ⟨v224, rfl, ho0, hb⟩
    refine ⟨_, rfl, ?_⟩
    have HO225 := am_ (Kd.R_lower (Kd.R_new' (Kd.R_new' (Kd.R_new' ho0 (Kd.R_lt (qR HO213))) (Kd.R_lt (qR HO219))) (Kd.R_lt (qR HO222))) (below_size (qB HB)))
    replace HO213 := eA_ HO213 ho0 hb
    replace HO219 := eA_ HO219 ho0 hb
    replace HO222 := eA_ HO222 ho0 hb
    replace BK164 := bK_ BK164 hb
    replace BK206 := bK_ BK206 hb
    replace HB := bS_ HB hb
    (try clear hb ho0)
    obtain ⟨Ao116, co116, eo116⟩ := Kd.R_slice HO225.out
    (first | subst eo116 | (injection eo116 with f1_ f2_ f3_; have f4_ := f1_.symm; have f5_ := f3_.symm; clear f1_ f2_ f3_; subst f4_; subst f5_))
    refine hK.out _ _ (cz7 BK206.out) (fun hHeld => ?_)
    clear hK K
    refine nm_ (some 96) ?_
    refine on_ HT_ (i := 14) (N := some 99) (rl [15,1]) (fun K hK => ?_)
    refine goes_ Try.func106 (by kernel_rfl) rfl #[.slice Ao116 t223.length co116, .int .i64 a0_11] (by rfl) rfl rfl la_ ?_
    with_reducible refine (spec_PutWord.calls _ _ t223 a0_11 t226 _ ?side1 ?side2 A99.out).mono ?_
    (case side1 => exact qC ((Kd.R_reads' HO225.out).2.2))
    (case side2 => exact (Kd.R_reads' HO225.out).2.1)
    rintro e w117 ⟨v227, rfl, ho0, hb⟩
    refine ⟨_, rfl, ?_⟩
    have HO228 := am_ (Kd.R_lower (Kd.R_new' (Kd.R_new' (Kd.R_new' (Kd.R_new' ho0 (Kd.R_lt (qR HO213))) (Kd.R_lt (qR HO219))) (Kd.R_lt (qR HO222))) (Kd.R_lt (qR HO225))) (below_size (qB HB)))
    replace HO213 := eA_ HO213 ho0 hb
    replace HO219 := eA_ HO219 ho0 hb
    replace HO222 := eA_ HO222 ho0 hb
    replace HO225 := eA_ HO225 ho0 hb
    replace BK164 := bK_ BK164 hb
    replace BK206 := bK_ BK206 hb
    replace HB := bS_ HB hb
    (try clear hb ho0)
    refine hK.out _ _ (cz7 BK206.out) (fun hHeld => ?_)
    clear hK K
    refine nm_ (some 99) ?_
    refine pq_ 15 6 HT_ (rl [16]) ?_
    refine done_ (done_of HT_.out (by kernel_rfl)) ?_
    obtain ⟨Ao118, co118, eo118⟩ := Kd.R_slice HO228.out
    subst eo118
    try go_wp2
    replace HO213 := am_ (Kd.R_drew HO213.out)
    replace HO219 := am_ (Kd.R_drew HO219.out)
    replace HO222 := am_ (Kd.R_drew HO222.out)
    replace HO225 := am_ (Kd.R_drew HO225.out)
    replace HO228 := am_ (Kd.R_drew HO228.out)
    replace BK164 := am_ (blk_drew BK164.out)
    replace BK206 := am_ (blk_drew BK206.out)
    replace HB := am_ (below_drew1 HB.out)
    refine start_ (n := 18) (S := fun w' => w'.cell? ⟨gb206, 0, none⟩ = some (.int .i64 a0_9) ∧ w'.cell? ⟨gb206, 1, none⟩ = some (.string a0_10) ∧ w'.cell? ⟨gb206, 2, none⟩ = some (.int .i64 a0_11) ∧ w'.cell? ⟨gb206, 3, none⟩ = some (.int .i64 a0_12) ∧ w'.cell? ⟨gb206, 4, none⟩ = some (.int .i64 a0_13) ∧ w'.cell? ⟨gb206, 5, none⟩ = some (.int .i64 a0_14) ∧ w'.cell? ⟨gb206, 6, none⟩ = some (.int .i64 a0_15)) (ds := []) (rl [0,18]) (by kernel_rfl) rfl rfl (cz7 BK206.out) (fun hHeld => ?_); refine with_tabW spec_PutItem.tab12 spec_PutItem.bits12 (fun HT_ HW_ => ?_)
    generalize w117.drew = w119 at HO213 HO219 HO222 HO225 HO228 BK164 BK206 HB hHeld ⊢
    refine pq_ 0 100 HT_ (rl [1,17]) ?_
    refine pq_ 1 101 HT_ (rl [2,16]) ?_
    refine pq_ 5 105 HT_ (rl [2,3,1,12]) ?_
    refine pq_ 11 111 HT_ (rl [2,3,1,5,1,6]) ?_
    refine pq_ 14 114 HT_ (rl [2,3,1,5,1,2,1,3]) ?_
    refine tz_ (i := 2) (N := some 102) HT_ HW_ (rl [3,2,1,5,1,2,1,3]) rfl rfl hHeld ?_
    refine pq_ 3 103 HT_ (rl [4,1,1,5,1,2,1,3]) ?_
    refine tz_ (i := 6) (N := some 106) HT_ HW_ (rl [4,1,2,4,1,2,1,3]) rfl rfl hHeld ?_
    refine pq_ 7 107 HT_ (rl [4,1,3,3,1,2,1,3]) ?_
    refine pq_ 8 108 HT_ (rl [4,1,4,2,1,2,1,3]) ?_
    refine tz_ (i := 12) (N := some 112) HT_ HW_ (rl [4,1,4,2,2,1,1,3]) rfl rfl hHeld ?_
    refine tz_ (i := 15) (N := some 115) HT_ HW_ (rl [4,1,4,2,2,1,2,2]) rfl rfl hHeld ?_
    refine join_ (σ := Value × Value) 4 (rl [10,1,2,1,2,2]) (fun s_ => [(104, s_.1), (109, s_.2)]) (fun s_ w' => (w'.cell? ⟨gb206, 0, none⟩ = some (.int .i64 a0_9) ∧ w'.cell? ⟨gb206, 1, none⟩ = some (.string a0_10) ∧ w'.cell? ⟨gb206, 2, none⟩ = some (.int .i64 a0_11) ∧ w'.cell? ⟨gb206, 3, none⟩ = some (.int .i64 a0_12) ∧ w'.cell? ⟨gb206, 4, none⟩ = some (.int .i64 a0_13) ∧ w'.cell? ⟨gb206, 5, none⟩ = some (.int .i64 a0_14) ∧ w'.cell? ⟨gb206, 6, none⟩ = some (.int .i64 a0_15)) ∧ (Kd.R (Kd.int .u8) 5 w' w.heap.size (fun k_ => nb Ao113 y217.length co113 k_ ∧ nb Ao114 y220.length co114 k_ ∧ nb Ao116 t223.length co116 k_ ∧ nb Ao118 t226.length co118 k_ ∧ some k_ ≠ (s_.1 : Value).ownBlock ∧ some k_ ≠ (s_.2 : Value).ownBlock) v212 y211) ∧ (Kd.R (Kd.int .u8) 5 w' w.heap.size (fun k_ => nv v212 k_ ∧ nb Ao114 y220.length co114 k_ ∧ nb Ao116 t223.length co116 k_ ∧ nb Ao118 t226.length co118 k_ ∧ some k_ ≠ (s_.1 : Value).ownBlock ∧ some k_ ≠ (s_.2 : Value).ownBlock) (.slice Ao113 y217.length co113) y217) ∧ (Kd.R (Kd.int .u8) 5 w' w.heap.size (fun k_ => nv v212 k_ ∧ nb Ao113 y217.length co113 k_ ∧ nb Ao116 t223.length co116 k_ ∧ nb Ao118 t226.length co118 k_ ∧ some k_ ≠ (s_.1 : Value).ownBlock ∧ some k_ ≠ (s_.2 : Value).ownBlock) (.slice Ao114 y220.length co114) y220) ∧ (Kd.R (Kd.int .u8) 5 w' w.heap.size (fun k_ => nv v212 k_ ∧ nb Ao113 y217.length co113 k_ ∧ nb Ao114 y220.length co114 k_ ∧ nb Ao118 t226.length co118 k_ ∧ some k_ ≠ (s_.1 : Value).ownBlock ∧ some k_ ≠ (s_.2 : Value).ownBlock) (.slice Ao116 t223.length co116) t223) ∧ (Kd.R (Kd.int .u8) 5 w' w.heap.size (fun k_ => nv v212 k_ ∧ nb Ao113 y217.length co113 k_ ∧ nb Ao114 y220.length co114 k_ ∧ nb Ao116 t223.length co116 k_ ∧ some k_ ≠ (s_.1 : Value).ownBlock ∧ some k_ ≠ (s_.2 : Value).ownBlock) (.slice Ao118 t226.length co118) t226) ∧ (Kd.R (Kd.int .u8) 5 w' w.heap.size (fun k_ => nv v212 k_ ∧ nb Ao113 y217.length co113 k_ ∧ nb Ao114 y220.length co114 k_ ∧ nb Ao116 t223.length co116 k_ ∧ nb Ao118 t226.length co118 k_ ∧ some k_ ≠ (s_.2 : Value).ownBlock) s_.1 t229) ∧ (Kd.R (Kd.int .u8) 5 w' w.heap.size (fun k_ => nv v212 k_ ∧ nb Ao113 y217.length co113 k_ ∧ nb Ao114 y220.length co114 k_ ∧ nb Ao116 t223.length co116 k_ ∧ nb Ao118 t226.length co118 k_ ∧ some k_ ≠ (s_.1 : Value).ownBlock) s_.2 y232) ∧ (w'.heap[gb164]? = some (.cells #[.int .i64 a0_0, .int .i64 a0_1, .string a0_2, .int .i64 a0_3, .int .i64 a0_4, .int .i64 a0_5, .string a0_6, .int .i64 a0_7, .int .i64 a0_8, .int .i64 a0_9, .string a0_10, .int .i64 a0_11, .int .i64 a0_12, .int .i64 a0_13, .int .i64 a0_14, .int .i64 a0_15] 126 (0, 0))) ∧ (w'.heap[gb206]? = some (.cells #[.int .i64 a0_9, .string a0_10, .int .i64 a0_11, .int .i64 a0_12, .int .i64 a0_13, .int .i64 a0_14, .int .i64 a0_15] 124 (0, 0))) ∧ (Below w.heap.size w w')) ?_ ?_
    rotate_left
    ·
     intro hCont
     refine two_ (i := 4) (j := 9) (Ni := some 104) (Nj := some 109) (rl [9,2,2,1,2,2]) (rl [4,1,5,1,2,1,2,2]) rfl rfl rfl rfl (two_of HT_.out (by kernel_rfl)) (by decide) (by decide) (fun K hK => ?_) (fun K hK => ?_)
     ·
      skip
      refine goes_ Try.func106 (by kernel_rfl) rfl #[.slice Ao118 t226.length co118, .int .i64 (wrap64 (Int.tdiv a0_13 256))] (by rfl) rfl rfl la_ ?_
      with_reducible refine (spec_PutWord.calls _ _ t226 (wrap64 (Int.tdiv a0_13 256)) t229 _ ?side1 ?side2 A100.out).mono ?_
      (case side1 => exact qC ((Kd.R_reads' HO228.out).2.2))
      (case side2 => exact (Kd.R_reads' HO228.out).2.1)
      rintro e w120 ⟨v230, rfl, ho0, hb⟩
      refine ⟨_, rfl, ?_⟩
      have HO231 := am_ (Kd.R_lower (Kd.R_new' (Kd.R_new' (Kd.R_new' (Kd.R_new' (Kd.R_new' ho0 (Kd.R_lt (qR HO213))) (Kd.R_lt (qR HO219))) (Kd.R_lt (qR HO222))) (Kd.R_lt (qR HO225))) (Kd.R_lt (qR HO228))) (below_size (qB HB)))
      replace HO213 := eA_ HO213 ho0 hb
      replace HO219 := eA_ HO219 ho0 hb
      replace HO222 := eA_ HO222 ho0 hb
      replace HO225 := eA_ HO225 ho0 hb
      replace HO228 := eA_ HO228 ho0 hb
      replace BK164 := bK_ BK164 hb
      replace BK206 := bK_ BK206 hb
      replace HB := bS_ HB hb
      (try clear hb ho0)
      refine hK.out _ _ (cz7 BK206.out) (fun hHeld => ?_)
      clear hK K
      refine nm_ (some 104) ?_
      refine on_ HT_ (i := 9) (N := some 109) (rl [10,1,2,1,2,2]) (fun K hK => ?_)
      refine Kd.R_lit_step (Kd.int .u8) _ 5 ?hg (N := 109) ?hd (xs := ([(Int.tmod a0_13 256) % 256] : List Int)) (inner := [.int .u8 ((Int.tmod a0_13 256) % 256)]) (ok := fun _ => True) (okp := fun _ => True) ?hr ?hp (fun _ hk => hk) trivial (Below.refl _ _) (Nat.le_refl _) (by simp) ?_; (case hd => rfl); (case hg => rfl); (case hr => first | (go_simp; done) | (go_simp; rfl)); (case hp => exact (Reps.one (show Kd.M (Kd.int .u8) _ _ _ ((Int.tmod a0_13 256) % 256) [.int .u8 ((Int.tmod a0_13 256) % 256)] from rfl) (Reps.none _ _)))
      intro v233 w121 ho122 hb hg_ hnew_
      clear hg_ hnew_
      (first | rw [← Ny232.out] at ho122 | (simp only [Int.reduceToNat] at ho122; rw [← Ny232.out] at ho122))
      have HO234 := am_ (Kd.R_lower (Kd.R_new' (Kd.R_new' (Kd.R_new' (Kd.R_new' (Kd.R_new' (Kd.R_new' ho122 (Kd.R_lt (qR HO213))) (Kd.R_lt (qR HO219))) (Kd.R_lt (qR HO222))) (Kd.R_lt (qR HO225))) (Kd.R_lt (qR HO228))) (Kd.R_lt (qR HO231))) (below_size (qB HB)))
      replace HO213 := eA_ HO213 ho122 hb
      replace HO219 := eA_ HO219 ho122 hb
      replace HO222 := eA_ HO222 ho122 hb
      replace HO225 := eA_ HO225 ho122 hb
      replace HO228 := eA_ HO228 ho122 hb
      replace HO231 := eA_ HO231 ho122 hb
      replace BK164 := bK_ BK164 hb
      replace BK206 := bK_ BK206 hb
      replace HB := bS_ HB hb
      clear hb ho122
      refine hK.out _ _ (cz7 BK206.out) (fun hHeld => ?_)
      clear hK K
      refine nm_ (some 109) ?_
      exact norm_ (by simp only [putAll, Act.put, List.setIfInBounds_toArray, List.set_cons_zero, List.set_cons_succ]) (hCont (v230, v233) _ ⟨hHeld, (xR1_ HO213), (xR1_ HO219), (xR1_ HO222), (xR1_ HO225), (xR1_ HO228), (xR1_ HO231), (xR1_ HO234), (qK BK164), (qK BK206), (qB HB)⟩)
     ·
      skip
      refine Kd.R_lit_step (Kd.int .u8) _ 5 ?hg (N := 109) ?hd (xs := ([(Int.tmod a0_13 256) % 256] : List Int)) (inner := [.int .u8 ((Int.tmod a0_13 256) % 256)]) (ok := fun _ => True) (okp := fun _ => True) ?hr ?hp (fun _ hk => hk) trivial (Below.refl _ _) (Nat.le_refl _) (by simp) ?_; (case hd => rfl); (case hg => rfl); (case hr => first | (go_simp; done) | (go_simp; rfl)); (case hp => exact (Reps.one (show Kd.M (Kd.int .u8) _ _ _ ((Int.tmod a0_13 256) % 256) [.int .u8 ((Int.tmod a0_13 256) % 256)] from rfl) (Reps.none _ _)))
      intro v233 w120 ho121 hb hg_ hnew_
      clear hg_ hnew_
      (first | rw [← Ny232.out] at ho121 | (simp only [Int.reduceToNat] at ho121; rw [← Ny232.out] at ho121))
      have HO234 := am_ (Kd.R_lower (Kd.R_new' (Kd.R_new' (Kd.R_new' (Kd.R_new' (Kd.R_new' ho121 (Kd.R_lt (qR HO213))) (Kd.R_lt (qR HO219))) (Kd.R_lt (qR HO222))) (Kd.R_lt (qR HO225))) (Kd.R_lt (qR HO228))) (below_size (qB HB)))
      replace HO213 := eA_ HO213 ho121 hb
      replace HO219 := eA_ HO219 ho121 hb
      replace HO222 := eA_ HO222 ho121 hb
      replace HO225 := eA_ HO225 ho121 hb
      replace HO228 := eA_ HO228 ho121 hb
      replace BK164 := bK_ BK164 hb
      replace BK206 := bK_ BK206 hb
      replace HB := bS_ HB hb
      clear hb ho121
      refine hK.out _ _ (cz7 BK206.out) (fun hHeld => ?_)
      clear hK K
      refine nm_ (some 109) ?_
      refine on_ HT_ (i := 4) (N := some 104) (rl [10,1,2,1,2,2]) (fun K hK => ?_)
      refine goes_ Try.func106 (by kernel_rfl) rfl #[.slice Ao118 t226.length co118, .int .i64 (wrap64 (Int.tdiv a0_13 256))] (by rfl) rfl rfl la_ ?_
      with_reducible refine (spec_PutWord.calls _ _ t226 (wrap64 (Int.tdiv a0_13 256)) t229 _ ?side1 ?side2 A100.out).mono ?_
      (case side1 => exact qC ((Kd.R_reads' HO228.out).2.2))
      (case side2 => exact (Kd.R_reads' HO228.out).2.1)
      rintro e w122 ⟨v230, rfl, ho0, hb⟩
      refine ⟨_, rfl, ?_⟩
      have HO231 := am_ (Kd.R_lower (Kd.R_new' (Kd.R_new' (Kd.R_new' (Kd.R_new' (Kd.R_new' (Kd.R_new' ho0 (Kd.R_lt (qR HO213))) (Kd.R_lt (qR HO219))) (Kd.R_lt (qR HO222))) (Kd.R_lt (qR HO225))) (Kd.R_lt (qR HO228))) (Kd.R_lt (qR HO234))) (below_size (qB HB)))
      replace HO213 := eA_ HO213 ho0 hb
      replace HO219 := eA_ HO219 ho0 hb
      replace HO222 := eA_ HO222 ho0 hb
      replace HO225 := eA_ HO225 ho0 hb
      replace HO228 := eA_ HO228 ho0 hb
      replace HO234 := eA_ HO234 ho0 hb
      replace BK164 := bK_ BK164 hb
      replace BK206 := bK_ BK206 hb
      replace HB := bS_ HB hb
      (try clear hb ho0)
      refine hK.out _ _ (cz7 BK206.out) (fun hHeld => ?_)
      clear hK K
      refine nm_ (some 104) ?_
      exact norm_ (by simp only [putAll, Act.put, List.setIfInBounds_toArray, List.set_cons_zero, List.set_cons_succ]) (hCont (v230, v233) _ ⟨hHeld, (xR1_ HO213), (xR1_ HO219), (xR1_ HO222), (xR1_ HO225), (xR1_ HO228), (xR1_ HO231), (xR1_ HO234), (qK BK164), (qK BK206), (qB HB)⟩)
    rintro ⟨v230, v233⟩ w123 ⟨hS_, h0_, h1_, h2_, h3_, h4_, h5_, h6_, h7_, h8_, h9_⟩
    have n0_ : Aside0 (Kd.R (Kd.int .u8) 5 w123 w.heap.size (fun k_ => nb Ao113 y217.length co113 k_ ∧ nb Ao114 y220.length co114 k_ ∧ nb Ao116 t223.length co116 k_ ∧ nb Ao118 t226.length co118 k_ ∧ nv v230 k_ ∧ nv v233 k_) v212 y211) := ⟨h0_⟩
    have n1_ : Aside0 (Kd.R (Kd.int .u8) 5 w123 w.heap.size (fun k_ => nv v212 k_ ∧ nb Ao114 y220.length co114 k_ ∧ nb Ao116 t223.length co116 k_ ∧ nb Ao118 t226.length co118 k_ ∧ nv v230 k_ ∧ nv v233 k_) (.slice Ao113 y217.length co113) y217) := ⟨h1_⟩
    have n2_ : Aside0 (Kd.R (Kd.int .u8) 5 w123 w.heap.size (fun k_ => nv v212 k_ ∧ nb Ao113 y217.length co113 k_ ∧ nb Ao116 t223.length co116 k_ ∧ nb Ao118 t226.length co118 k_ ∧ nv v230 k_ ∧ nv v233 k_) (.slice Ao114 y220.length co114) y220) := ⟨h2_⟩
    have n3_ : Aside0 (Kd.R (Kd.int .u8) 5 w123 w.heap.size (fun k_ => nv v212 k_ ∧ nb Ao113 y217.length co113 k_ ∧ nb Ao114 y220.length co114 k_ ∧ nb Ao118 t226.length co118 k_ ∧ nv v230 k_ ∧ nv v233 k_) (.slice Ao116 t223.length co116) t223) := ⟨h3_⟩
    have n4_ : Aside0 (Kd.R (Kd.int .u8) 5 w123 w.heap.size (fun k_ => nv v212 k_ ∧ nb Ao113 y217.length co113 k_ ∧ nb Ao114 y220.length co114 k_ ∧ nb Ao116 t223.length co116 k_ ∧ nv v230 k_ ∧ nv v233 k_) (.slice Ao118 t226.length co118) t226) := ⟨h4_⟩
    have n5_ : Aside0 (Kd.R (Kd.int .u8) 5 w123 w.heap.size (fun k_ => nv v212 k_ ∧ nb Ao113 y217.length co113 k_ ∧ nb Ao114 y220.length co114 k_ ∧ nb Ao116 t223.length co116 k_ ∧ nb Ao118 t226.length co118 k_ ∧ nv v233 k_) v230 t229) := ⟨h5_⟩
    have n6_ : Aside0 (Kd.R (Kd.int .u8) 5 w123 w.heap.size (fun k_ => nv v212 k_ ∧ nb Ao113 y217.length co113 k_ ∧ nb Ao114 y220.length co114 k_ ∧ nb Ao116 t223.length co116 k_ ∧ nb Ao118 t226.length co118 k_ ∧ nv v230 k_) v233 y232) := ⟨h6_⟩
    have n7_ : Aside0 (w123.heap[gb164]? = some (.cells #[.int .i64 a0_0, .int .i64 a0_1, .string a0_2, .int .i64 a0_3, .int .i64 a0_4, .int .i64 a0_5, .string a0_6, .int .i64 a0_7, .int .i64 a0_8, .int .i64 a0_9, .string a0_10, .int .i64 a0_11, .int .i64 a0_12, .int .i64 a0_13, .int .i64 a0_14, .int .i64 a0_15] 126 (0, 0))) := ⟨h7_⟩
    have n8_ : Aside0 (w123.heap[gb206]? = some (.cells #[.int .i64 a0_9, .string a0_10, .int .i64 a0_11, .int .i64 a0_12, .int .i64 a0_13, .int .i64 a0_14, .int .i64 a0_15] 124 (0, 0))) := ⟨h8_⟩
    have n9_ : Aside0 (Below w.heap.size w w123) := ⟨h9_⟩
    clear HO213
    clear HO219
    clear HO222
    clear HO225
    clear HO228
    clear BK164
    clear BK206
    clear HB
    clear h0_ h1_ h2_ h3_ h4_ h5_ h6_ h7_ h8_ h9_
    have HO213 := n0_
    have HO219 := n1_
    have HO222 := n2_
    have HO225 := n3_
    have HO228 := n4_
    have HO231 := n5_
    have HO234 := n6_
    have BK164 := n7_
    have BK206 := n8_
    have HB := n9_
    clear n0_ n1_ n2_ n3_ n4_ n5_ n6_ n7_ n8_ n9_
    have hHeld : w123.cell? ⟨gb206, 0, none⟩ = some (.int .i64 a0_9) ∧ w123.cell? ⟨gb206, 1, none⟩ = some (.string a0_10) ∧ w123.cell? ⟨gb206, 2, none⟩ = some (.int .i64 a0_11) ∧ w123.cell? ⟨gb206, 3, none⟩ = some (.int .i64 a0_12) ∧ w123.cell? ⟨gb206, 4, none⟩ = some (.int .i64 a0_13) ∧ w123.cell? ⟨gb206, 5, none⟩ = some (.int .i64 a0_14) ∧ w123.cell? ⟨gb206, 6, none⟩ = some (.int .i64 a0_15) := hS_
    obtain ⟨Ao125, co125, eo125⟩ := Kd.R_slice HO234.out
    (first | subst eo125 | (injection eo125 with f1_ f2_ f3_; have f4_ := f1_.symm; have f5_ := f3_.symm; clear f1_ f2_ f3_; subst f4_; subst f5_))
    refine norm_ (a' := ?_) ?_ ?_
    rotate_left
    ·
     simp only [putAll, Act.put, List.setIfInBounds_toArray, List.set_cons_zero, List.set_cons_succ]
     rfl
    refine on_ HT_ (i := 10) (N := some 110) (rl [13,1,2,2]) (fun K hK => ?_)
    refine Kd.R_append_rows_step (Kd.int .u8) (w0 := w) w.heap.size (by rfl) (.tmp 104) (.tmp 109) 70 5 (.int .u8 0) 1 rfl Try.underlying70 info5 rfl (by decide) (by omega) v230 t229 y232 _ _ _ (fun k_ => nv v212 k_ ∧ nb Ao113 y217.length co113 k_ ∧ nb Ao114 y220.length co114 k_ ∧ nb Ao116 t223.length co116 k_ ∧ nb Ao118 t226.length co118 k_ ∧ nb Ao125 y232.length co125 k_) (fun _ => False) rfl rfl ?aO ?aR (fun _ _ h => h) (fun _ h => h.elim) ?aF ?aB ?aS ?aL ?_
    (case aR => exact qC ((Kd.R_reads' HO234.out).2.2))
    (case aB => exact (qB HB))
    (case aF => exact (fun k_ hk => ⟨Kd.fresh' (Kd.R_lt (qR HO213)) k_ hk, Kd.fresh' (Kd.R_lt (qR HO219)) k_ hk, Kd.fresh' (Kd.R_lt (qR HO222)) k_ hk, Kd.fresh' (Kd.R_lt (qR HO225)) k_ hk, Kd.fresh' (Kd.R_lt (qR HO228)) k_ hk, Kd.fresh' (Kd.R_lt (qR HO234)) k_ hk⟩))
    (case aO => exact (qR HO231))
    (case aS => exact (below_size (qB HB)))
    (case aL => have := LMc101.out; omega)
    intro v236 w124 ho hb hg hat
    rw [← Ny235.out] at ho
    replace BK164 := kG_ BK164 HO231 hg
    replace BK206 := kG_ BK206 HO231 hg
    replace HO213 := am_ (Kd.R_after (ok := (fun k_ => nb Ao113 y217.length co113 k_ ∧ nb Ao114 y220.length co114 k_ ∧ nb Ao116 t223.length co116 k_ ∧ nb Ao118 t226.length co118 k_ ∧ nb Ao125 y232.length co125 k_)) (xR1_ HO213) hg hat)
    replace HO219 := am_ (Kd.R_after (ok := (fun k_ => nv v212 k_ ∧ nb Ao114 y220.length co114 k_ ∧ nb Ao116 t223.length co116 k_ ∧ nb Ao118 t226.length co118 k_ ∧ nb Ao125 y232.length co125 k_)) (xR1_ HO219) hg hat)
    replace HO222 := am_ (Kd.R_after (ok := (fun k_ => nv v212 k_ ∧ nb Ao113 y217.length co113 k_ ∧ nb Ao116 t223.length co116 k_ ∧ nb Ao118 t226.length co118 k_ ∧ nb Ao125 y232.length co125 k_)) (xR1_ HO222) hg hat)
    replace HO225 := am_ (Kd.R_after (ok := (fun k_ => nv v212 k_ ∧ nb Ao113 y217.length co113 k_ ∧ nb Ao114 y220.length co114 k_ ∧ nb Ao118 t226.length co118 k_ ∧ nb Ao125 y232.length co125 k_)) (xR1_ HO225) hg hat)
    replace HO228 := am_ (Kd.R_after (ok := (fun k_ => nv v212 k_ ∧ nb Ao113 y217.length co113 k_ ∧ nb Ao114 y220.length co114 k_ ∧ nb Ao116 t223.length co116 k_ ∧ nb Ao125 y232.length co125 k_)) (xR1_ HO228) hg hat)
    replace HO234 := am_ (Kd.R_after (ok := (fun k_ => nv v212 k_ ∧ nb Ao113 y217.length co113 k_ ∧ nb Ao114 y220.length co114 k_ ∧ nb Ao116 t223.length co116 k_ ∧ nb Ao118 t226.length co118 k_)) (xR1_ HO234) hg hat)
    replace HB := am_ (hb)
    have HO237 := am_ (ho)
    clear HO231
    clear ho hb hg hat
    obtain ⟨Ao126, co126, eo126⟩ := Kd.R_slice HO237.out
    (first | subst eo126 | (injection eo126 with f1_ f2_ f3_; have f4_ := f1_.symm; have f5_ := f3_.symm; clear f1_ f2_ f3_; subst f4_; subst f5_))
    refine hK.out _ _ (cz7 BK206.out) (fun hHeld => ?_)
    clear hK K
    refine nm_ (some 110) ?_
    refine on_ HT_ (i := 13) (N := some 113) (rl [16,2]) (fun K hK => ?_)
    refine goes_ Try.func106 (by kernel_rfl) rfl #[.slice Ao126 y235.length co126, .int .i64 a0_14] (by rfl) rfl rfl la_ ?_
    with_reducible refine (spec_PutWord.calls _ _ y235 a0_14 t238 _ ?side1 ?side2 A102.out).mono ?_
    (case side1 => exact qC ((Kd.R_reads' HO237.out).2.2))
    (case side2 => exact (Kd.R_reads' HO237.out).2.1)
    rintro e w127 ⟨v239, rfl, ho0, hb⟩
    refine ⟨_, rfl, ?_⟩
    have HO240 := am_ (Kd.R_lower (Kd.R_new' (Kd.R_new' (Kd.R_new' (Kd.R_new' (Kd.R_new' (Kd.R_new' (Kd.R_new' ho0 (Kd.R_lt (qR HO213))) (Kd.R_lt (qR HO219))) (Kd.R_lt (qR HO222))) (Kd.R_lt (qR HO225))) (Kd.R_lt (qR HO228))) (Kd.R_lt (qR HO234))) (Kd.R_lt (qR HO237))) (below_size (qB HB)))
    replace HO213 := eA_ HO213 ho0 hb
    replace HO219 := eA_ HO219 ho0 hb
    replace HO222 := eA_ HO222 ho0 hb
    replace HO225 := eA_ HO225 ho0 hb
    replace HO228 := eA_ HO228 ho0 hb
    replace HO234 := eA_ HO234 ho0 hb
    replace HO237 := eA_ HO237 ho0 hb
    replace BK164 := bK_ BK164 hb
    replace BK206 := bK_ BK206 hb
    replace HB := bS_ HB hb
    (try clear hb ho0)
    obtain ⟨Ao128, co128, eo128⟩ := Kd.R_slice HO240.out
    (first | subst eo128 | (injection eo128 with f1_ f2_ f3_; have f4_ := f1_.symm; have f5_ := f3_.symm; clear f1_ f2_ f3_; subst f4_; subst f5_))
    refine hK.out _ _ (cz7 BK206.out) (fun hHeld => ?_)
    clear hK K
    refine nm_ (some 113) ?_
    refine on_ HT_ (i := 16) (N := some 116) (rl [17,1]) (fun K hK => ?_)
    refine goes_ Try.func106 (by kernel_rfl) rfl #[.slice Ao128 t238.length co128, .int .i64 a0_15] (by rfl) rfl rfl la_ ?_
    with_reducible refine (spec_PutWord.calls _ _ t238 a0_15 t241 _ ?side1 ?side2 A103.out).mono ?_
    (case side1 => exact qC ((Kd.R_reads' HO240.out).2.2))
    (case side2 => exact (Kd.R_reads' HO240.out).2.1)
    rintro e w129 ⟨v242, rfl, ho0, hb⟩
    refine ⟨_, rfl, ?_⟩
    have HO243 := am_ (Kd.R_lower (Kd.R_new' (Kd.R_new' (Kd.R_new' (Kd.R_new' (Kd.R_new' (Kd.R_new' (Kd.R_new' (Kd.R_new' ho0 (Kd.R_lt (qR HO213))) (Kd.R_lt (qR HO219))) (Kd.R_lt (qR HO222))) (Kd.R_lt (qR HO225))) (Kd.R_lt (qR HO228))) (Kd.R_lt (qR HO234))) (Kd.R_lt (qR HO237))) (Kd.R_lt (qR HO240))) (below_size (qB HB)))
    replace HO213 := eA_ HO213 ho0 hb
    replace HO219 := eA_ HO219 ho0 hb
    replace HO222 := eA_ HO222 ho0 hb
    replace HO225 := eA_ HO225 ho0 hb
    replace HO228 := eA_ HO228 ho0 hb
    replace HO234 := eA_ HO234 ho0 hb
    replace HO237 := eA_ HO237 ho0 hb
    replace HO240 := eA_ HO240 ho0 hb
    replace BK164 := bK_ BK164 hb
    replace BK206 := bK_ BK206 hb
    replace HB := bS_ HB hb
    (try clear hb ho0)
    refine hK.out _ _ (cz7 BK206.out) (fun hHeld => ?_)
    clear hK K
    refine nm_ (some 116) ?_
    refine pq_ 17 2 HT_ (rl [18]) ?_
    refine done_ (done_of HT_.out (by kernel_rfl)) ?_
    try go_wp2
    go_ret
    exact ⟨_, er_, (xR1_ HO243), qB HB⟩
 (first | rw [c5b0] | rw [c5b1] | (simp only [i64_w, i32_w]; rw [c5b0]) | skip)
 have HC6 := Aside0.mk H
 clear H
 (try clear zK164)
 have zK164 := cz16 BK164.out
 (try clear fK164)
 have fK164 := fz16 BK164.out
 go_upto_region 3 with (first | ((with_reducible refine gate_dst (N := 3) rfl ?_); refine bx_ (N := 3) (cs := #[.int .i64 0, .string (⟨#[]⟩ : ByteArray), .int .i64 0, .int .i64 0, .int .i64 0, .string (⟨#[]⟩ : ByteArray), .int .i64 0, .int .i64 0]) (t := 90) ?_; intro gb165 hg w8 hbox hb; have BK165 := am_ (hbox); have GW165 := gA_ hg HB; have GE165 := GW165; have IGE165 := gI_ GE165; replace HB := bS_ HB hb; have NB164_165 := am_ ((gN_ hg (qK BK164))); have NB165_164 := am_ ((gM_ hg (qK BK164))); replace BK164 := bK_ BK164 hb; clear hb hbox hg; have hnb9 := NB165_164.out; have hnc9 := NB164_165.out; (try clear zK165); have zK165 := cz8 BK165.out; (try clear fK165); have fK165 := fz8 BK165.out))
 (try simp only [Act.put, List.setIfInBounds_toArray, List.set_cons_zero, List.set_cons_succ])
 go_cut [25] (fun v25 wc => ∃ (kq : Nat) (x25_5 : Bool), v25 = .bool x25_5 ∧ Aside0 (spec_PutItem.j0 kq x25_5 a0_1 a0_2 a0_3 a0_4 a0_5 a0_6 a0_7 a0_8 = some r) ∧ Aside0 (kq ≤ k) ∧ Aside0 (wc.heap[gb164]? = some (.cells #[.int .i64 a0_0, .int .i64 a0_1, .string a0_2, .int .i64 a0_3, .int .i64 a0_4, .int .i64 a0_5, .string a0_6, .int .i64 a0_7, .int .i64 a0_8, .int .i64 a0_9, .string a0_10, .int .i64 a0_11, .int .i64 a0_12, .int .i64 a0_13, .int .i64 a0_14, .int .i64 a0_15] 126 (0, 0))) ∧ Aside0 (wc.heap[gb165]? = some (.cells #[.int .i64 a0_1, .string a0_2, .int .i64 a0_3, .int .i64 a0_4, .int .i64 a0_5, .string a0_6, .int .i64 a0_7, .int .i64 a0_8] 90 (0, 0))) ∧ Aside0 (Below w.heap.size w wc))
 case first =>
  have H := HC6.out
  clear HC6
  replace H := bd_ H
  obtain ⟨t166, A11, H⟩ := H
  by_cases c12 : t166 = true
  rotate_left
  ·
   replace c12 := Bool.eq_false_iff.mpr c12
   subst c12
   rw [if_neg (show ¬ (false = true) by decide)] at H
   have H' := Aside0.mk H
   clear H
   have hnb23 := NB165_164.out
   have hnc23 := NB164_165.out
   (try clear zK165)
   have zK165 := cz8 BK165.out
   (try clear fK165)
   have fK165 := fz8 BK165.out
   go_wp2_with (first | ((with_reducible refine gate_callee (f := 122) rfl ?_); refine gl_ (some 13) Try.func122 #[.agg #[.int .i64 a0_1, .string a0_2, .int .i64 a0_3, .int .i64 a0_4, .int .i64 a0_5, .string a0_6, .int .i64 a0_7, .int .i64 a0_8]] ?_; (with_reducible refine (spec_AskerOk.calls k a0_1 a0_2 a0_3 a0_4 a0_5 a0_6 a0_7 a0_8 false _ A11.out).mono ?_); rintro e w25 ⟨rfl, hb⟩; refine ⟨_, rfl, ?_⟩; replace BK164 := am_ (blk_below (g := gb164) (o := .cells #[.int .i64 a0_0, .int .i64 a0_1, .string a0_2, .int .i64 a0_3, .int .i64 a0_4, .int .i64 a0_5, .string a0_6, .int .i64 a0_7, .int .i64 a0_8, .int .i64 a0_9, .string a0_10, .int .i64 a0_11, .int .i64 a0_12, .int .i64 a0_13, .int .i64 a0_14, .int .i64 a0_15] 126 (0, 0)) (by (with_reducible repeat (first | refine blk_drewN ?_ _ | refine blk_drew ?_ | refine blk_alloc ?_ _)); refine blk_far8 ?_ NB164_165.out; exact qK BK164) hb); replace BK165 := am_ (blk_below (g := gb165) (o := .cells #[.int .i64 a0_1, .string a0_2, .int .i64 a0_3, .int .i64 a0_4, .int .i64 a0_5, .string a0_6, .int .i64 a0_7, .int .i64 a0_8] 90 (0, 0)) (by exact blk_all8 (qK BK165)) hb); replace HB := bS_ HB hb; (try clear hb)))
   go_meet
   case rel => exact ⟨_, (true), eqq_, H', ⟨by first | omega | exact Nat.le_refl _⟩, ⟨qK BK164⟩, ⟨qK BK165⟩, ⟨qB HB⟩⟩
  subst c12
  rw [if_pos rfl] at H
  replace H := id_ H
  obtain ⟨c13, H, -⟩ | ⟨c13, H, -⟩ := H
  ·
   have c13b0 : (!(a0_9 == 0) || (!(a0_10.toList == ([] : List UInt8)) || (!(a0_11 == 0) || (!(a0_12 == 0) || (!(a0_13 == 0) || (!(a0_14 == 0) || (!(a0_15 == 0)))))))) = true := c13
   (try (have c13b0e := c13b0; simp only [beq_nil, bne_nil] at c13b0e))
   clear c13
   (first | rw [c13b0] | (simp only [i64_w, i32_w]; rw [c13b0]) | skip)
   have H' := Aside0.mk H
   clear H
   have hnb14 := NB165_164.out
   have hnc14 := NB164_165.out
   (try clear zK165)
   have zK165 := cz8 BK165.out
   (try clear fK165)
   have fK165 := fz8 BK165.out
   go_wp2_with (first | ((with_reducible refine gate_callee (f := 122) rfl ?_); refine gl_ (some 13) Try.func122 #[.agg #[.int .i64 a0_1, .string a0_2, .int .i64 a0_3, .int .i64 a0_4, .int .i64 a0_5, .string a0_6, .int .i64 a0_7, .int .i64 a0_8]] ?_; (with_reducible refine (spec_AskerOk.calls k a0_1 a0_2 a0_3 a0_4 a0_5 a0_6 a0_7 a0_8 true _ A11.out).mono ?_); rintro e w16 ⟨rfl, hb⟩; refine ⟨_, rfl, ?_⟩; replace BK164 := am_ (blk_below (g := gb164) (o := .cells #[.int .i64 a0_0, .int .i64 a0_1, .string a0_2, .int .i64 a0_3, .int .i64 a0_4, .int .i64 a0_5, .string a0_6, .int .i64 a0_7, .int .i64 a0_8, .int .i64 a0_9, .string a0_10, .int .i64 a0_11, .int .i64 a0_12, .int .i64 a0_13, .int .i64 a0_14, .int .i64 a0_15] 126 (0, 0)) (by (with_reducible repeat (first | refine blk_drewN ?_ _ | refine blk_drew ?_ | refine blk_alloc ?_ _)); refine blk_far8 ?_ NB164_165.out; exact qK BK164) hb); replace BK165 := am_ (blk_below (g := gb165) (o := .cells #[.int .i64 a0_1, .string a0_2, .int .i64 a0_3, .int .i64 a0_4, .int .i64 a0_5, .string a0_6, .int .i64 a0_7, .int .i64 a0_8] 90 (0, 0)) (by exact blk_all8 (qK BK165)) hb); replace HB := bS_ HB hb; (try clear hb); (try clear zK164); have zK164 := cz16 BK164.out; (try clear fK164); have fK164 := fz16 BK164.out))
   go_meet
   case rel => exact ⟨_, (true), eqq_, H', ⟨by first | omega | exact Nat.le_refl _⟩, ⟨qK BK164⟩, ⟨qK BK165⟩, ⟨qB HB⟩⟩
  have c13b0 : (!(a0_9 == 0) || (!(a0_10.toList == ([] : List UInt8)) || (!(a0_11 == 0) || (!(a0_12 == 0) || (!(a0_13 == 0) || (!(a0_14 == 0) || (!(a0_15 == 0)))))))) = false := by simpa using c13
  (try (have c13b0e := c13b0; simp only [beq_nil, bne_nil] at c13b0e))
  clear c13
  (first | rw [c13b0] | (simp only [i64_w, i32_w]; rw [c13b0]) | skip)
  have H' := Aside0.mk H
  clear H
  have hnb18 := NB165_164.out
  have hnc18 := NB164_165.out
  (try clear zK165)
  have zK165 := cz8 BK165.out
  (try clear fK165)
  have fK165 := fz8 BK165.out
  go_wp2_with (first | ((with_reducible refine gate_callee (f := 122) rfl ?_); refine gl_ (some 13) Try.func122 #[.agg #[.int .i64 a0_1, .string a0_2, .int .i64 a0_3, .int .i64 a0_4, .int .i64 a0_5, .string a0_6, .int .i64 a0_7, .int .i64 a0_8]] ?_; (with_reducible refine (spec_AskerOk.calls k a0_1 a0_2 a0_3 a0_4 a0_5 a0_6 a0_7 a0_8 true _ A11.out).mono ?_); rintro e w20 ⟨rfl, hb⟩; refine ⟨_, rfl, ?_⟩; replace BK164 := am_ (blk_below (g := gb164) (o := .cells #[.int .i64 a0_0, .int .i64 a0_1, .string a0_2, .int .i64 a0_3, .int .i64 a0_4, .int .i64 a0_5, .string a0_6, .int .i64 a0_7, .int .i64 a0_8, .int .i64 a0_9, .string a0_10, .int .i64 a0_11, .int .i64 a0_12, .int .i64 a0_13, .int .i64 a0_14, .int .i64 a0_15] 126 (0, 0)) (by (with_reducible repeat (first | refine blk_drewN ?_ _ | refine blk_drew ?_ | refine blk_alloc ?_ _)); refine blk_far8 ?_ NB164_165.out; exact qK BK164) hb); replace BK165 := am_ (blk_below (g := gb165) (o := .cells #[.int .i64 a0_1, .string a0_2, .int .i64 a0_3, .int .i64 a0_4, .int .i64 a0_5, .string a0_6, .int .i64 a0_7, .int .i64 a0_8] 90 (0, 0)) (by exact blk_all8 (qK BK165)) hb); replace HB := bS_ HB hb; (try clear hb); (try clear zK164); have zK164 := cz16 BK164.out; (try clear zK165); have zK165 := cz8 BK165.out; (try clear fK165); have fK165 := fz8 BK165.out))
  go_meet
  case rel => exact ⟨_, (decide (a0_8 > 65535)), eqq_, H', ⟨by first | omega | exact Nat.le_refl _⟩, ⟨qK BK164⟩, ⟨qK BK165⟩, ⟨qB HB⟩⟩
 case rest =>
  clear HC6
  try clear c1
  try clear c2
  try clear p2
  try clear c5
  try clear c5b0
  try clear c5b1
  try clear c9
  try clear c10
  try clear c12
  try clear c13
  try clear c13b0
  try clear c14
  try clear c18
  try clear c23
  (try clear zK165)
  (try clear zK165)
  (try clear zK164)
  (try clear zK165)
  (try clear zK164)
  (try clear zK165)
  (try clear zK165)
  (try clear zK164)
  (try clear zK164)
  (try clear fK165)
  (try clear fK165)
  (try clear fK164)
  (try clear fK165)
  (try clear f21)
  (try clear fK165)
  (try clear fK165)
  (try clear fK164)
  (try clear fK164)
  obtain ⟨kq, x25_5, rfl, HA, HJ5, BK164, BK165, HB⟩ := hcut
  cases kq with
  | zero => exact absurd HA.out (by simp [spec_PutItem.j0])
  | succ kj5 =>
   have H := HA.out
   clear HA
   simp only [spec_PutItem.j0] at H
   by_cases c26 : x25_5 = true
   ·
    subst c26
    rw [if_pos rfl] at H
    obtain ⟨y167, hy167⟩ : ∃ y_ : List Int, y_ = (([] : List Int)) := ⟨_, rfl⟩
    rw [← hy167] at H
    have Ny167 := Aside0.mk hy167
    clear hy167
    obtain rfl := Option.some.inj H
    go_wp2_with (first | ((with_reducible refine gate_dst (N := 26) rfl ?_); refine Kd.R_lit (Kd.int .u8) _ 5 ?hg (N := 26) ?hd (xs := ([] : List Int)) (inner := []) (ok := fun _ => True) (okp := fun _ => True) ?hr ?hp (fun _ hk => hk) trivial (Below.refl _ _) (Nat.le_refl _) (by simp) ?_; (case hd => rfl); (case hg => rfl); (case hr => first | (go_simp; done) | (go_simp; rfl)); (case hp => exact (Reps.none _ _)); intro v168 w27 ho28 hb hg_ hnew_; clear hg_ hnew_; (first | rw [← Ny167.out] at ho28 | (simp only [Int.reduceToNat] at ho28; rw [← Ny167.out] at ho28)); have HO169 := am_ (Kd.R_lower ho28 (below_size (qB HB))); replace BK164 := bK_ BK164 hb; replace BK165 := bK_ BK165 hb; replace HB := bS_ HB hb; clear hb ho28))
    go_ret
    exact ⟨_, er_, qR HO169, qB HB⟩
   replace c26 := Bool.eq_false_iff.mpr c26
   subst c26
   rw [if_neg (show ¬ (false = true) by decide)] at H
   obtain ⟨y170, hy170⟩ : ∃ y_ : List Int, y_ = (([1] : List Int)) := ⟨_, rfl⟩
   rw [← hy170] at H
   have Ny170 := Aside0.mk hy170
   clear hy170
   replace H := bd_ H
   obtain ⟨t173, A29, H⟩ := H
   obtain ⟨y176, hy176⟩ : ∃ y_ : List Int, y_ = (([(a0_3) % 256] : List Int)) := ⟨_, rfl⟩
   replace H := mk_ H hy176
   (try dsimp only at H)
   have Ny176 := Aside0.mk hy176
   clear hy176
   replace H := ip_ H
   obtain ⟨c30, H, -⟩ := H
   have LMc30 := Aside0.mk c30
   clear c30
   obtain ⟨y179, hy179⟩ : ∃ y_ : List Int, y_ = (t173 ++ y176) := ⟨_, rfl⟩
   replace H : ((spec_PutText.f kj5 y179 a0_2).bind fun t182 => ((spec_PutWord.f t182 a0_4).bind fun t185 => ((spec_PutWord.f t185 (wrap64 (Int.tdiv a0_5 256))).bind fun t188 => ((some (([(Int.tmod a0_5 256) % 256] : List Int) : List Int)).bind fun y191 => (if t188.length + y191.length < 140737488355328 then ((spec_PutText.f kj5 (t188 ++ y191) a0_6).bind fun t197 => ((spec_PutWord.f t197 a0_7).bind fun t200 => ((spec_PutWord.f t200 a0_8).bind fun t203 => (some t203)))) else (none)))))) = some r := by first | (rw [hy179]; with_reducible exact H) | (have H2_ := (Option.bind_some _ _).symm.trans H; rw [hy179]; with_reducible exact H2_) | (have H2_ := (Option.bind_some _ _).symm.trans H; with_reducible exact H2_) | with_reducible exact H | (rw [hy179]; exact H) | exact H
   have Ny179 := Aside0.mk hy179
   clear hy179
   replace H := bd_ H
   obtain ⟨t182, A31, H⟩ := H
   replace H := bd_ H
   obtain ⟨t185, A32, H⟩ := H
   replace H := bd_ H
   obtain ⟨t188, A33, H⟩ := H
   obtain ⟨y191, hy191⟩ : ∃ y_ : List Int, y_ = (([(Int.tmod a0_5 256) % 256] : List Int)) := ⟨_, rfl⟩
   replace H := mk_ H hy191
   (try dsimp only at H)
   have Ny191 := Aside0.mk hy191
   clear hy191
   replace H := ip_ H
   obtain ⟨c34, H, -⟩ := H
   have LMc34 := Aside0.mk c34
   clear c34
   obtain ⟨y194, hy194⟩ : ∃ y_ : List Int, y_ = (t188 ++ y191) := ⟨_, rfl⟩
   replace H : ((spec_PutText.f kj5 y194 a0_6).bind fun t197 => ((spec_PutWord.f t197 a0_7).bind fun t200 => ((spec_PutWord.f t200 a0_8).bind fun t203 => (some t203)))) = some r := by first | (rw [hy194]; with_reducible exact H) | (have H2_ := (Option.bind_some _ _).symm.trans H; rw [hy194]; with_reducible exact H2_) | (have H2_ := (Option.bind_some _ _).symm.trans H; with_reducible exact H2_) | with_reducible exact H | (rw [hy194]; exact H) | exact H
   have Ny194 := Aside0.mk hy194
   clear hy194
   replace H := bd_ H
   obtain ⟨t197, A35, H⟩ := H
   replace H := bd_ H
   obtain ⟨t200, A36, H⟩ := H
   replace H := bd_ H
   obtain ⟨t203, A37, H⟩ := H
   obtain rfl := Option.some.inj H
   try go_wp2
   replace BK164 := am_ (blk_drew BK164.out)
   replace BK165 := am_ (blk_drew BK165.out)
   replace HB := am_ (below_drew1 HB.out)
   refine start_ (n := 13) (S := fun w' => w'.cell? ⟨gb165, 0, none⟩ = some (.int .i64 a0_1) ∧ w'.cell? ⟨gb165, 1, none⟩ = some (.string a0_2) ∧ w'.cell? ⟨gb165, 2, none⟩ = some (.int .i64 a0_3) ∧ w'.cell? ⟨gb165, 3, none⟩ = some (.int .i64 a0_4) ∧ w'.cell? ⟨gb165, 4, none⟩ = some (.int .i64 a0_5) ∧ w'.cell? ⟨gb165, 5, none⟩ = some (.string a0_6) ∧ w'.cell? ⟨gb165, 6, none⟩ = some (.int .i64 a0_7) ∧ w'.cell? ⟨gb165, 7, none⟩ = some (.int .i64 a0_8)) (ds := []) (rl [0,13]) (by kernel_rfl) rfl rfl (cz8 BK165.out) (fun hHeld => ?_); refine with_tabW spec_PutItem.tab5 spec_PutItem.bits5 (fun HT_ HW_ => ?_)
   generalize wc.drew = w38 at BK164 BK165 HB hHeld ⊢
   refine pq_ 1 28 HT_ (rl [0,1,1,11]) ?_
   refine pq_ 4 31 HT_ (rl [0,1,1,2,1,8]) ?_
   refine pq_ 9 36 HT_ (rl [0,1,1,2,1,4,1,3]) ?_
   refine tz_ (i := 2) (N := some 29) HT_ HW_ (rl [0,1,2,1,1,4,1,3]) rfl rfl hHeld ?_
   refine tz_ (i := 5) (N := some 32) HT_ HW_ (rl [0,1,2,1,2,3,1,3]) rfl rfl hHeld ?_
   refine pq_ 6 33 HT_ (rl [0,1,2,1,3,2,1,3]) ?_
   refine tz_ (i := 10) (N := some 37) HT_ HW_ (rl [0,1,2,1,3,2,2,2]) rfl rfl hHeld ?_
   refine join_ (σ := Value × Value × Value) 3 (rl [8,1,2,2]) (fun s_ => [(27, s_.1), (30, s_.2.1), (34, s_.2.2)]) (fun s_ w' => (w'.cell? ⟨gb165, 0, none⟩ = some (.int .i64 a0_1) ∧ w'.cell? ⟨gb165, 1, none⟩ = some (.string a0_2) ∧ w'.cell? ⟨gb165, 2, none⟩ = some (.int .i64 a0_3) ∧ w'.cell? ⟨gb165, 3, none⟩ = some (.int .i64 a0_4) ∧ w'.cell? ⟨gb165, 4, none⟩ = some (.int .i64 a0_5) ∧ w'.cell? ⟨gb165, 5, none⟩ = some (.string a0_6) ∧ w'.cell? ⟨gb165, 6, none⟩ = some (.int .i64 a0_7) ∧ w'.cell? ⟨gb165, 7, none⟩ = some (.int .i64 a0_8)) ∧ (Kd.R (Kd.int .u8) 5 w' w.heap.size (fun k_ => some k_ ≠ (s_.2.1 : Value).ownBlock ∧ some k_ ≠ (s_.2.2 : Value).ownBlock) s_.1 y170) ∧ (Kd.R (Kd.int .u8) 5 w' w.heap.size (fun k_ => some k_ ≠ (s_.1 : Value).ownBlock ∧ some k_ ≠ (s_.2.2 : Value).ownBlock) s_.2.1 t173) ∧ (Kd.R (Kd.int .u8) 5 w' w.heap.size (fun k_ => some k_ ≠ (s_.1 : Value).ownBlock ∧ some k_ ≠ (s_.2.1 : Value).ownBlock) s_.2.2 y176) ∧ (w'.heap[gb164]? = some (.cells #[.int .i64 a0_0, .int .i64 a0_1, .string a0_2, .int .i64 a0_3, .int .i64 a0_4, .int .i64 a0_5, .string a0_6, .int .i64 a0_7, .int .i64 a0_8, .int .i64 a0_9, .string a0_10, .int .i64 a0_11, .int .i64 a0_12, .int .i64 a0_13, .int .i64 a0_14, .int .i64 a0_15] 126 (0, 0))) ∧ (w'.heap[gb165]? = some (.cells #[.int .i64 a0_1, .string a0_2, .int .i64 a0_3, .int .i64 a0_4, .int .i64 a0_5, .string a0_6, .int .i64 a0_7, .int .i64 a0_8] 90 (0, 0))) ∧ (Below w.heap.size w w')) ?_ ?_
   rotate_left
   ·
    intro hCont
    refine two_ (i := 0) (j := 7) (Ni := some 27) (Nj := some 34) (rl [3,1,3,2,2,2]) (rl [0,1,2,1,4,1,2,2]) rfl rfl rfl rfl (two_of HT_.out (by kernel_rfl)) (by decide) (by decide) (fun K hK => ?_) (fun K hK => ?_)
    ·
     skip
     refine Kd.R_lit_step (Kd.int .u8) _ 5 ?hg (N := 27) ?hd (xs := ([1] : List Int)) (inner := [.int .u8 1]) (ok := fun _ => True) (okp := fun _ => True) ?hr ?hp (fun _ hk => hk) trivial (Below.refl _ _) (Nat.le_refl _) (by simp) ?_; (case hd => rfl); (case hg => rfl); (case hr => first | (go_simp; done) | (go_simp; rfl)); (case hp => exact (Reps.one (show Kd.M (Kd.int .u8) _ _ _ 1 [.int .u8 1] from rfl) (Reps.none _ _)))
     intro v171 w39 ho40 hb hg_ hnew_
     clear hg_ hnew_
     (first | rw [← Ny170.out] at ho40 | (simp only [Int.reduceToNat] at ho40; rw [← Ny170.out] at ho40))
     have HO172 := am_ (Kd.R_lower ho40 (below_size (qB HB)))
     replace BK164 := bK_ BK164 hb
     replace BK165 := bK_ BK165 hb
     replace HB := bS_ HB hb
     clear hb ho40
     obtain ⟨Ao41, co41, eo41⟩ := Kd.R_slice HO172.out
     (first | subst eo41 | (injection eo41 with f1_ f2_ f3_; have f4_ := f1_.symm; have f5_ := f3_.symm; clear f1_ f2_ f3_; subst f4_; subst f5_))
     refine hK.out _ _ (cz8 BK165.out) (fun hHeld => ?_)
     clear hK K
     refine nm_ (some 27) ?_
     refine two_ (i := 3) (j := 7) (Ni := some 30) (Nj := some 34) (rl [7,2,2,2]) (rl [3,1,4,1,2,2]) rfl rfl rfl rfl (two_of HT_.out (by kernel_rfl)) (by decide) (by decide) (fun K hK => ?_) (fun K hK => ?_)
     ·
      skip
      refine goes_ Try.func106 (by kernel_rfl) rfl #[.slice Ao41 y170.length co41, .int .i64 a0_1] (by rfl) rfl rfl la_ ?_
      with_reducible refine (spec_PutWord.calls _ _ y170 a0_1 t173 _ ?side1 ?side2 A29.out).mono ?_
      (case side1 => exact qC ((Kd.R_reads' HO172.out).2.2))
      (case side2 => exact (Kd.R_reads' HO172.out).2.1)
      rintro e w42 ⟨v174, rfl, ho0, hb⟩
      refine ⟨_, rfl, ?_⟩
      have HO175 := am_ (Kd.R_lower (Kd.R_new' ho0 (Kd.R_lt (qR HO172))) (below_size (qB HB)))
      replace HO172 := eA_ HO172 ho0 hb
      replace BK164 := bK_ BK164 hb
      replace BK165 := bK_ BK165 hb
      replace HB := bS_ HB hb
      (try clear hb ho0)
      refine hK.out _ _ (cz8 BK165.out) (fun hHeld => ?_)
      clear hK K
      refine nm_ (some 30) ?_
      refine on_ HT_ (i := 7) (N := some 34) (rl [8,1,2,2]) (fun K hK => ?_)
      refine Kd.R_lit_step (Kd.int .u8) _ 5 ?hg (N := 34) ?hd (xs := ([(a0_3) % 256] : List Int)) (inner := [.int .u8 ((a0_3) % 256)]) (ok := fun _ => True) (okp := fun _ => True) ?hr ?hp (fun _ hk => hk) trivial (Below.refl _ _) (Nat.le_refl _) (by simp) ?_; (case hd => rfl); (case hg => rfl); (case hr => first | (go_simp; done) | (go_simp; rfl)); (case hp => exact (Reps.one (show Kd.M (Kd.int .u8) _ _ _ ((a0_3) % 256) [.int .u8 ((a0_3) % 256)] from rfl) (Reps.none _ _)))
      intro v177 w43 ho44 hb hg_ hnew_
      clear hg_ hnew_
      (first | rw [← Ny176.out] at ho44 | (simp only [Int.reduceToNat] at ho44; rw [← Ny176.out] at ho44))
      have HO178 := am_ (Kd.R_lower (Kd.R_new' (Kd.R_new' ho44 (Kd.R_lt (qR HO172))) (Kd.R_lt (qR HO175))) (below_size (qB HB)))
      replace HO172 := eA_ HO172 ho44 hb
      replace HO175 := eA_ HO175 ho44 hb
      replace BK164 := bK_ BK164 hb
      replace BK165 := bK_ BK165 hb
      replace HB := bS_ HB hb
      clear hb ho44
      refine hK.out _ _ (cz8 BK165.out) (fun hHeld => ?_)
      clear hK K
      refine nm_ (some 34) ?_
      exact norm_ (by simp only [putAll, Act.put, List.setIfInBounds_toArray, List.set_cons_zero, List.set_cons_succ]) (hCont (.slice Ao41 y170.length co41, v174, v177) _ ⟨hHeld, (xR1_ HO172), (xR1_ HO175), (xR1_ HO178), (qK BK164), (qK BK165), (qB HB)⟩)
     ·
      skip
      refine Kd.R_lit_step (Kd.int .u8) _ 5 ?hg (N := 34) ?hd (xs := ([(a0_3) % 256] : List Int)) (inner := [.int .u8 ((a0_3) % 256)]) (ok := fun _ => True) (okp := fun _ => True) ?hr ?hp (fun _ hk => hk) trivial (Below.refl _ _) (Nat.le_refl _) (by simp) ?_; (case hd => rfl); (case hg => rfl); (case hr => first | (go_simp; done) | (go_simp; rfl)); (case hp => exact (Reps.one (show Kd.M (Kd.int .u8) _ _ _ ((a0_3) % 256) [.int .u8 ((a0_3) % 256)] from rfl) (Reps.none _ _)))
      intro v177 w41 ho42 hb hg_ hnew_
      clear hg_ hnew_
      (first | rw [← Ny176.out] at ho42 | (simp only [Int.reduceToNat] at ho42; rw [← Ny176.out] at ho42))
      have HO178 := am_ (Kd.R_lower (Kd.R_new' ho42 (Kd.R_lt (qR HO172))) (below_size (qB HB)))
      replace HO172 := eA_ HO172 ho42 hb
      replace BK164 := bK_ BK164 hb
      replace BK165 := bK_ BK165 hb
      replace HB := bS_ HB hb
      clear hb ho42
      obtain ⟨Ao43, co43, eo43⟩ := Kd.R_slice HO172.out
      (first | subst eo43 | (injection eo43 with f1_ f2_ f3_; have f4_ := f1_.symm; have f5_ := f3_.symm; clear f1_ f2_ f3_; subst f4_; subst f5_))
      refine hK.out _ _ (cz8 BK165.out) (fun hHeld => ?_)
      clear hK K
      refine nm_ (some 34) ?_
      refine on_ HT_ (i := 3) (N := some 30) (rl [8,1,2,2]) (fun K hK => ?_)
      refine goes_ Try.func106 (by kernel_rfl) rfl #[.slice Ao43 y170.length co43, .int .i64 a0_1] (by rfl) rfl rfl la_ ?_
      with_reducible refine (spec_PutWord.calls _ _ y170 a0_1 t173 _ ?side1 ?side2 A29.out).mono ?_
      (case side1 => exact qC ((Kd.R_reads' HO172.out).2.2))
      (case side2 => exact (Kd.R_reads' HO172.out).2.1)
      rintro e w44 ⟨v174, rfl, ho0, hb⟩
      refine ⟨_, rfl, ?_⟩
      have HO175 := am_ (Kd.R_lower (Kd.R_new' (Kd.R_new' ho0 (Kd.R_lt (qR HO172))) (Kd.R_lt (qR HO178))) (below_size (qB HB)))
      replace HO172 := eA_ HO172 ho0 hb
      replace HO178 := eA_ HO178 ho0 hb
      replace BK164 := bK_ BK164 hb
      replace BK165 := bK_ BK165 hb
      replace HB := bS_ HB hb
      (try clear hb ho0)
      refine hK.out _ _ (cz8 BK165.out) (fun hHeld => ?_)
      clear hK K
      refine nm_ (some 30) ?_
      exact norm_ (by simp only [putAll, Act.put, List.setIfInBounds_toArray, List.set_cons_zero, List.set_cons_succ]) (hCont (.slice Ao43 y170.length co43, v174, v177) _ ⟨hHeld, (xR1_ HO172), (xR1_ HO175), (xR1_ HO178), (qK BK164), (qK BK165), (qB HB)⟩)
    ·
     skip
     refine Kd.R_lit_step (Kd.int .u8) _ 5 ?hg (N := 34) ?hd (xs := ([(a0_3) % 256] : List Int)) (inner := [.int .u8 ((a0_3) % 256)]) (ok := fun _ => True) (okp := fun _ => True) ?hr ?hp (fun _ hk => hk) trivial (Below.refl _ _) (Nat.le_refl _) (by simp) ?_; (case hd => rfl); (case hg => rfl); (case hr => first | (go_simp; done) | (go_simp; rfl)); (case hp => exact (Reps.one (show Kd.M (Kd.int .u8) _ _ _ ((a0_3) % 256) [.int .u8 ((a0_3) % 256)] from rfl) (Reps.none _ _)))
     intro v177 w39 ho40 hb hg_ hnew_
     clear hg_ hnew_
     (first | rw [← Ny176.out] at ho40 | (simp only [Int.reduceToNat] at ho40; rw [← Ny176.out] at ho40))
     have HO178 := am_ (Kd.R_lower ho40 (below_size (qB HB)))
     replace BK164 := bK_ BK164 hb
     replace BK165 := bK_ BK165 hb
     replace HB := bS_ HB hb
     clear hb ho40
     refine hK.out _ _ (cz8 BK165.out) (fun hHeld => ?_)
     clear hK K
     refine nm_ (some 34) ?_
     refine on_ HT_ (i := 0) (N := some 27) (rl [3,1,4,1,2,2]) (fun K hK => ?_)
     refine Kd.R_lit_step (Kd.int .u8) _ 5 ?hg (N := 27) ?hd (xs := ([1] : List Int)) (inner := [.int .u8 1]) (ok := fun _ => True) (okp := fun _ => True) ?hr ?hp (fun _ hk => hk) trivial (Below.refl _ _) (Nat.le_refl _) (by simp) ?_; (case hd => rfl); (case hg => rfl); (case hr => first | (go_simp; done) | (go_simp; rfl)); (case hp => exact (Reps.one (show Kd.M (Kd.int .u8) _ _ _ 1 [.int .u8 1] from rfl) (Reps.none _ _)))
     intro v171 w41 ho42 hb hg_ hnew_
     clear hg_ hnew_
     (first | rw [← Ny170.out] at ho42 | (simp only [Int.reduceToNat] at ho42; rw [← Ny170.out] at ho42))
     have HO172 := am_ (Kd.R_lower (Kd.R_new' ho42 (Kd.R_lt (qR HO178))) (below_size (qB HB)))
     replace HO178 := eA_ HO178 ho42 hb
     replace BK164 := bK_ BK164 hb
     replace BK165 := bK_ BK165 hb
     replace HB := bS_ HB hb
     clear hb ho42
     obtain ⟨Ao43, co43, eo43⟩ := Kd.R_slice HO172.out
     (first | subst eo43 | (injection eo43 with f1_ f2_ f3_; have f4_ := f1_.symm; have f5_ := f3_.symm; clear f1_ f2_ f3_; subst f4_; subst f5_))
     refine hK.out _ _ (cz8 BK165.out) (fun hHeld => ?_)
     clear hK K
     refine nm_ (some 27) ?_
     refine on_ HT_ (i := 3) (N := some 30) (rl [8,1,2,2]) (fun K hK => ?_)
     refine goes_ Try.func106 (by kernel_rfl) rfl #[.slice Ao43 y170.length co43, .int .i64 a0_1] (by rfl) rfl rfl la_ ?_
     with_reducible refine (spec_PutWord.calls _ _ y170 a0_1 t173 _ ?side1 ?side2 A29.out).mono ?_
     (case side1 => exact qC ((Kd.R_reads' HO172.out).2.2))
     (case side2 => exact (Kd.R_reads' HO172.out).2.1)
     rintro e w44 ⟨v174, rfl, ho0, hb⟩
     refine ⟨_, rfl, ?_⟩
     have HO175 := am_ (Kd.R_lower (Kd.R_new' (Kd.R_new' ho0 (Kd.R_lt (qR HO178))) (Kd.R_lt (qR HO172))) (below_size (qB HB)))
     replace HO178 := eA_ HO178 ho0 hb
     replace HO172 := eA_ HO172 ho0 hb
     replace BK164 := bK_ BK164 hb
     replace BK165 := bK_ BK165 hb
     replace HB := bS_ HB hb
     (try clear hb ho0)
     refine hK.out _ _ (cz8 BK165.out) (fun hHeld => ?_)
     clear hK K
     refine nm_ (some 30) ?_
     exact norm_ (by simp only [putAll, Act.put, List.setIfInBounds_toArray, List.set_cons_zero, List.set_cons_succ]) (hCont (.slice Ao43 y170.length co43, v174, v177) _ ⟨hHeld, (xR1_ HO172), (xR1_ HO175), (xR1_ HO178), (qK BK164), (qK BK165), (qB HB)⟩)
   rintro ⟨v171, v174, v177⟩ w45 ⟨hS_, h0_, h1_, h2_, h3_, h4_, h5_⟩
   have n0_ : Aside0 (Kd.R (Kd.int .u8) 5 w45 w.heap.size (fun k_ => nv v174 k_ ∧ nv v177 k_) v171 y170) := ⟨h0_⟩
   have n1_ : Aside0 (Kd.R (Kd.int .u8) 5 w45 w.heap.size (fun k_ => nv v171 k_ ∧ nv v177 k_) v174 t173) := ⟨h1_⟩
   have n2_ : Aside0 (Kd.R (Kd.int .u8) 5 w45 w.heap.size (fun k_ => nv v171 k_ ∧ nv v174 k_) v177 y176) := ⟨h2_⟩
   have n3_ : Aside0 (w45.heap[gb164]? = some (.cells #[.int .i64 a0_0, .int .i64 a0_1, .string a0_2, .int .i64 a0_3, .int .i64 a0_4, .int .i64 a0_5, .string a0_6, .int .i64 a0_7, .int .i64 a0_8, .int .i64 a0_9, .string a0_10, .int .i64 a0_11, .int .i64 a0_12, .int .i64 a0_13, .int .i64 a0_14, .int .i64 a0_15] 126 (0, 0))) := ⟨h3_⟩
   have n4_ : Aside0 (w45.heap[gb165]? = some (.cells #[.int .i64 a0_1, .string a0_2, .int .i64 a0_3, .int .i64 a0_4, .int .i64 a0_5, .string a0_6, .int .i64 a0_7, .int .i64 a0_8] 90 (0, 0))) := ⟨h4_⟩
   have n5_ : Aside0 (Below w.heap.size w w45) := ⟨h5_⟩
   clear BK164
   clear BK165
   clear HB
   clear h0_ h1_ h2_ h3_ h4_ h5_
   have HO172 := n0_
   have HO175 := n1_
   have HO178 := n2_
   have BK164 := n3_
   have BK165 := n4_
   have HB := n5_
   clear n0_ n1_ n2_ n3_ n4_ n5_
   have hHeld : w45.cell? ⟨gb165, 0, none⟩ = some (.int .i64 a0_1) ∧ w45.cell? ⟨gb165, 1, none⟩ = some (.string a0_2) ∧ w45.cell? ⟨gb165, 2, none⟩ = some (.int .i64 a0_3) ∧ w45.cell? ⟨gb165, 3, none⟩ = some (.int .i64 a0_4) ∧ w45.cell? ⟨gb165, 4, none⟩ = some (.int .i64 a0_5) ∧ w45.cell? ⟨gb165, 5, none⟩ = some (.string a0_6) ∧ w45.cell? ⟨gb165, 6, none⟩ = some (.int .i64 a0_7) ∧ w45.cell? ⟨gb165, 7, none⟩ = some (.int .i64 a0_8) := hS_
   obtain ⟨Ao47, co47, eo47⟩ := Kd.R_slice HO178.out
   (first | subst eo47 | (injection eo47 with f1_ f2_ f3_; have f4_ := f1_.symm; have f5_ := f3_.symm; clear f1_ f2_ f3_; subst f4_; subst f5_))
   refine norm_ (a' := ?_) ?_ ?_
   rotate_left
   ·
    simp only [putAll, Act.put, List.setIfInBounds_toArray, List.set_cons_zero, List.set_cons_succ]
    rfl
   refine on_ HT_ (i := 8) (N := some 35) (rl [11,2]) (fun K hK => ?_)
   refine Kd.R_append_rows_step (Kd.int .u8) (w0 := w) w.heap.size (by rfl) (.tmp 30) (.tmp 34) 70 5 (.int .u8 0) 1 rfl Try.underlying70 info5 rfl (by decide) (by omega) v174 t173 y176 _ _ _ (fun k_ => nv v171 k_ ∧ nb Ao47 y176.length co47 k_) (fun _ => False) rfl rfl ?aO ?aR (fun _ _ h => h) (fun _ h => h.elim) ?aF ?aB ?aS ?aL ?_
   (case aR => exact qC ((Kd.R_reads' HO178.out).2.2))
   (case aB => exact (qB HB))
   (case aF => exact (fun k_ hk => ⟨Kd.fresh' (Kd.R_lt (qR HO172)) k_ hk, Kd.fresh' (Kd.R_lt (qR HO178)) k_ hk⟩))
   (case aO => exact (qR HO175))
   (case aS => exact (below_size (qB HB)))
   (case aL => have := LMc30.out; omega)
   intro v180 w46 ho hb hg hat
   rw [← Ny179.out] at ho
   replace BK164 := kG_ BK164 HO175 hg
   replace BK165 := kG_ BK165 HO175 hg
   replace HO172 := am_ (Kd.R_after (ok := (fun k_ => nb Ao47 y176.length co47 k_)) (xR1_ HO172) hg hat)
   replace HO178 := aR_ HO178 hg hat
   replace HB := am_ (hb)
   have HO181 := am_ (ho)
   clear HO175
   clear ho hb hg hat
   obtain ⟨Ao48, co48, eo48⟩ := Kd.R_slice HO181.out
   (first | subst eo48 | (injection eo48 with f1_ f2_ f3_; have f4_ := f1_.symm; have f5_ := f3_.symm; clear f1_ f2_ f3_; subst f4_; subst f5_))
   refine hK.out _ _ (cz8 BK165.out) (fun hHeld => ?_)
   clear hK K
   refine nm_ (some 35) ?_
   refine on_ HT_ (i := 11) (N := some 38) (rl [12,1]) (fun K hK => ?_)
   refine goes_ Try.func123 (by kernel_rfl) rfl #[.slice Ao48 y179.length co48, .string a0_2] (by rfl) rfl rfl la_ ?_
   with_reducible refine (spec_PutText.calls kj5 _ _ y179 a0_2 t182 _ ?side1 ?side2 A31.out).mono ?_
   (case side1 => exact qC ((Kd.R_reads' HO181.out).2.2))
   (case side2 => exact (Kd.R_reads' HO181.out).2.1)
   rintro e w49 ⟨v183, rfl, ho0, hb⟩
   refine ⟨_, rfl, ?_⟩
   have HO184 := am_ (Kd.R_lower (Kd.R_new' (Kd.R_new' (Kd.R_new' ho0 (Kd.R_lt (qR HO172))) (Kd.R_lt (qR HO178))) (Kd.R_lt (qR HO181))) (below_size (qB HB)))
   replace HO172 := eA_ HO172 ho0 hb
   replace HO178 := eA_ HO178 ho0 hb
   replace HO181 := eA_ HO181 ho0 hb
   replace BK164 := bK_ BK164 hb
   replace BK165 := bK_ BK165 hb
   replace HB := bS_ HB hb
   (try clear hb ho0)
   refine hK.out _ _ (cz8 BK165.out) (fun hHeld => ?_)
   clear hK K
   refine nm_ (some 38) ?_
   refine pq_ 12 4 HT_ (rl [13]) ?_
   refine done_ (done_of HT_.out (by kernel_rfl)) ?_
   obtain ⟨Ao50, co50, eo50⟩ := Kd.R_slice HO184.out
   subst eo50
   try go_wp2
   replace HO172 := am_ (Kd.R_drew HO172.out)
   replace HO178 := am_ (Kd.R_drew HO178.out)
   replace HO181 := am_ (Kd.R_drew HO181.out)
   replace HO184 := am_ (Kd.R_drew HO184.out)
   replace BK164 := am_ (blk_drew BK164.out)
   replace BK165 := am_ (blk_drew BK165.out)
   replace HB := am_ (below_drew1 HB.out)
   refine start_ (n := 15) (S := fun w' => w'.cell? ⟨gb165, 0, none⟩ = some (.int .i64 a0_1) ∧ w'.cell? ⟨gb165, 1, none⟩ = some (.string a0_2) ∧ w'.cell? ⟨gb165, 2, none⟩ = some (.int .i64 a0_3) ∧ w'.cell? ⟨gb165, 3, none⟩ = some (.int .i64 a0_4) ∧ w'.cell? ⟨gb165, 4, none⟩ = some (.int .i64 a0_5) ∧ w'.cell? ⟨gb165, 5, none⟩ = some (.string a0_6) ∧ w'.cell? ⟨gb165, 6, none⟩ = some (.int .i64 a0_7) ∧ w'.cell? ⟨gb165, 7, none⟩ = some (.int .i64 a0_8)) (ds := []) (rl [0,15]) (by kernel_rfl) rfl rfl (cz8 BK165.out) (fun hHeld => ?_); refine with_tabW spec_PutItem.tab6 spec_PutItem.bits6 (fun HT_ HW_ => ?_)
   generalize w49.drew = w51 at HO172 HO178 HO181 HO184 BK164 BK165 HB hHeld ⊢
   refine pq_ 0 39 HT_ (rl [1,14]) ?_
   refine pq_ 1 40 HT_ (rl [2,13]) ?_
   refine pq_ 4 43 HT_ (rl [2,2,1,10]) ?_
   refine pq_ 8 47 HT_ (rl [2,2,1,3,1,6]) ?_
   refine tz_ (i := 2) (N := some 41) HT_ HW_ (rl [3,1,1,3,1,6]) rfl rfl hHeld ?_
   refine tz_ (i := 5) (N := some 44) HT_ HW_ (rl [3,1,2,2,1,6]) rfl rfl hHeld ?_
   refine pq_ 6 45 HT_ (rl [3,1,3,1,1,6]) ?_
   refine tz_ (i := 9) (N := some 48) HT_ HW_ (rl [3,1,3,1,2,5]) rfl rfl hHeld ?_
   refine pq_ 10 49 HT_ (rl [3,1,3,1,3,4]) ?_
   refine pq_ 11 50 HT_ (rl [3,1,3,1,4,3]) ?_
   refine join_ (σ := Value × Value × Value) 2 (rl [13,2]) (fun s_ => [(42, s_.1), (46, s_.2.1), (51, s_.2.2)]) (fun s_ w' => (w'.cell? ⟨gb165, 0, none⟩ = some (.int .i64 a0_1) ∧ w'.cell? ⟨gb165, 1, none⟩ = some (.string a0_2) ∧ w'.cell? ⟨gb165, 2, none⟩ = some (.int .i64 a0_3) ∧ w'.cell? ⟨gb165, 3, none⟩ = some (.int .i64 a0_4) ∧ w'.cell? ⟨gb165, 4, none⟩ = some (.int .i64 a0_5) ∧ w'.cell? ⟨gb165, 5, none⟩ = some (.string a0_6) ∧ w'.cell? ⟨gb165, 6, none⟩ = some (.int .i64 a0_7) ∧ w'.cell? ⟨gb165, 7, none⟩ = some (.int .i64 a0_8)) ∧ (Kd.R (Kd.int .u8) 5 w' w.heap.size (fun k_ => nb Ao47 y176.length co47 k_ ∧ nb Ao48 y179.length co48 k_ ∧ nb Ao50 t182.length co50 k_ ∧ some k_ ≠ (s_.1 : Value).ownBlock ∧ some k_ ≠ (s_.2.1 : Value).ownBlock ∧ some k_ ≠ (s_.2.2 : Value).ownBlock) v171 y170) ∧ (Kd.R (Kd.int .u8) 5 w' w.heap.size (fun k_ => nv v171 k_ ∧ nb Ao48 y179.length co48 k_ ∧ nb Ao50 t182.length co50 k_ ∧ some k_ ≠ (s_.1 : Value).ownBlock ∧ some k_ ≠ (s_.2.1 : Value).ownBlock ∧ some k_ ≠ (s_.2.2 : Value).ownBlock) (.slice Ao47 y176.length co47) y176) ∧ (Kd.R (Kd.int .u8) 5 w' w.heap.size (fun k_ => nv v171 k_ ∧ nb Ao47 y176.length co47 k_ ∧ nb Ao50 t182.length co50 k_ ∧ some k_ ≠ (s_.1 : Value).ownBlock ∧ some k_ ≠ (s_.2.1 : Value).ownBlock ∧ some k_ ≠ (s_.2.2 : Value).ownBlock) (.slice Ao48 y179.length co48) y179) ∧ (Kd.R (Kd.int .u8) 5 w' w.heap.size (fun k_ => nv v171 k_ ∧ nb Ao47 y176.length co47 k_ ∧ nb Ao48 y179.length co48 k_ ∧ some k_ ≠ (s_.1 : Value).ownBlock ∧ some k_ ≠ (s_.2.1 : Value).ownBlock ∧ some k_ ≠ (s_.2.2 : Value).ownBlock) (.slice Ao50 t182.length co50) t182) ∧ (Kd.R (Kd.int .u8) 5 w' w.heap.size (fun k_ => nv v171 k_ ∧ nb Ao47 y176.length co47 k_ ∧ nb Ao48 y179.length co48 k_ ∧ nb Ao50 t182.length co50 k_ ∧ some k_ ≠ (s_.2.1 : Value).ownBlock ∧ some k_ ≠ (s_.2.2 : Value).ownBlock) s_.1 t185) ∧ (Kd.R (Kd.int .u8) 5 w' w.heap.size (fun k_ => nv v171 k_ ∧ nb Ao47 y176.length co47 k_ ∧ nb Ao48 y179.length co48 k_ ∧ nb Ao50 t182.length co50 k_ ∧ some k_ ≠ (s_.1 : Value).ownBlock ∧ some k_ ≠ (s_.2.2 : Value).ownBlock) s_.2.1 t188) ∧ (Kd.R (Kd.int .u8) 5 w' w.heap.size (fun k_ => nv v171 k_ ∧ nb Ao47 y176.length co47 k_ ∧ nb Ao48 y179.length co48 k_ ∧ nb Ao50 t182.length co50 k_ ∧ some k_ ≠ (s_.1 : Value).ownBlock ∧ some k_ ≠ (s_.2.1 : Value).ownBlock) s_.2.2 y191) ∧ (w'.heap[gb164]? = some (.cells #[.int .i64 a0_0, .int .i64 a0_1, .string a0_2, .int .i64 a0_3, .int .i64 a0_4, .int .i64 a0_5, .string a0_6, .int .i64 a0_7, .int .i64 a0_8, .int .i64 a0_9, .string a0_10, .int .i64 a0_11, .int .i64 a0_12, .int .i64 a0_13, .int .i64 a0_14, .int .i64 a0_15] 126 (0, 0))) ∧ (w'.heap[gb165]? = some (.cells #[.int .i64 a0_1, .string a0_2, .int .i64 a0_3, .int .i64 a0_4, .int .i64 a0_5, .string a0_6, .int .i64 a0_7, .int .i64 a0_8] 90 (0, 0))) ∧ (Below w.heap.size w w')) ?_ ?_
   rotate_left
   ·
    intro hCont
    refine two_ (i := 3) (j := 12) (Ni := some 42) (Nj := some 51) (rl [7,1,4,3]) (rl [3,1,3,1,5,2]) rfl rfl rfl rfl (two_of HT_.out (by kernel_rfl)) (by decide) (by decide) (fun K hK => ?_) (fun K hK => ?_)
    ·
     skip
     refine goes_ Try.func106 (by kernel_rfl) rfl #[.slice Ao50 t182.length co50, .int .i64 a0_4] (by rfl) rfl rfl la_ ?_
     with_reducible refine (spec_PutWord.calls _ _ t182 a0_4 t185 _ ?side1 ?side2 A32.out).mono ?_
     (case side1 => exact qC ((Kd.R_reads' HO184.out).2.2))
     (case side2 => exact (Kd.R_reads' HO184.out).2.1)
     rintro e w52 ⟨v186, rfl, ho0, hb⟩
     refine ⟨_, rfl, ?_⟩
     have HO187 := am_ (Kd.R_lower (Kd.R_new' (Kd.R_new' (Kd.R_new' (Kd.R_new' ho0 (Kd.R_lt (qR HO172))) (Kd.R_lt (qR HO178))) (Kd.R_lt (qR HO181))) (Kd.R_lt (qR HO184))) (below_size (qB HB)))
     replace HO172 := eA_ HO172 ho0 hb
     replace HO178 := eA_ HO178 ho0 hb
     replace HO181 := eA_ HO181 ho0 hb
     replace HO184 := eA_ HO184 ho0 hb
     replace BK164 := bK_ BK164 hb
     replace BK165 := bK_ BK165 hb
     replace HB := bS_ HB hb
     (try clear hb ho0)
     obtain ⟨Ao53, co53, eo53⟩ := Kd.R_slice HO187.out
     (first | subst eo53 | (injection eo53 with f1_ f2_ f3_; have f4_ := f1_.symm; have f5_ := f3_.symm; clear f1_ f2_ f3_; subst f4_; subst f5_))
     refine hK.out _ _ (cz8 BK165.out) (fun hHeld => ?_)
     clear hK K
     refine nm_ (some 42) ?_
     refine two_ (i := 7) (j := 12) (Ni := some 46) (Nj := some 51) (rl [12,3]) (rl [7,1,5,2]) rfl rfl rfl rfl (two_of HT_.out (by kernel_rfl)) (by decide) (by decide) (fun K hK => ?_) (fun K hK => ?_)
     ·
      skip
      refine goes_ Try.func106 (by kernel_rfl) rfl #[.slice Ao53 t185.length co53, .int .i64 (wrap64 (Int.tdiv a0_5 256))] (by rfl) rfl rfl la_ ?_
      with_reducible refine (spec_PutWord.calls _ _ t185 (wrap64 (Int.tdiv a0_5 256)) t188 _ ?side1 ?side2 A33.out).mono ?_
      (case side1 => exact qC ((Kd.R_reads' HO187.out).2.2))
      (case side2 => exact (Kd.R_reads' HO187.out).2.1)
      rintro e w54 ⟨v189, rfl, ho0, hb⟩
      refine ⟨_, rfl, ?_⟩
      have HO190 := am_ (Kd.R_lower (Kd.R_new' (Kd.R_new' (Kd.R_new' (Kd.R_new' (Kd.R_new' ho0 (Kd.R_lt (qR HO172))) (Kd.R_lt (qR HO178))) (Kd.R_lt (qR HO181))) (Kd.R_lt (qR HO184))) (Kd.R_lt (qR HO187))) (below_size (qB HB)))
      replace HO172 := eA_ HO172 ho0 hb
      replace HO178 := eA_ HO178 ho0 hb
      replace HO181 := eA_ HO181 ho0 hb
      replace HO184 := eA_ HO184 ho0 hb
      replace HO187 := eA_ HO187 ho0 hb
      replace BK164 := bK_ BK164 hb
      replace BK165 := bK_ BK165 hb
      replace HB := bS_ HB hb
      (try clear hb ho0)
      refine hK.out _ _ (cz8 BK165.out) (fun hHeld => ?_)
      clear hK K
      refine nm_ (some 46) ?_
      refine on_ HT_ (i := 12) (N := some 51) (rl [13,2]) (fun K hK => ?_)
      refine Kd.R_lit_step (Kd.int .u8) _ 5 ?hg (N := 51) ?hd (xs := ([(Int.tmod a0_5 256) % 256] : List Int)) (inner := [.int .u8 ((Int.tmod a0_5 256) % 256)]) (ok := fun _ => True) (okp := fun _ => True) ?hr ?hp (fun _ hk => hk) trivial (Below.refl _ _) (Nat.le_refl _) (by simp) ?_; (case hd => rfl); (case hg => rfl); (case hr => first | (go_simp; done) | (go_simp; rfl)); (case hp => exact (Reps.one (show Kd.M (Kd.int .u8) _ _ _ ((Int.tmod a0_5 256) % 256) [.int .u8 ((Int.tmod a0_5 256) % 256)] from rfl) (Reps.none _ _)))
      intro v192 w55 ho56 hb hg_ hnew_
      clear hg_ hnew_
      (first | rw [← Ny191.out] at ho56 | (simp only [Int.reduceToNat] at ho56; rw [← Ny191.out] at ho56))
      have HO193 := am_ (Kd.R_lower (Kd.R_new' (Kd.R_new' (Kd.R_new' (Kd.R_new' (Kd.R_new' (Kd.R_new' ho56 (Kd.R_lt (qR HO172))) (Kd.R_lt (qR HO178))) (Kd.R_lt (qR HO181))) (Kd.R_lt (qR HO184))) (Kd.R_lt (qR HO187))) (Kd.R_lt (qR HO190))) (below_size (qB HB)))
      replace HO172 := eA_ HO172 ho56 hb
      replace HO178 := eA_ HO178 ho56 hb
      replace HO181 := eA_ HO181 ho56 hb
      replace HO184 := eA_ HO184 ho56 hb
      replace HO187 := eA_ HO187 ho56 hb
      replace HO190 := eA_ HO190 ho56 hb
      replace BK164 := bK_ BK164 hb
      replace BK165 := bK_ BK165 hb
      replace HB := bS_ HB hb
      clear hb ho56
      refine hK.out _ _ (cz8 BK165.out) (fun hHeld => ?_)
      clear hK K
      refine nm_ (some 51) ?_
      exact norm_ (by simp only [putAll, Act.put, List.setIfInBounds_toArray, List.set_cons_zero, List.set_cons_succ]) (hCont (.slice Ao53 t185.length co53, v189, v192) _ ⟨hHeld, (xR1_ HO172), (xR1_ HO178), (xR1_ HO181), (xR1_ HO184), (xR1_ HO187), (xR1_ HO190), (xR1_ HO193), (qK BK164), (qK BK165), (qB HB)⟩)
     ·
      skip
      refine Kd.R_lit_step (Kd.int .u8) _ 5 ?hg (N := 51) ?hd (xs := ([(Int.tmod a0_5 256) % 256] : List Int)) (inner := [.int .u8 ((Int.tmod a0_5 256) % 256)]) (ok := fun _ => True) (okp := fun _ => True) ?hr ?hp (fun _ hk => hk) trivial (Below.refl _ _) (Nat.le_refl _) (by simp) ?_; (case hd => rfl); (case hg => rfl); (case hr => first | (go_simp; done) | (go_simp; rfl)); (case hp => exact (Reps.one (show Kd.M (Kd.int .u8) _ _ _ ((Int.tmod a0_5 256) % 256) [.int .u8 ((Int.tmod a0_5 256) % 256)] from rfl) (Reps.none _ _)))
      intro v192 w53 ho54 hb hg_ hnew_
      clear hg_ hnew_
      (first | rw [← Ny191.out] at ho54 | (simp only [Int.reduceToNat] at ho54; rw [← Ny191.out] at ho54))
      have HO193 := am_ (Kd.R_lower (Kd.R_new' (Kd.R_new' (Kd.R_new' (Kd.R_new' (Kd.R_new' ho54 (Kd.R_lt (qR HO172))) (Kd.R_lt (qR HO178))) (Kd.R_lt (qR HO181))) (Kd.R_lt (qR HO184))) (Kd.R_lt (qR HO187))) (below_size (qB HB)))
      replace HO172 := eA_ HO172 ho54 hb
      replace HO178 := eA_ HO178 ho54 hb
      replace HO181 := eA_ HO181 ho54 hb
      replace HO184 := eA_ HO184 ho54 hb
      replace HO187 := eA_ HO187 ho54 hb
      replace BK164 := bK_ BK164 hb
      replace BK165 := bK_ BK165 hb
      replace HB := bS_ HB hb
      clear hb ho54
      obtain ⟨Ao55, co55, eo55⟩ := Kd.R_slice HO187.out
      (first | subst eo55 | (injection eo55 with f1_ f2_ f3_; have f4_ := f1_.symm; have f5_ := f3_.symm; clear f1_ f2_ f3_; subst f4_; subst f5_))
      refine hK.out _ _ (cz8 BK165.out) (fun hHeld => ?_)
      clear hK K
      refine nm_ (some 51) ?_
      refine on_ HT_ (i := 7) (N := some 46) (rl [13,2]) (fun K hK => ?_)
      refine goes_ Try.func106 (by kernel_rfl) rfl #[.slice Ao55 t185.length co55, .int .i64 (wrap64 (Int.tdiv a0_5 256))] (by rfl) rfl rfl la_ ?_
      with_reducible refine (spec_PutWord.calls _ _ t185 (wrap64 (Int.tdiv a0_5 256)) t188 _ ?side1 ?side2 A33.out).mono ?_
      (case side1 => exact qC ((Kd.R_reads' HO187.out).2.2))
      (case side2 => exact (Kd.R_reads' HO187.out).2.1)
      rintro e w56 ⟨v189, rfl, ho0, hb⟩
      refine ⟨_, rfl, ?_⟩
      have HO190 := am_ (Kd.R_lower (Kd.R_new' (Kd.R_new' (Kd.R_new' (Kd.R_new' (Kd.R_new' (Kd.R_new' ho0 (Kd.R_lt (qR HO172))) (Kd.R_lt (qR HO178))) (Kd.R_lt (qR HO181))) (Kd.R_lt (qR HO184))) (Kd.R_lt (qR HO187))) (Kd.R_lt (qR HO193))) (below_size (qB HB)))
      replace HO172 := eA_ HO172 ho0 hb
      replace HO178 := eA_ HO178 ho0 hb
      replace HO181 := eA_ HO181 ho0 hb
      replace HO184 := eA_ HO184 ho0 hb
      replace HO187 := eA_ HO187 ho0 hb
      replace HO193 := eA_ HO193 ho0 hb
      replace BK164 := bK_ BK164 hb
      replace BK165 := bK_ BK165 hb
      replace HB := bS_ HB hb
      (try clear hb ho0)
      refine hK.out _ _ (cz8 BK165.out) (fun hHeld => ?_)
      clear hK K
      refine nm_ (some 46) ?_
      exact norm_ (by simp only [putAll, Act.put, List.setIfInBounds_toArray, List.set_cons_zero, List.set_cons_succ]) (hCont (.slice Ao55 t185.length co55, v189, v192) _ ⟨hHeld, (xR1_ HO172), (xR1_ HO178), (xR1_ HO181), (xR1_ HO184), (xR1_ HO187), (xR1_ HO190), (xR1_ HO193), (qK BK164), (qK BK165), (qB HB)⟩)
    ·
     skip
     refine Kd.R_lit_step (Kd.int .u8) _ 5 ?hg (N := 51) ?hd (xs := ([(Int.tmod a0_5 256) % 256] : List Int)) (inner := [.int .u8 ((Int.tmod a0_5 256) % 256)]) (ok := fun _ => True) (okp := fun _ => True) ?hr ?hp (fun _ hk => hk) trivial (Below.refl _ _) (Nat.le_refl _) (by simp) ?_; (case hd => rfl); (case hg => rfl); (case hr => first | (go_simp; done) | (go_simp; rfl)); (case hp => exact (Reps.one (show Kd.M (Kd.int .u8) _ _ _ ((Int.tmod a0_5 256) % 256) [.int .u8 ((Int.tmod a0_5 256) % 256)] from rfl) (Reps.none _ _)))
     intro v192 w52 ho53 hb hg_ hnew_
     clear hg_ hnew_
     (first | rw [← Ny191.out] at ho53 | (simp only [Int.reduceToNat] at ho53; rw [← Ny191.out] at ho53))
     have HO193 := am_ (Kd.R_lower (Kd.R_new' (Kd.R_new' (Kd.R_new' (Kd.R_new' ho53 (Kd.R_lt (qR HO172))) (Kd.R_lt (qR HO178))) (Kd.R_lt (qR HO181))) (Kd.R_lt (qR HO184))) (below_size (qB HB)))
     replace HO172 := eA_ HO172 ho53 hb
     replace HO178 := eA_ HO178 ho53 hb
     replace HO181 := eA_ HO181 ho53 hb
     replace HO184 := eA_ HO184 ho53 hb
     replace BK164 := bK_ BK164 hb
     replace BK165 := bK_ BK165 hb
     replace HB := bS_ HB hb
     clear hb ho53
     refine hK.out _ _ (cz8 BK165.out) (fun hHeld => ?_)
     clear hK K
     refine nm_ (some 51) ?_
     refine on_ HT_ (i := 3) (N := some 42) (rl [7,1,5,2]) (fun K hK => ?_)
     refine goes_ Try.func106 (by kernel_rfl) rfl #[.slice Ao50 t182.length co50, .int .i64 a0_4] (by rfl) rfl rfl la_ ?_
     with_reducible refine (spec_PutWord.calls _ _ t182 a0_4 t185 _ ?side1 ?side2 A32.out).mono ?_
     (case side1 => exact qC ((Kd.R_reads' HO184.out).2.2))
     (case side2 => exact (Kd.R_reads' HO184.out).2.1)
     rintro e w54 ⟨v186, rfl, ho0, hb⟩
     refine ⟨_, rfl, ?_⟩
     have HO187 := am_ (Kd.R_lower (Kd.R_new' (Kd.R_new' (Kd.R_new' (Kd.R_new' (Kd.R_new' ho0 (Kd.R_lt (qR HO172))) (Kd.R_lt (qR HO178))) (Kd.R_lt (qR HO181))) (Kd.R_lt (qR HO184))) (Kd.R_lt (qR HO193))) (below_size (qB HB)))
     replace HO172 := eA_ HO172 ho0 hb
     replace HO178 := eA_ HO178 ho0 hb
     replace HO181 := eA_ HO181 ho0 hb
     replace HO184 := eA_ HO184 ho0 hb
     replace HO193 := eA_ HO193 ho0 hb
     replace BK164 := bK_ BK164 hb
     replace BK165 := bK_ BK165 hb
     replace HB := bS_ HB hb
     (try clear hb ho0)
     obtain ⟨Ao55, co55, eo55⟩ := Kd.R_slice HO187.out
     (first | subst eo55 | (injection eo55 with f1_ f2_ f3_; have f4_ := f1_.symm; have f5_ := f3_.symm; clear f1_ f2_ f3_; subst f4_; subst f5_))
     refine hK.out _ _ (cz8 BK165.out) (fun hHeld => ?_)
     clear hK K
     refine nm_ (some 42) ?_
     refine on_ HT_ (i := 7) (N := some 46) (rl [13,2]) (fun K hK => ?_)
     refine goes_ Try.func106 (by kernel_rfl) rfl #[.slice Ao55 t185.length co55, .int .i64 (wrap64 (Int.tdiv a0_5 256))] (by rfl) rfl rfl la_ ?_
     with_reducible refine (spec_PutWord.calls _ _ t185 (wrap64 (Int.tdiv a0_5 256)) t188 _ ?side1 ?side2 A33.out).mono ?_
     (case side1 => exact qC ((Kd.R_reads' HO187.out).2.2))
     (case side2 => exact (Kd.R_reads' HO187.out).2.1)
     rintro e w56 ⟨v189, rfl, ho0, hb⟩
     refine ⟨_, rfl, ?_⟩
     have HO190 := am_ (Kd.R_lower (Kd.R_new' (Kd.R_new' (Kd.R_new' (Kd.R_new' (Kd.R_new' (Kd.R_new' ho0 (Kd.R_lt (qR HO172))) (Kd.R_lt (qR HO178))) (Kd.R_lt (qR HO181))) (Kd.R_lt (qR HO184))) (Kd.R_lt (qR HO193))) (Kd.R_lt (qR HO187))) (below_size (qB HB)))
     replace HO172 := eA_ HO172 ho0 hb
     replace HO178 := eA_ HO178 ho0 hb
     replace HO181 := eA_ HO181 ho0 hb
     replace HO184 := eA_ HO184 ho0 hb
     replace HO193 := eA_ HO193 ho0 hb
     replace HO187 := eA_ HO187 ho0 hb
     replace BK164 := bK_ BK164 hb
     replace BK165 := bK_ BK165 hb
     replace HB := bS_ HB hb
     (try clear hb ho0)
     refine hK.out _ _ (cz8 BK165.out) (fun hHeld => ?_)
     clear hK K
     refine nm_ (some 46) ?_
     exact norm_ (by simp only [putAll, Act.put, List.setIfInBounds_toArray, List.set_cons_zero, List.set_cons_succ]) (hCont (.slice Ao55 t185.length co55, v189, v192) _ ⟨hHeld, (xR1_ HO172), (xR1_ HO178), (xR1_ HO181), (xR1_ HO184), (xR1_ HO187), (xR1_ HO190), (xR1_ HO193), (qK BK164), (qK BK165), (qB HB)⟩)
   rintro ⟨v186, v189, v192⟩ w57 ⟨hS_, h0_, h1_, h2_, h3_, h4_, h5_, h6_, h7_, h8_, h9_⟩
   have n0_ : Aside0 (Kd.R (Kd.int .u8) 5 w57 w.heap.size (fun k_ => nb Ao47 y176.length co47 k_ ∧ nb Ao48 y179.length co48 k_ ∧ nb Ao50 t182.length co50 k_ ∧ nv v186 k_ ∧ nv v189 k_ ∧ nv v192 k_) v171 y170) := ⟨h0_⟩
   have n1_ : Aside0 (Kd.R (Kd.int .u8) 5 w57 w.heap.size (fun k_ => nv v171 k_ ∧ nb Ao48 y179.length co48 k_ ∧ nb Ao50 t182.length co50 k_ ∧ nv v186 k_ ∧ nv v189 k_ ∧ nv v192 k_) (.slice Ao47 y176.length co47) y176) := ⟨h1_⟩
   have n2_ : Aside0 (Kd.R (Kd.int .u8) 5 w57 w.heap.size (fun k_ => nv v171 k_ ∧ nb Ao47 y176.length co47 k_ ∧ nb Ao50 t182.length co50 k_ ∧ nv v186 k_ ∧ nv v189 k_ ∧ nv v192 k_) (.slice Ao48 y179.length co48) y179) := ⟨h2_⟩
   have n3_ : Aside0 (Kd.R (Kd.int .u8) 5 w57 w.heap.size (fun k_ => nv v171 k_ ∧ nb Ao47 y176.length co47 k_ ∧ nb Ao48 y179.length co48 k_ ∧ nv v186 k_ ∧ nv v189 k_ ∧ nv v192 k_) (.slice Ao50 t182.length co50) t182) := ⟨h3_⟩
   have n4_ : Aside0 (Kd.R (Kd.int .u8) 5 w57 w.heap.size (fun k_ => nv v171 k_ ∧ nb Ao47 y176.length co47 k_ ∧ nb Ao48 y179.length co48 k_ ∧ nb Ao50 t182.length co50 k_ ∧ nv v189 k_ ∧ nv v192 k_) v186 t185) := ⟨h4_⟩
   have n5_ : Aside0 (Kd.R (Kd.int .u8) 5 w57 w.heap.size (fun k_ => nv v171 k_ ∧ nb Ao47 y176.length co47 k_ ∧ nb Ao48 y179.length co48 k_ ∧ nb Ao50 t182.length co50 k_ ∧ nv v186 k_ ∧ nv v192 k_) v189 t188) := ⟨h5_⟩
   have n6_ : Aside0 (Kd.R (Kd.int .u8) 5 w57 w.heap.size (fun k_ => nv v171 k_ ∧ nb Ao47 y176.length co47 k_ ∧ nb Ao48 y179.length co48 k_ ∧ nb Ao50 t182.length co50 k_ ∧ nv v186 k_ ∧ nv v189 k_) v192 y191) := ⟨h6_⟩
   have n7_ : Aside0 (w57.heap[gb164]? = some (.cells #[.int .i64 a0_0, .int .i64 a0_1, .string a0_2, .int .i64 a0_3, .int .i64 a0_4, .int .i64 a0_5, .string a0_6, .int .i64 a0_7, .int .i64 a0_8, .int .i64 a0_9, .string a0_10, .int .i64 a0_11, .int .i64 a0_12, .int .i64 a0_13, .int .i64 a0_14, .int .i64 a0_15] 126 (0, 0))) := ⟨h7_⟩
   have n8_ : Aside0 (w57.heap[gb165]? = some (.cells #[.int .i64 a0_1, .string a0_2, .int .i64 a0_3, .int .i64 a0_4, .int .i64 a0_5, .string a0_6, .int .i64 a0_7, .int .i64 a0_8] 90 (0, 0))) := ⟨h8_⟩
   have n9_ : Aside0 (Below w.heap.size w w57) := ⟨h9_⟩
   clear HO172
   clear HO178
   clear HO181
   clear HO184
   clear BK164
   clear BK165
   clear HB
   clear h0_ h1_ h2_ h3_ h4_ h5_ h6_ h7_ h8_ h9_
   have HO172 := n0_
   have HO178 := n1_
   have HO181 := n2_
   have HO184 := n3_
   have HO187 := n4_
   have HO190 := n5_
   have HO193 := n6_
   have BK164 := n7_
   have BK165 := n8_
   have HB := n9_
   clear n0_ n1_ n2_ n3_ n4_ n5_ n6_ n7_ n8_ n9_
   have hHeld : w57.cell? ⟨gb165, 0, none⟩ = some (.int .i64 a0_1) ∧ w57.cell? ⟨gb165, 1, none⟩ = some (.string a0_2) ∧ w57.cell? ⟨gb165, 2, none⟩ = some (.int .i64 a0_3) ∧ w57.cell? ⟨gb165, 3, none⟩ = some (.int .i64 a0_4) ∧ w57.cell? ⟨gb165, 4, none⟩ = some (.int .i64 a0_5) ∧ w57.cell? ⟨gb165, 5, none⟩ = some (.string a0_6) ∧ w57.cell? ⟨gb165, 6, none⟩ = some (.int .i64 a0_7) ∧ w57.cell? ⟨gb165, 7, none⟩ = some (.int .i64 a0_8) := hS_
   obtain ⟨Ao59, co59, eo59⟩ := Kd.R_slice HO193.out
   (first | subst eo59 | (injection eo59 with f1_ f2_ f3_; have f4_ := f1_.symm; have f5_ := f3_.symm; clear f1_ f2_ f3_; subst f4_; subst f5_))
   refine norm_ (a' := ?_) ?_ ?_
   rotate_left
   ·
    simp only [putAll, Act.put, List.setIfInBounds_toArray, List.set_cons_zero, List.set_cons_succ]
    rfl
   refine on_ HT_ (i := 13) (N := some 52) (rl [14,1]) (fun K hK => ?_)
   refine Kd.R_append_rows_step (Kd.int .u8) (w0 := w) w.heap.size (by rfl) (.tmp 46) (.tmp 51) 70 5 (.int .u8 0) 1 rfl Try.underlying70 info5 rfl (by decide) (by omega) v189 t188 y191 _ _ _ (fun k_ => nv v171 k_ ∧ nb Ao47 y176.length co47 k_ ∧ nb Ao48 y179.length co48 k_ ∧ nb Ao50 t182.length co50 k_ ∧ nv v186 k_ ∧ nb Ao59 y191.length co59 k_) (fun _ => False) rfl rfl ?aO ?aR (fun _ _ h => h) (fun _ h => h.elim) ?aF ?aB ?aS ?aL ?_
   (case aR => exact qC ((Kd.R_reads' HO193.out).2.2))
   (case aB => exact (qB HB))
   (case aF => exact (fun k_ hk => ⟨Kd.fresh' (Kd.R_lt (qR HO172)) k_ hk, Kd.fresh' (Kd.R_lt (qR HO178)) k_ hk, Kd.fresh' (Kd.R_lt (qR HO181)) k_ hk, Kd.fresh' (Kd.R_lt (qR HO184)) k_ hk, Kd.fresh' (Kd.R_lt (qR HO187)) k_ hk, Kd.fresh' (Kd.R_lt (qR HO193)) k_ hk⟩))
   (case aO => exact (qR HO190))
   (case aS => exact (below_size (qB HB)))
   (case aL => have := LMc34.out; omega)
   intro v195 w58 ho hb hg hat
   rw [← Ny194.out] at ho
   replace BK164 := kG_ BK164 HO190 hg
   replace BK165 := kG_ BK165 HO190 hg
   replace HO172 := am_ (Kd.R_after (ok := (fun k_ => nb Ao47 y176.length co47 k_ ∧ nb Ao48 y179.length co48 k_ ∧ nb Ao50 t182.length co50 k_ ∧ nv v186 k_ ∧ nb Ao59 y191.length co59 k_)) (xR1_ HO172) hg hat)
   replace HO178 := am_ (Kd.R_after (ok := (fun k_ => nv v171 k_ ∧ nb Ao48 y179.length co48 k_ ∧ nb Ao50 t182.length co50 k_ ∧ nv v186 k_ ∧ nb Ao59 y191.length co59 k_)) (xR1_ HO178) hg hat)
   replace HO181 := am_ (Kd.R_after (ok := (fun k_ => nv v171 k_ ∧ nb Ao47 y176.length co47 k_ ∧ nb Ao50 t182.length co50 k_ ∧ nv v186 k_ ∧ nb Ao59 y191.length co59 k_)) (xR1_ HO181) hg hat)
   replace HO184 := am_ (Kd.R_after (ok := (fun k_ => nv v171 k_ ∧ nb Ao47 y176.length co47 k_ ∧ nb Ao48 y179.length co48 k_ ∧ nv v186 k_ ∧ nb Ao59 y191.length co59 k_)) (xR1_ HO184) hg hat)
   replace HO187 := am_ (Kd.R_after (ok := (fun k_ => nv v171 k_ ∧ nb Ao47 y176.length co47 k_ ∧ nb Ao48 y179.length co48 k_ ∧ nb Ao50 t182.length co50 k_ ∧ nb Ao59 y191.length co59 k_)) (xR1_ HO187) hg hat)
   replace HO193 := am_ (Kd.R_after (ok := (fun k_ => nv v171 k_ ∧ nb Ao47 y176.length co47 k_ ∧ nb Ao48 y179.length co48 k_ ∧ nb Ao50 t182.length co50 k_ ∧ nv v186 k_)) (xR1_ HO193) hg hat)
   replace HB := am_ (hb)
   have HO196 := am_ (ho)
   clear HO190
   clear ho hb hg hat
   refine hK.out _ _ (cz8 BK165.out) (fun hHeld => ?_)
   clear hK K
   refine nm_ (some 52) ?_
   refine pq_ 14 4 HT_ (rl [15]) ?_
   refine done_ (done_of HT_.out (by kernel_rfl)) ?_
   try go_wp2
   replace HO172 := am_ (Kd.R_drew HO172.out)
   replace HO178 := am_ (Kd.R_drew HO178.out)
   replace HO181 := am_ (Kd.R_drew HO181.out)
   replace HO184 := am_ (Kd.R_drew HO184.out)
   replace HO187 := am_ (Kd.R_drew HO187.out)
   replace HO193 := am_ (Kd.R_drew HO193.out)
   replace HO196 := am_ (Kd.R_drew HO196.out)
   replace BK164 := am_ (blk_drew BK164.out)
   replace BK165 := am_ (blk_drew BK165.out)
   replace HB := am_ (below_drew1 HB.out)
   obtain ⟨Ao61, co61, eo61⟩ := Kd.R_slice HO196.out
   (first | subst eo61 | (injection eo61 with f1_ f2_ f3_; have f4_ := f1_.symm; have f5_ := f3_.symm; clear f1_ f2_ f3_; subst f4_; subst f5_))
   refine start_ (n := 11) (S := fun w' => w'.cell? ⟨gb165, 0, none⟩ = some (.int .i64 a0_1) ∧ w'.cell? ⟨gb165, 1, none⟩ = some (.string a0_2) ∧ w'.cell? ⟨gb165, 2, none⟩ = some (.int .i64 a0_3) ∧ w'.cell? ⟨gb165, 3, none⟩ = some (.int .i64 a0_4) ∧ w'.cell? ⟨gb165, 4, none⟩ = some (.int .i64 a0_5) ∧ w'.cell? ⟨gb165, 5, none⟩ = some (.string a0_6) ∧ w'.cell? ⟨gb165, 6, none⟩ = some (.int .i64 a0_7) ∧ w'.cell? ⟨gb165, 7, none⟩ = some (.int .i64 a0_8)) (ds := []) #[oo,oo,oo,oo,oo,oo,oo,oo,oo,oo,oo] (by kernel_rfl) rfl rfl (cz8 BK165.out) (fun hHeld => ?_); refine with_tabW spec_PutItem.tab7 spec_PutItem.bits7 (fun HT_ HW_ => ?_)
   generalize w58.drew = w60 at HO172 HO178 HO181 HO184 HO187 HO193 HO196 BK164 BK165 HB hHeld ⊢
   refine pq_ 0 53 HT_ #[ii,oo,oo,oo,oo,oo,oo,oo,oo,oo,oo] ?_
   refine pq_ 1 54 HT_ #[ii,ii,oo,oo,oo,oo,oo,oo,oo,oo,oo] ?_
   refine pq_ 4 57 HT_ #[ii,ii,oo,oo,ii,oo,oo,oo,oo,oo,oo] ?_
   refine pq_ 7 60 HT_ #[ii,ii,oo,oo,ii,oo,oo,ii,oo,oo,oo] ?_
   refine tz_ (i := 2) (N := some 55) HT_ HW_ #[ii,ii,ii,oo,ii,oo,oo,ii,oo,oo,oo] rfl rfl hHeld ?_
   refine tz_ (i := 5) (N := some 58) HT_ HW_ #[ii,ii,ii,oo,ii,ii,oo,ii,oo,oo,oo] rfl rfl hHeld ?_
   refine tz_ (i := 8) (N := some 61) HT_ HW_ #[ii,ii,ii,oo,ii,ii,oo,ii,ii,oo,oo] rfl rfl hHeld ?_
   refine on_ HT_ (i := 3) (N := some 56) #[ii,ii,ii,ii,ii,ii,oo,ii,ii,oo,oo] (fun K hK => ?_)
   refine goes_ Try.func123 (by kernel_rfl) rfl #[.slice Ao61 y194.length co61, .string a0_6] (by rfl) rfl rfl la_ ?_
   with_reducible refine (spec_PutText.calls kj5 _ _ y194 a0_6 t197 _ ?side1 ?side2 A35.out).mono ?_
   (case side1 => exact qC ((Kd.R_reads' HO196.out).2.2))
   (case side2 => exact (Kd.R_reads' HO196.out).2.1)
   rintro e w62 ⟨v198, rfl, ho0, hb⟩
   refine ⟨_, rfl, ?_⟩
   have HO199 := am_ (Kd.R_lower (Kd.R_new' (Kd.R_new' (Kd.R_new' (Kd.R_new' (Kd.R_new' (Kd.R_new' (Kd.R_new' ho0 (Kd.R_lt (qR HO172))) (Kd.R_lt (qR HO178))) (Kd.R_lt (qR HO181))) (Kd.R_lt (qR HO184))) (Kd.R_lt (qR HO187))) (Kd.R_lt (qR HO193))) (Kd.R_lt (qR HO196))) (below_size (qB HB)))
   replace HO172 := eA_ HO172 ho0 hb
   replace HO178 := eA_ HO178 ho0 hb
   replace HO181 := eA_ HO181 ho0 hb
   replace HO184 := eA_ HO184 ho0 hb
   replace HO187 := eA_ HO187 ho0 hb
   replace HO193 := eA_ HO193 ho0 hb
   replace HO196 := eA_ HO196 ho0 hb
   replace BK164 := bK_ BK164 hb
   replace BK165 := bK_ BK165 hb
   replace HB := bS_ HB hb
   (try clear hb ho0)
   obtain ⟨Ao63, co63, eo63⟩ := Kd.R_slice HO199.out
   (first | subst eo63 | (injection eo63 with f1_ f2_ f3_; have f4_ := f1_.symm; have f5_ := f3_.symm; clear f1_ f2_ f3_; subst f4_; subst f5_))
   refine hK.out _ _ (cz8 BK165.out) (fun hHeld => ?_)
   clear hK K
   refine nm_ (some 56) ?_
   refine on_ HT_ (i := 6) (N := some 59) #[ii,ii,ii,ii,ii,ii,ii,ii,ii,oo,oo] (fun K hK => ?_)
   refine goes_ Try.func106 (by kernel_rfl) rfl #[.slice Ao63 t197.length co63, .int .i64 a0_7] (by rfl) rfl rfl la_ ?_
   with_reducible refine (spec_PutWord.calls _ _ t197 a0_7 t200 _ ?side1 ?side2 A36.out).mono ?_
   (case side1 => exact qC ((Kd.R_reads' HO199.out).2.2))
   (case side2 => exact (Kd.R_reads' HO199.out).2.1)
   rintro e w64 ⟨v201, rfl, ho0, hb⟩
   refine ⟨_, rfl, ?_⟩
   have HO202 := am_ (Kd.R_lower (Kd.R_new' (Kd.R_new' (Kd.R_new' (Kd.R_new' (Kd.R_new' (Kd.R_new' (Kd.R_new' (Kd.R_new' ho0 (Kd.R_lt (qR HO172))) (Kd.R_lt (qR HO178))) (Kd.R_lt (qR HO181))) (Kd.R_lt (qR HO184))) (Kd.R_lt (qR HO187))) (Kd.R_lt (qR HO193))) (Kd.R_lt (qR HO196))) (Kd.R_lt (qR HO199))) (below_size (qB HB)))
   replace HO172 := eA_ HO172 ho0 hb
   replace HO178 := eA_ HO178 ho0 hb
   replace HO181 := eA_ HO181 ho0 hb
   replace HO184 := eA_ HO184 ho0 hb
   replace HO187 := eA_ HO187 ho0 hb
   replace HO193 := eA_ HO193 ho0 hb
   replace HO196 := eA_ HO196 ho0 hb
   replace HO199 := eA_ HO199 ho0 hb
   replace BK164 := bK_ BK164 hb
   replace BK165 := bK_ BK165 hb
   replace HB := bS_ HB hb
   (try clear hb ho0)
   obtain ⟨Ao65, co65, eo65⟩ := Kd.R_slice HO202.out
   (first | subst eo65 | (injection eo65 with f1_ f2_ f3_; have f4_ := f1_.symm; have f5_ := f3_.symm; clear f1_ f2_ f3_; subst f4_; subst f5_))
   refine hK.out _ _ (cz8 BK165.out) (fun hHeld => ?_)
   clear hK K
   refine nm_ (some 59) ?_
   refine on_ HT_ (i := 9) (N := some 62) #[ii,ii,ii,ii,ii,ii,ii,ii,ii,ii,oo] (fun K hK => ?_)
   refine goes_ Try.func106 (by kernel_rfl) rfl #[.slice Ao65 t200.length co65, .int .i64 a0_8] (by rfl) rfl rfl la_ ?_
   with_reducible refine (spec_PutWord.calls _ _ t200 a0_8 t203 _ ?side1 ?side2 A37.out).mono ?_
   (case side1 => exact qC ((Kd.R_reads' HO202.out).2.2))
   (case side2 => exact (Kd.R_reads' HO202.out).2.1)
   rintro e w66 ⟨v204, rfl, ho0, hb⟩
   refine ⟨_, rfl, ?_⟩
   have HO205 := am_ (Kd.R_lower (Kd.R_new' (Kd.R_new' (Kd.R_new' (Kd.R_new' (Kd.R_new' (Kd.R_new' (Kd.R_new' (Kd.R_new' (Kd.R_new' ho0 (Kd.R_lt (qR HO172))) (Kd.R_lt (qR HO178))) (Kd.R_lt (qR HO181))) (Kd.R_lt (qR HO184))) (Kd.R_lt (qR HO187))) (Kd.R_lt (qR HO193))) (Kd.R_lt (qR HO196))) (Kd.R_lt (qR HO199))) (Kd.R_lt (qR HO202))) (below_size (qB HB)))
   replace HO172 := eA_ HO172 ho0 hb
   replace HO178 := eA_ HO178 ho0 hb
   replace HO181 := eA_ HO181 ho0 hb
   replace HO184 := eA_ HO184 ho0 hb
   replace HO187 := eA_ HO187 ho0 hb
   replace HO193 := eA_ HO193 ho0 hb
   replace HO196 := eA_ HO196 ho0 hb
   replace HO199 := eA_ HO199 ho0 hb
   replace HO202 := eA_ HO202 ho0 hb
   replace BK164 := bK_ BK164 hb
   replace BK165 := bK_ BK165 hb
   replace HB := bS_ HB hb
   (try clear hb ho0)
   refine hK.out _ _ (cz8 BK165.out) (fun hHeld => ?_)
   clear hK K
   refine nm_ (some 62) ?_
   refine pq_ 10 2 HT_ #[ii,ii,ii,ii,ii,ii,ii,ii,ii,ii,ii] ?_
   refine done_ (done_of HT_.out (by kernel_rfl)) ?_
   try go_wp2
   go_ret
   exact ⟨_, er_, (xR1_ HO205), qB HB⟩

end Go.Proofs.Ytiffahfpfgnjnab.PFnExactGetCtl
