-- Written by a program of this session (myprint.py, over the kit's print): contracts of FnExactGetCtl
import Derived.Test.YtiffahfpfgnjnabPFnExactGetCtlx0
import Derived.Test.YtiffahfpfgnjnabPFnExactGetCtlx1
import Derived.Test.YtiffahfpfgnjnabPFnExactGetCtlx2
import Derived.Test.YtiffahfpfgnjnabPFnExactGetCtlx13
import Derived.Test.YtiffahfpfgnjnabPFnExactGetCtlx14
import Derived.Test.YtiffahfpfgnjnabPFnExactGetCtlx15
namespace Go.Proofs.Ytiffahfpfgnjnab.PFnExactGetCtl
open Go.RowKit Go.Proofs.YtiffahfpfgnjnabW.PrintWords Go.Proofs.YtiffahfpfgnjnabW.PrintLast Go.Proofs.YtiffahfpfgnjnabW.PrintMore Go.Proofs.YtiffahfpfgnjnabV
attribute [local go_sem] max2_int min2_int max_two min_two max_three min_three max_four min_four   -- for this text's walks alone
set_option linter.unusedVariables false
set_option linter.unusedSimpArgs false

attribute [local go_sem high] eqA90 eqA124
/-! ### impl_PutItem: function 110 -/
mutual
def impl_PutItem.j0 : Nat → List Int → Bool → Int → Int → ByteArray → Int → Int → Int → ByteArray → Int → Int → Int → ByteArray → Int → Int → Int → Int → Int → Option (List Int)
 | 0, _, _, _, _, _, _, _, _, _, _, _, _, _, _, _, _, _, _ => none
 | k + 1, x3, x8, x487000, x487001, x487002, x487003, x487004, x487005, x487006, x487007, x487008, x487009, x487010, x487011, x487012, x487013, x487014, x487015 => if x8 = true then ((impl_PutWord.f x3 x487001).bind fun t492 => ((some (([(x487003) % 256] : List Int) : List Int)).bind fun y495 => (if t492.length + y495.length < 140737488355328 then ((impl_PutText.f k (t492 ++ y495) x487002).bind fun t501 => ((impl_PutWord.f t501 x487004).bind fun t504 => ((impl_putSince.f t504 x487005).bind fun t507 => ((impl_PutText.f k t507 x487006).bind fun t510 => ((impl_PutWord.f t510 x487007).bind fun t513 => ((impl_PutWord.f t513 x487008).bind fun t516 => (some t516))))))) else (none)))) else (if x487000 = 2 then ((impl_LineOk.f k x487009 x487010 x487011 x487012 x487013 x487014 x487015).bind fun t519 => (if t519 = true then (if (x487001 == 0 && (x487002.toList == ([] : List UInt8) && (x487003 == 0 && (x487004 == 0 && (x487005 == 0 && (x487006.toList == ([] : List UInt8) && (x487007 == 0 && (x487008 == 0)))))))) = true then ((impl_wordOk.f x487015).bind fun t520 => (impl_PutItem.j1 k x3 t520 x487000 x487001 x487002 x487003 x487004 x487005 x487006 x487007 x487008 x487009 x487010 x487011 x487012 x487013 x487014 x487015)) else (impl_PutItem.j1 k x3 false x487000 x487001 x487002 x487003 x487004 x487005 x487006 x487007 x487008 x487009 x487010 x487011 x487012 x487013 x487014 x487015)) else (impl_PutItem.j1 k x3 false x487000 x487001 x487002 x487003 x487004 x487005 x487006 x487007 x487008 x487009 x487010 x487011 x487012 x487013 x487014 x487015))) else (impl_PutItem.j1 k x3 false x487000 x487001 x487002 x487003 x487004 x487005 x487006 x487007 x487008 x487009 x487010 x487011 x487012 x487013 x487014 x487015))
def impl_PutItem.j1 : Nat → List Int → Bool → Int → Int → ByteArray → Int → Int → Int → ByteArray → Int → Int → Int → ByteArray → Int → Int → Int → Int → Int → Option (List Int)
 | 0, _, _, _, _, _, _, _, _, _, _, _, _, _, _, _, _, _, _ => none
 | k + 1, x3, x66, x487000, x487001, x487002, x487003, x487004, x487005, x487006, x487007, x487008, x487009, x487010, x487011, x487012, x487013, x487014, x487015 => if x66 = true then ((impl_PutWord.f x3 x487009).bind fun t521 => ((some (([(x487012) % 256] : List Int) : List Int)).bind fun y524 => (if t521.length + y524.length < 140737488355328 then ((impl_PutText.f k (t521 ++ y524) x487010).bind fun t530 => ((impl_PutWord.f t530 x487011).bind fun t533 => ((impl_putSince.f t533 x487013).bind fun t536 => ((impl_PutWord.f t536 x487014).bind fun t539 => ((impl_PutWord.f t539 x487015).bind fun t542 => (some t542)))))) else (none)))) else (some (([] : List Int)))
end
def impl_PutItem.f (k : Nat) (a0_0 : Int) (a0_1 : Int) (a0_2 : ByteArray) (a0_3 : Int) (a0_4 : Int) (a0_5 : Int) (a0_6 : ByteArray) (a0_7 : Int) (a0_8 : Int) (a0_9 : Int) (a0_10 : ByteArray) (a0_11 : Int) (a0_12 : Int) (a0_13 : Int) (a0_14 : Int) (a0_15 : Int) : Option (List Int) := (some (([(a0_0) % 256] : List Int) : List Int)).bind fun y487 => (if a0_0 = 1 then ((impl_AskerOk.f k a0_1 a0_2 a0_3 a0_4 a0_5 a0_6 a0_7 a0_8).bind fun t490 => (if t490 = true then (if (a0_9 == 0 && (a0_10.toList == ([] : List UInt8) && (a0_11 == 0 && (a0_12 == 0 && (a0_13 == 0 && (a0_14 == 0 && (a0_15 == 0))))))) = true then ((impl_wordOk.f a0_8).bind fun t491 => (impl_PutItem.j0 k y487 t491 a0_0 a0_1 a0_2 a0_3 a0_4 a0_5 a0_6 a0_7 a0_8 a0_9 a0_10 a0_11 a0_12 a0_13 a0_14 a0_15)) else (impl_PutItem.j0 k y487 false a0_0 a0_1 a0_2 a0_3 a0_4 a0_5 a0_6 a0_7 a0_8 a0_9 a0_10 a0_11 a0_12 a0_13 a0_14 a0_15)) else (impl_PutItem.j0 k y487 false a0_0 a0_1 a0_2 a0_3 a0_4 a0_5 a0_6 a0_7 a0_8 a0_9 a0_10 a0_11 a0_12 a0_13 a0_14 a0_15))) else (impl_PutItem.j0 k y487 false a0_0 a0_1 a0_2 a0_3 a0_4 a0_5 a0_6 a0_7 a0_8 a0_9 a0_10 a0_11 a0_12 a0_13 a0_14 a0_15))
theorem impl_PutItem.mono_l : ∀ k, (∀ y0 y1 y2 y3 y4 y5 y6 y7 y8 y9 y10 y11 y12 y13 y14 y15 y16 y17, LeO (impl_PutItem.j0 k y0 y1 y2 y3 y4 y5 y6 y7 y8 y9 y10 y11 y12 y13 y14 y15 y16 y17) (impl_PutItem.j0 (k + 1) y0 y1 y2 y3 y4 y5 y6 y7 y8 y9 y10 y11 y12 y13 y14 y15 y16 y17)) ∧ (∀ y0 y1 y2 y3 y4 y5 y6 y7 y8 y9 y10 y11 y12 y13 y14 y15 y16 y17, LeO (impl_PutItem.j1 k y0 y1 y2 y3 y4 y5 y6 y7 y8 y9 y10 y11 y12 y13 y14 y15 y16 y17) (impl_PutItem.j1 (k + 1) y0 y1 y2 y3 y4 y5 y6 y7 y8 y9 y10 y11 y12 y13 y14 y15 y16 y17))
 | 0 => ⟨fun _ _ _ _ _ _ _ _ _ _ _ _ _ _ _ _ _ _ r h => by simp [impl_PutItem.j0] at h, fun _ _ _ _ _ _ _ _ _ _ _ _ _ _ _ _ _ _ r h => by simp [impl_PutItem.j1] at h⟩
 | k + 1 => by
  obtain ⟨ih0, ih1⟩ := impl_PutItem.mono_l k
  refine ⟨?_, ?_⟩
  ·
   intro y0 y1 y2 y3 y4 y5 y6 y7 y8 y9 y10 y11 y12 y13 y14 y15 y16 y17
   unfold impl_PutItem.j0
   have m0 := @impl_AskerOk.mono; have m1 := @impl_LineOk.mono; have m2 := @impl_PutText.mono; exact mo_
  ·
   intro y0 y1 y2 y3 y4 y5 y6 y7 y8 y9 y10 y11 y12 y13 y14 y15 y16 y17
   unfold impl_PutItem.j1
   have m0 := @impl_AskerOk.mono; have m1 := @impl_LineOk.mono; have m2 := @impl_PutText.mono; exact mo_
theorem impl_PutItem.mono : ∀ a0 a1 a2 a3 a4 a5 a6 a7 a8 a9 a10 a11 a12 a13 a14 a15 k, LeO (impl_PutItem.f k a0 a1 a2 a3 a4 a5 a6 a7 a8 a9 a10 a11 a12 a13 a14 a15) (impl_PutItem.f (k + 1) a0 a1 a2 a3 a4 a5 a6 a7 a8 a9 a10 a11 a12 a13 a14 a15) := by
 intro a0 a1 a2 a3 a4 a5 a6 a7 a8 a9 a10 a11 a12 a13 a14 a15 k
 obtain ⟨ih0, ih1⟩ := impl_PutItem.mono_l k
 unfold impl_PutItem.f
 have m0 := @impl_AskerOk.mono; have m1 := @impl_LineOk.mono; have m2 := @impl_PutText.mono; exact mo_
def impl_PutItem.T3 : Bool × List (List Nat × List Nat) := (true, [([], []), ([], []), ([1], [1]), ([2], [2]), ([0, 3], [0, 3]), ([], []), ([5], [5]), ([6], [6]), ([7], [7]), ([8], [8]), ([4, 9, 4], [4, 9]), ([], []), ([11], [11]), ([12], [12]), ([10, 13, 10], [10, 13]), ([14, 14, 0, 1, 2, 3, 4, 5, 6, 7, 8, 9, 10, 11, 12, 13, 14], [0, 14])])
def impl_PutItem.B3 : List Nat := [0, 0, 2, 6, 15, 0, 32, 96, 224, 480, 1023, 0, 2048, 6144, 16383, 32767]
theorem impl_PutItem.tab3 : rtab .any (opsOf Try.f110 3) = impl_PutItem.T3 := by kernel_rfl
theorem impl_PutItem.bits3 : waitsOk impl_PutItem.T3.2 impl_PutItem.B3 = true := by kernel_rfl
def impl_PutItem.T4 : Bool × List (List Nat × List Nat) := (true, [([], []), ([], []), ([1], [1]), ([2], [2]), ([0, 3], [0, 3]), ([], []), ([5], [5]), ([6], [6]), ([4, 7, 4], [4, 7]), ([], []), ([9], [9]), ([10], [10]), ([8, 11, 8], [8, 11]), ([12, 12, 0, 1, 2, 3, 4, 5, 6, 7, 8, 9, 10, 11, 12], [0, 12])])
def impl_PutItem.B4 : List Nat := [0, 0, 2, 6, 15, 0, 32, 96, 255, 0, 512, 1536, 4095, 8191]
theorem impl_PutItem.tab4 : rtab .any (opsOf Try.f110 4) = impl_PutItem.T4 := by kernel_rfl
theorem impl_PutItem.bits4 : waitsOk impl_PutItem.T4.2 impl_PutItem.B4 = true := by kernel_rfl
def impl_PutItem.T5 : Bool × List (List Nat × List Nat) := (true, [([], []), ([], []), ([1], [1]), ([2], [2]), ([0, 3], [0, 3]), ([], []), ([5], [5]), ([6], [6]), ([4, 7, 4], [4, 7]), ([8, 8, 0, 1, 2, 3, 4, 5, 6, 7, 8], [8])])
def impl_PutItem.B5 : List Nat := [0, 0, 2, 6, 15, 0, 32, 96, 255, 511]
theorem impl_PutItem.tab5 : rtab .any (opsOf Try.f110 5) = impl_PutItem.T5 := by kernel_rfl
theorem impl_PutItem.bits5 : waitsOk impl_PutItem.T5.2 impl_PutItem.B5 = true := by kernel_rfl
def impl_PutItem.T7 : Bool × List (List Nat × List Nat) := (true, [([], []), ([], []), ([1], [1]), ([2], [2]), ([0, 3], [0, 3]), ([], []), ([5], [5]), ([6], [6]), ([7], [7]), ([8], [8]), ([4, 9, 4], [4, 9]), ([], []), ([11], [11]), ([12], [12]), ([10, 13, 10], [10, 13]), ([14, 14, 0, 1, 2, 3, 4, 5, 6, 7, 8, 9, 10, 11, 12, 13, 14], [0, 14])])
def impl_PutItem.B7 : List Nat := [0, 0, 2, 6, 15, 0, 32, 96, 224, 480, 1023, 0, 2048, 6144, 16383, 32767]
theorem impl_PutItem.tab7 : rtab .any (opsOf Try.f110 7) = impl_PutItem.T7 := by kernel_rfl
theorem impl_PutItem.bits7 : waitsOk impl_PutItem.T7.2 impl_PutItem.B7 = true := by kernel_rfl
def impl_PutItem.T8 : Bool × List (List Nat × List Nat) := (true, [([], []), ([], []), ([1], [1]), ([2], [2]), ([0, 3], [0, 3]), ([], []), ([5], [5]), ([6], [6]), ([4, 7, 4], [4, 7]), ([8, 8, 0, 1, 2, 3, 4, 5, 6, 7, 8], [0, 8])])
def impl_PutItem.B8 : List Nat := [0, 0, 2, 6, 15, 0, 32, 96, 255, 511]
theorem impl_PutItem.tab8 : rtab .any (opsOf Try.f110 8) = impl_PutItem.T8 := by kernel_rfl
theorem impl_PutItem.bits8 : waitsOk impl_PutItem.T8.2 impl_PutItem.B8 = true := by kernel_rfl
def impl_PutItem.T9 : Bool × List (List Nat × List Nat) := (true, [([], []), ([], []), ([1], [1]), ([2], [2]), ([0, 3], [0, 3]), ([], []), ([5], [5]), ([6], [6]), ([4, 7, 4], [4, 7]), ([8, 8, 0, 1, 2, 3, 4, 5, 6, 7, 8], [8])])
def impl_PutItem.B9 : List Nat := [0, 0, 2, 6, 15, 0, 32, 96, 255, 511]
theorem impl_PutItem.tab9 : rtab .any (opsOf Try.f110 9) = impl_PutItem.T9 := by kernel_rfl
theorem impl_PutItem.bits9 : waitsOk impl_PutItem.T9.2 impl_PutItem.B9 = true := by kernel_rfl
set_option maxHeartbeats 8000000 in
set_option maxRecDepth 100000 in
theorem impl_PutItem.calls (k : Nat) (a0_0 : Int) (a0_1 : Int) (a0_2 : ByteArray) (a0_3 : Int) (a0_4 : Int) (a0_5 : Int) (a0_6 : ByteArray) (a0_7 : Int) (a0_8 : Int) (a0_9 : Int) (a0_10 : ByteArray) (a0_11 : Int) (a0_12 : Int) (a0_13 : Int) (a0_14 : Int) (a0_15 : Int) (r : List Int) (w : World) (h : impl_PutItem.f k a0_0 a0_1 a0_2 a0_3 a0_4 a0_5 a0_6 a0_7 a0_8 a0_9 a0_10 a0_11 a0_12 a0_13 a0_14 a0_15 = some r) :
  Calls Try.prog 110 #[.agg #[.int .i64 a0_0, .int .i64 a0_1, .string a0_2, .int .i64 a0_3, .int .i64 a0_4, .int .i64 a0_5, .string a0_6, .int .i64 a0_7, .int .i64 a0_8, .int .i64 a0_9, .string a0_10, .int .i64 a0_11, .int .i64 a0_12, .int .i64 a0_13, .int .i64 a0_14, .int .i64 a0_15]] w fun e w' => ∃ v0_ : Value, e = .returned (v0_) ∧ Kd.R (Kd.int .u8) 5 w' w.heap.size (fun _ => True) v0_ r ∧ Below w.heap.size w w' := by
 have hu126 := Try.underlying126
 have hu90 := Try.underlying90
 have hu124 := Try.underlying124
 have HB := Aside0.mk (Below.refl w.heap.size w)
 have H := h
 unfold impl_PutItem.f at H
 clear h
 obtain ⟨y487, hy487⟩ : ∃ y_ : List Int, y_ = (([(a0_0) % 256] : List Int)) := ⟨_, rfl⟩
 replace H := mk_ H hy487
 (try dsimp only at H)
 have Ny487 := Aside0.mk hy487
 clear hy487
 have HC2 := Aside0.mk H
 clear H
 go_enter Try.func110, Try.ntmps110
 go_upto_region 2 with (first | ((with_reducible refine gate_dst (N := 1) rfl ?_); refine bx_ (N := 1) (cs := #[.int .i64 a0_0, .int .i64 a0_1, .string a0_2, .int .i64 a0_3, .int .i64 a0_4, .int .i64 a0_5, .string a0_6, .int .i64 a0_7, .int .i64 a0_8, .int .i64 a0_9, .string a0_10, .int .i64 a0_11, .int .i64 a0_12, .int .i64 a0_13, .int .i64 a0_14, .int .i64 a0_15]) (t := 126) ?_; intro gb486 hg w3 hbox hb; have BK486 := am_ (hbox); have GW486 := gA_ hg HB; have GE486 := GW486; have IGE486 := gI_ GE486; replace HB := bS_ HB hb; clear hb hbox hg; (try clear zK486); have zK486 := cz16 BK486.out; (try clear fK486); have fK486 := fz16 BK486.out) | ((with_reducible refine gate_dst (N := 7) rfl ?_); refine Kd.R_lit (Kd.int .u8) _ 5 ?hg (N := 7) ?hd (xs := ([(a0_0) % 256] : List Int)) (inner := [.int .u8 ((a0_0) % 256)]) (ok := fun _ => True) (okp := fun _ => True) ?hr ?hp (fun _ hk => hk) trivial (Below.refl _ _) (Nat.le_refl _) (by simp) ?_; (case hd => rfl); (case hg => rfl); (case hr => first | (go_simp; done) | (go_simp; rfl)); (case hp => exact (Reps.one (show Kd.M (Kd.int .u8) _ _ _ ((a0_0) % 256) [.int .u8 ((a0_0) % 256)] from rfl) (Reps.none _ _))); intro v488 w5 ho6 hb hg_ hnew_; clear hg_ hnew_; (first | rw [← Ny487.out] at ho6 | (simp only [Int.reduceToNat] at ho6; rw [← Ny487.out] at ho6)); have HO489 := am_ (Kd.R_lower ho6 (below_size (qB HB))); replace BK486 := bK_ BK486 hb; replace HB := bS_ HB hb; clear hb ho6))
 (try simp only [Act.put, List.setIfInBounds_toArray, List.set_cons_zero, List.set_cons_succ])
 go_cut [8] (fun v8 wc => ∃ (kq : Nat) (x8_1 : Bool), v8 = .bool x8_1 ∧ Aside0 (impl_PutItem.j0 kq y487 x8_1 a0_0 a0_1 a0_2 a0_3 a0_4 a0_5 a0_6 a0_7 a0_8 a0_9 a0_10 a0_11 a0_12 a0_13 a0_14 a0_15 = some r) ∧ Aside0 (kq ≤ k) ∧ Aside0 (Kd.R (Kd.int .u8) 5 wc w.heap.size (fun _ => True) v488 y487) ∧ Aside0 (wc.heap[gb486]? = some (.cells #[.int .i64 a0_0, .int .i64 a0_1, .string a0_2, .int .i64 a0_3, .int .i64 a0_4, .int .i64 a0_5, .string a0_6, .int .i64 a0_7, .int .i64 a0_8, .int .i64 a0_9, .string a0_10, .int .i64 a0_11, .int .i64 a0_12, .int .i64 a0_13, .int .i64 a0_14, .int .i64 a0_15] 126 (0, 0))) ∧ Aside0 (Below w.heap.size w wc))
 case first =>
  have H := HC2.out
  clear HC2
  replace H := ie_ H
  obtain ⟨-, H, c7b0, c7b1⟩ | ⟨c7, H, c7b0, c7b1⟩ := H
  rotate_left
  ·
   (first | rw [c7b0] | rw [c7b1] | (simp only [i64_w, i32_w]; rw [c7b0]) | skip)
   have H' := Aside0.mk H
   clear H
   (try clear zK486)
   have zK486 := cz16 BK486.out
   (try clear fK486)
   have fK486 := fz16 BK486.out
   go_wp2
   go_meet
   case rel => exact ⟨_, (false), eqq_, H', ⟨by first | omega | exact Nat.le_refl _⟩, ⟨qR HO489⟩, ⟨qK BK486⟩, ⟨qB HB⟩⟩
  (first | rw [c7b0] | rw [c7b1] | (simp only [i64_w, i32_w]; rw [c7b0]) | skip)
  replace H := bd_ H
  obtain ⟨t490, A8, H⟩ := H
  by_cases c9 : t490 = true
  rotate_left
  ·
   replace c9 := Bool.eq_false_iff.mpr c9
   subst c9
   rw [if_neg (show ¬ (false = true) by decide)] at H
   have H' := Aside0.mk H
   clear H
   (try clear zK486)
   have zK486 := cz16 BK486.out
   (try clear fK486)
   have fK486 := fz16 BK486.out
   go_wp2_with (first | (go_at_call 125; (with_reducible refine (impl_AskerOk.calls k a0_1 a0_2 a0_3 a0_4 a0_5 a0_6 a0_7 a0_8 false _ A8.out).mono ?_); rintro e w19 ⟨rfl, hb⟩; replace HO489 := rB_ HO489 hb; replace BK486 := bK_ BK486 hb; replace HB := bS_ HB hb; (try clear hb)))
   go_meet
   case rel => exact ⟨_, (false), eqq_, H', ⟨by first | omega | exact Nat.le_refl _⟩, ⟨qR HO489⟩, ⟨qK BK486⟩, ⟨qB HB⟩⟩
  subst c9
  rw [if_pos rfl] at H
  replace H := id_ H
  obtain ⟨c10, H, -⟩ | ⟨c10, H, -⟩ := H
  ·
   have c10b0 : (a0_9 == 0 && (a0_10.toList == ([] : List UInt8) && (a0_11 == 0 && (a0_12 == 0 && (a0_13 == 0 && (a0_14 == 0 && (a0_15 == 0))))))) = true := c10
   (try (have c10b0e := c10b0; simp only [beq_nil, bne_nil] at c10b0e))
   (try (have c10b1 : decide (a0_9 = 0 && (a0_10.toList == ([] : List UInt8) && (a0_11 == 0 && (a0_12 == 0 && (a0_13 == 0 && (a0_14 == 0 && (a0_15 == 0))))))) = true := by simpa using c10))
   (try (have c10b1e := c10b1; simp only [beq_nil, bne_nil] at c10b1e))
   (try (have c10b2 : (a0_9 == 0 && (a0_10.toList == ([] : List UInt8) && (a0_11 == 0 && (a0_12 == 0 && (a0_13 == 0 && (a0_14 == 0 && (a0_15 == 0))))))) = true := by simpa using c10))
   (try (have c10b2e := c10b2; simp only [beq_nil, bne_nil] at c10b2e))
   clear c10
   replace H := bd_ H
   obtain ⟨t491, A11, H⟩ := H
   have H' := Aside0.mk H
   clear H
   (try clear zK486)
   have zK486 := cz16 BK486.out
   (try clear fK486)
   have fK486 := fz16 BK486.out
   go_wp2_with (first | (go_at_call 125; (with_reducible refine (impl_AskerOk.calls k a0_1 a0_2 a0_3 a0_4 a0_5 a0_6 a0_7 a0_8 true _ A8.out).mono ?_); rintro e w13 ⟨rfl, hb⟩; replace HO489 := rB_ HO489 hb; replace BK486 := bK_ BK486 hb; replace HB := bS_ HB hb; (try clear hb); (try clear zK486); have zK486 := cz16 BK486.out; (try clear fK486); have fK486 := fz16 BK486.out) | (go_at_call 111; (with_reducible refine (impl_wordOk.calls a0_8 t491 _ A11.out).mono ?_); rintro e w' ⟨rfl, ⟨nd, rfl⟩⟩))
   go_meet
   case rel => exact ⟨_, (t491), eqq_, H', ⟨by first | omega | exact Nat.le_refl _⟩, ⟨qR HO489⟩, ⟨qK BK486⟩, ⟨qB HB⟩⟩
  have c10b0 : (a0_9 == 0 && (a0_10.toList == ([] : List UInt8) && (a0_11 == 0 && (a0_12 == 0 && (a0_13 == 0 && (a0_14 == 0 && (a0_15 == 0))))))) = false := by simpa using c10
  (try (have c10b0e := c10b0; simp only [beq_nil, bne_nil] at c10b0e))
  (try (have c10b1 : decide (a0_9 = 0 && (a0_10.toList == ([] : List UInt8) && (a0_11 == 0 && (a0_12 == 0 && (a0_13 == 0 && (a0_14 == 0 && (a0_15 == 0))))))) = false := by simpa using c10))
  (try (have c10b1e := c10b1; simp only [beq_nil, bne_nil] at c10b1e))
  (try (have c10b2 : (a0_9 == 0 && (a0_10.toList == ([] : List UInt8) && (a0_11 == 0 && (a0_12 == 0 && (a0_13 == 0 && (a0_14 == 0 && (a0_15 == 0))))))) = false := by simpa using c10))
  (try (have c10b2e := c10b2; simp only [beq_nil, bne_nil] at c10b2e))
  (try (have c10b3 : ¬ (a0_9 = 0 && (a0_10.toList == ([] : List UInt8) && (a0_11 == 0 && (a0_12 == 0 && (a0_13 == 0 && (a0_14 == 0 && (a0_15 == 0))))))) := by simpa using c10))
  (try (have c10b3e := c10b3; simp only [beq_nil, bne_nil] at c10b3e))
  clear c10
  have H' := Aside0.mk H
  clear H
  (try clear zK486)
  have zK486 := cz16 BK486.out
  (try clear fK486)
  have fK486 := fz16 BK486.out
  go_wp2_with (first | (go_at_call 125; (with_reducible refine (impl_AskerOk.calls k a0_1 a0_2 a0_3 a0_4 a0_5 a0_6 a0_7 a0_8 true _ A8.out).mono ?_); rintro e w16 ⟨rfl, hb⟩; replace HO489 := rB_ HO489 hb; replace BK486 := bK_ BK486 hb; replace HB := bS_ HB hb; (try clear hb); (try clear zK486); have zK486 := cz16 BK486.out; (try clear fK486); have fK486 := fz16 BK486.out))
  go_meet
  case rel => exact ⟨_, (false), eqq_, H', ⟨by first | omega | exact Nat.le_refl _⟩, ⟨qR HO489⟩, ⟨qK BK486⟩, ⟨qB HB⟩⟩
 case rest =>
  clear HC2
  try clear c1
  try clear p2
  try clear c7
  try clear c7b0
  try clear c7b1
  try clear c9
  try clear c10
  try clear c10b0
  try clear c10b1
  try clear c10b2
  try clear c11
  (try clear zK486)
  (try clear zK486)
  (try clear zK486)
  (try clear zK486)
  (try clear zK486)
  (try clear zK486)
  (try clear zK486)
  (try clear fK486)
  (try clear fK486)
  (try clear fK486)
  (try clear fK486)
  (try clear fK486)
  (try clear fK486)
  (try clear fK486)
  obtain ⟨kq, x8_1, rfl, HA, HJ1, HO_3, BK486, HB⟩ := hcut
  cases kq with
  | zero => exact absurd HA.out (by simp [impl_PutItem.j0])
  | succ kj1 =>
   have H := HA.out
   clear HA
   simp only [impl_PutItem.j0] at H
   by_cases c21 : x8_1 = true
   ·
    subst c21
    rw [if_pos rfl] at H
    replace H := bd_ H
    obtain ⟨t492, A22, H⟩ := H
    obtain ⟨y495, hy495⟩ : ∃ y_ : List Int, y_ = (([(a0_3) % 256] : List Int)) := ⟨_, rfl⟩
    replace H := mk_ H hy495
    (try dsimp only at H)
    have Ny495 := Aside0.mk hy495
    clear hy495
    replace H := ip_ H
    obtain ⟨c23, H, -⟩ := H
    have LMc23 := Aside0.mk c23
    clear c23
    obtain ⟨y498, hy498⟩ : ∃ y_ : List Int, y_ = (t492 ++ y495) := ⟨_, rfl⟩
    replace H : ((impl_PutText.f kj1 y498 a0_2).bind fun t501 => ((impl_PutWord.f t501 a0_4).bind fun t504 => ((impl_putSince.f t504 a0_5).bind fun t507 => ((impl_PutText.f kj1 t507 a0_6).bind fun t510 => ((impl_PutWord.f t510 a0_7).bind fun t513 => ((impl_PutWord.f t513 a0_8).bind fun t516 => (some t516))))))) = some r := by first | (rw [hy498]; with_reducible exact H) | (have H2_ := (Option.bind_some _ _).symm.trans H; rw [hy498]; with_reducible exact H2_) | (have H2_ := (Option.bind_some _ _).symm.trans H; with_reducible exact H2_) | with_reducible exact H | (rw [hy498]; exact H) | exact H
    have Ny498 := Aside0.mk hy498
    clear hy498
    replace H := bd_ H
    obtain ⟨t501, A24, H⟩ := H
    replace H := bd_ H
    obtain ⟨t504, A25, H⟩ := H
    replace H := bd_ H
    obtain ⟨t507, A26, H⟩ := H
    replace H := bd_ H
    obtain ⟨t510, A27, H⟩ := H
    replace H := bd_ H
    obtain ⟨t513, A28, H⟩ := H
    replace H := bd_ H
    obtain ⟨t516, A29, H⟩ := H
    obtain rfl := Option.some.inj H
    obtain ⟨Ao30, co30, eo30⟩ := Kd.R_slice HO_3.out
    subst eo30
    try go_wp2
    replace HO_3 := am_ (Kd.R_drew HO_3.out)
    replace BK486 := am_ (blk_drew BK486.out)
    replace HB := am_ (below_drew1 HB.out)
    refine start_ (n := 16) (S := fun w' => w'.cell? ⟨gb486, 0, none⟩ = some (.int .i64 a0_0) ∧ w'.cell? ⟨gb486, 1, none⟩ = some (.int .i64 a0_1) ∧ w'.cell? ⟨gb486, 2, none⟩ = some (.string a0_2) ∧ w'.cell? ⟨gb486, 3, none⟩ = some (.int .i64 a0_3) ∧ w'.cell? ⟨gb486, 4, none⟩ = some (.int .i64 a0_4) ∧ w'.cell? ⟨gb486, 5, none⟩ = some (.int .i64 a0_5) ∧ w'.cell? ⟨gb486, 6, none⟩ = some (.string a0_6) ∧ w'.cell? ⟨gb486, 7, none⟩ = some (.int .i64 a0_7) ∧ w'.cell? ⟨gb486, 8, none⟩ = some (.int .i64 a0_8) ∧ w'.cell? ⟨gb486, 9, none⟩ = some (.int .i64 a0_9) ∧ w'.cell? ⟨gb486, 10, none⟩ = some (.string a0_10) ∧ w'.cell? ⟨gb486, 11, none⟩ = some (.int .i64 a0_11) ∧ w'.cell? ⟨gb486, 12, none⟩ = some (.int .i64 a0_12) ∧ w'.cell? ⟨gb486, 13, none⟩ = some (.int .i64 a0_13) ∧ w'.cell? ⟨gb486, 14, none⟩ = some (.int .i64 a0_14) ∧ w'.cell? ⟨gb486, 15, none⟩ = some (.int .i64 a0_15)) (ds := []) (rl [0,16]) (by kernel_rfl) rfl rfl (cz16 BK486.out) (fun hHeld => ?_); refine with_tabW impl_PutItem.tab3 impl_PutItem.bits3 (fun HT_ HW_ => ?_)
    generalize wc.drew = w31 at HO_3 BK486 HB hHeld ⊢
    refine pq_ 0 29 HT_ (rl [1,15]) ?_
    refine pq_ 1 30 HT_ (rl [2,14]) ?_
    refine pq_ 2 31 HT_ (rl [3,13]) ?_
    refine pq_ 5 34 HT_ (rl [3,2,1,10]) ?_
    refine pq_ 6 35 HT_ (rl [3,2,2,9]) ?_
    refine pq_ 11 40 HT_ (rl [3,2,2,4,1,4]) ?_
    refine pq_ 12 41 HT_ (rl [3,2,2,4,2,3]) ?_
    refine tz_ (i := 3) (N := some 32) HT_ HW_ (rl [4,1,2,4,2,3]) rfl rfl hHeld ?_
    refine tz_ (i := 7) (N := some 36) HT_ HW_ (rl [4,1,3,3,2,3]) rfl rfl hHeld ?_
    refine pq_ 8 37 HT_ (rl [4,1,4,2,2,3]) ?_
    refine tz_ (i := 13) (N := some 42) HT_ HW_ (rl [4,1,4,2,3,2]) rfl rfl hHeld ?_
    refine join_ (σ := Value × Value) 3 (rl [10,1,3,2]) (fun s_ => [(33, s_.1), (38, s_.2)]) (fun s_ w' => (w'.cell? ⟨gb486, 0, none⟩ = some (.int .i64 a0_0) ∧ w'.cell? ⟨gb486, 1, none⟩ = some (.int .i64 a0_1) ∧ w'.cell? ⟨gb486, 2, none⟩ = some (.string a0_2) ∧ w'.cell? ⟨gb486, 3, none⟩ = some (.int .i64 a0_3) ∧ w'.cell? ⟨gb486, 4, none⟩ = some (.int .i64 a0_4) ∧ w'.cell? ⟨gb486, 5, none⟩ = some (.int .i64 a0_5) ∧ w'.cell? ⟨gb486, 6, none⟩ = some (.string a0_6) ∧ w'.cell? ⟨gb486, 7, none⟩ = some (.int .i64 a0_7) ∧ w'.cell? ⟨gb486, 8, none⟩ = some (.int .i64 a0_8) ∧ w'.cell? ⟨gb486, 9, none⟩ = some (.int .i64 a0_9) ∧ w'.cell? ⟨gb486, 10, none⟩ = some (.string a0_10) ∧ w'.cell? ⟨gb486, 11, none⟩ = some (.int .i64 a0_11) ∧ w'.cell? ⟨gb486, 12, none⟩ = some (.int .i64 a0_12) ∧ w'.cell? ⟨gb486, 13, none⟩ = some (.int .i64 a0_13) ∧ w'.cell? ⟨gb486, 14, none⟩ = some (.int .i64 a0_14) ∧ w'.cell? ⟨gb486, 15, none⟩ = some (.int .i64 a0_15)) ∧ (Kd.R (Kd.int .u8) 5 w' w.heap.size (fun k_ => some k_ ≠ (s_.2 : Value).ownBlock ∧ nb Ao30 y487.length co30 k_) s_.1 t492) ∧ (Kd.R (Kd.int .u8) 5 w' w.heap.size (fun k_ => some k_ ≠ (s_.1 : Value).ownBlock ∧ nb Ao30 y487.length co30 k_) s_.2 y495) ∧ (Kd.R (Kd.int .u8) 5 w' w.heap.size (fun k_ => some k_ ≠ (s_.1 : Value).ownBlock ∧ some k_ ≠ (s_.2 : Value).ownBlock) (.slice Ao30 y487.length co30) y487) ∧ (w'.heap[gb486]? = some (.cells #[.int .i64 a0_0, .int .i64 a0_1, .string a0_2, .int .i64 a0_3, .int .i64 a0_4, .int .i64 a0_5, .string a0_6, .int .i64 a0_7, .int .i64 a0_8, .int .i64 a0_9, .string a0_10, .int .i64 a0_11, .int .i64 a0_12, .int .i64 a0_13, .int .i64 a0_14, .int .i64 a0_15] 126 (0, 0))) ∧ (Below w.heap.size w w')) ?_ ?_
    rotate_left
    ·
     intro hCont
     refine two_ (i := 4) (j := 9) (Ni := some 33) (Nj := some 38) (rl [9,2,3,2]) (rl [4,1,5,1,3,2]) rfl rfl rfl rfl (two_of HT_.out (by kernel_rfl)) (by decide) (by decide) (fun K hK => ?_) (fun K hK => ?_)
     ·
      skip
      refine goes_ Try.func112 (by kernel_rfl) rfl #[.slice Ao30 y487.length co30, .int .i64 a0_1] (by rfl) rfl rfl la_ ?_
      with_reducible refine (impl_PutWord.calls _ _ y487 a0_1 t492 _ ?side1 ?side2 A22.out).mono ?_
      (case side1 => exact qC ((Kd.R_reads' HO_3.out).2.2))
      (case side2 => exact (Kd.R_reads' HO_3.out).2.1)
      rintro e w32 ⟨v493, rfl, ho0, hb⟩
      refine ⟨_, rfl, ?_⟩
      have HO494 := am_ (Kd.R_lower (Kd.R_new' ho0 (Kd.R_lt (qR HO_3))) (below_size (qB HB)))
      replace HO_3 := eA_ HO_3 ho0 hb
      replace BK486 := bK_ BK486 hb
      replace HB := bS_ HB hb
      (try clear hb ho0)
      refine hK.out _ _ (cz16 BK486.out) (fun hHeld => ?_)
      clear hK K
      refine nm_ (some 33) ?_
      refine on_ HT_ (i := 9) (N := some 38) (rl [10,1,3,2]) (fun K hK => ?_)
      refine Kd.R_lit_step (Kd.int .u8) _ 5 ?hg (N := 38) ?hd (xs := ([(a0_3) % 256] : List Int)) (inner := [.int .u8 ((a0_3) % 256)]) (ok := fun _ => True) (okp := fun _ => True) ?hr ?hp (fun _ hk => hk) trivial (Below.refl _ _) (Nat.le_refl _) (by simp) ?_; (case hd => rfl); (case hg => rfl); (case hr => first | (go_simp; done) | (go_simp; rfl)); (case hp => exact (Reps.one (show Kd.M (Kd.int .u8) _ _ _ ((a0_3) % 256) [.int .u8 ((a0_3) % 256)] from rfl) (Reps.none _ _)))
      intro v496 w33 ho34 hb hg_ hnew_
      clear hg_ hnew_
      (first | rw [← Ny495.out] at ho34 | (simp only [Int.reduceToNat] at ho34; rw [← Ny495.out] at ho34))
      have HO497 := am_ (Kd.R_lower (Kd.R_new' (Kd.R_new' ho34 (Kd.R_lt (qR HO_3))) (Kd.R_lt (qR HO494))) (below_size (qB HB)))
      replace HO_3 := eA_ HO_3 ho34 hb
      replace HO494 := eA_ HO494 ho34 hb
      replace BK486 := bK_ BK486 hb
      replace HB := bS_ HB hb
      clear hb ho34
      refine hK.out _ _ (cz16 BK486.out) (fun hHeld => ?_)
      clear hK K
      refine nm_ (some 38) ?_
      exact norm_ (by simp only [putAll, Act.put, List.setIfInBounds_toArray, List.set_cons_zero, List.set_cons_succ]) (hCont (v493, v496) _ ⟨hHeld, (xR1_ HO494), (xR1_ HO497), (xR1_ HO_3), (qK BK486), (qB HB)⟩)
     ·
      skip
      refine Kd.R_lit_step (Kd.int .u8) _ 5 ?hg (N := 38) ?hd (xs := ([(a0_3) % 256] : List Int)) (inner := [.int .u8 ((a0_3) % 256)]) (ok := fun _ => True) (okp := fun _ => True) ?hr ?hp (fun _ hk => hk) trivial (Below.refl _ _) (Nat.le_refl _) (by simp) ?_; (case hd => rfl); (case hg => rfl); (case hr => first | (go_simp; done) | (go_simp; rfl)); (case hp => exact (Reps.one (show Kd.M (Kd.int .u8) _ _ _ ((a0_3) % 256) [.int .u8 ((a0_3) % 256)] from rfl) (Reps.none _ _)))
      intro v496 w32 ho33 hb hg_ hnew_
      clear hg_ hnew_
      (first | rw [← Ny495.out] at ho33 | (simp only [Int.reduceToNat] at ho33; rw [← Ny495.out] at ho33))
      have HO497 := am_ (Kd.R_lower (Kd.R_new' ho33 (Kd.R_lt (qR HO_3))) (below_size (qB HB)))
      replace HO_3 := eA_ HO_3 ho33 hb
      replace BK486 := bK_ BK486 hb
      replace HB := bS_ HB hb
      clear hb ho33
      refine hK.out _ _ (cz16 BK486.out) (fun hHeld => ?_)
      clear hK K
      refine nm_ (some 38) ?_
      refine on_ HT_ (i := 4) (N := some 33) (rl [10,1,3,2]) (fun K hK => ?_)
      refine goes_ Try.func112 (by kernel_rfl) rfl #[.slice Ao30 y487.length co30, .int .i64 a0_1] (by rfl) rfl rfl la_ ?_
      with_reducible refine (impl_PutWord.calls _ _ y487 a0_1 t492 _ ?side1 ?side2 A22.out).mono ?_
      (case side1 => exact qC ((Kd.R_reads' HO_3.out).2.2))
      (case side2 => exact (Kd.R_reads' HO_3.out).2.1)
      rintro e w34 ⟨v493, rfl, ho0, hb⟩
      refine ⟨_, rfl, ?_⟩
      have HO494 := am_ (Kd.R_lower (Kd.R_new' (Kd.R_new' ho0 (Kd.R_lt (qR HO_3))) (Kd.R_lt (qR HO497))) (below_size (qB HB)))
      replace HO_3 := eA_ HO_3 ho0 hb
      replace HO497 := eA_ HO497 ho0 hb
      replace BK486 := bK_ BK486 hb
      replace HB := bS_ HB hb
      (try clear hb ho0)
      refine hK.out _ _ (cz16 BK486.out) (fun hHeld => ?_)
      clear hK K
      refine nm_ (some 33) ?_
      exact norm_ (by simp only [putAll, Act.put, List.setIfInBounds_toArray, List.set_cons_zero, List.set_cons_succ]) (hCont (v493, v496) _ ⟨hHeld, (xR1_ HO494), (xR1_ HO497), (xR1_ HO_3), (qK BK486), (qB HB)⟩)
    rintro ⟨v493, v496⟩ w35 ⟨hS_, h0_, h1_, h2_, h3_, h4_⟩
    have n0_ : Aside0 (Kd.R (Kd.int .u8) 5 w35 w.heap.size (fun k_ => nv v496 k_ ∧ nb Ao30 y487.length co30 k_) v493 t492) := ⟨h0_⟩
    have n1_ : Aside0 (Kd.R (Kd.int .u8) 5 w35 w.heap.size (fun k_ => nv v493 k_ ∧ nb Ao30 y487.length co30 k_) v496 y495) := ⟨h1_⟩
    have n2_ : Aside0 (Kd.R (Kd.int .u8) 5 w35 w.heap.size (fun k_ => nv v493 k_ ∧ nv v496 k_) (.slice Ao30 y487.length co30) y487) := ⟨h2_⟩
    have n3_ : Aside0 (w35.heap[gb486]? = some (.cells #[.int .i64 a0_0, .int .i64 a0_1, .string a0_2, .int .i64 a0_3, .int .i64 a0_4, .int .i64 a0_5, .string a0_6, .int .i64 a0_7, .int .i64 a0_8, .int .i64 a0_9, .string a0_10, .int .i64 a0_11, .int .i64 a0_12, .int .i64 a0_13, .int .i64 a0_14, .int .i64 a0_15] 126 (0, 0))) := ⟨h3_⟩
    have n4_ : Aside0 (Below w.heap.size w w35) := ⟨h4_⟩
    clear HO_3
    clear BK486
    clear HB
    clear h0_ h1_ h2_ h3_ h4_
    have HO494 := n0_
    have HO497 := n1_
    have HO_3 := n2_
    have BK486 := n3_
    have HB := n4_
    clear n0_ n1_ n2_ n3_ n4_
    have hHeld : w35.cell? ⟨gb486, 0, none⟩ = some (.int .i64 a0_0) ∧ w35.cell? ⟨gb486, 1, none⟩ = some (.int .i64 a0_1) ∧ w35.cell? ⟨gb486, 2, none⟩ = some (.string a0_2) ∧ w35.cell? ⟨gb486, 3, none⟩ = some (.int .i64 a0_3) ∧ w35.cell? ⟨gb486, 4, none⟩ = some (.int .i64 a0_4) ∧ w35.cell? ⟨gb486, 5, none⟩ = some (.int .i64 a0_5) ∧ w35.cell? ⟨gb486, 6, none⟩ = some (.string a0_6) ∧ w35.cell? ⟨gb486, 7, none⟩ = some (.int .i64 a0_7) ∧ w35.cell? ⟨gb486, 8, none⟩ = some (.int .i64 a0_8) ∧ w35.cell? ⟨gb486, 9, none⟩ = some (.int .i64 a0_9) ∧ w35.cell? ⟨gb486, 10, none⟩ = some (.string a0_10) ∧ w35.cell? ⟨gb486, 11, none⟩ = some (.int .i64 a0_11) ∧ w35.cell? ⟨gb486, 12, none⟩ = some (.int .i64 a0_12) ∧ w35.cell? ⟨gb486, 13, none⟩ = some (.int .i64 a0_13) ∧ w35.cell? ⟨gb486, 14, none⟩ = some (.int .i64 a0_14) ∧ w35.cell? ⟨gb486, 15, none⟩ = some (.int .i64 a0_15) := hS_
    obtain ⟨Ao37, co37, eo37⟩ := Kd.R_slice HO497.out
    (first | subst eo37 | (injection eo37 with f1_ f2_ f3_; have f4_ := f1_.symm; have f5_ := f3_.symm; clear f1_ f2_ f3_; subst f4_; subst f5_))
    refine norm_ (a' := ?_) ?_ ?_
    rotate_left
    ·
     simp only [putAll, Act.put, List.setIfInBounds_toArray, List.set_cons_zero, List.set_cons_succ]
     rfl
    refine on_ HT_ (i := 10) (N := some 39) (rl [14,2]) (fun K hK => ?_)
    refine Kd.R_append_rows_step (Kd.int .u8) (w0 := w) w.heap.size (by rfl) (.tmp 33) (.tmp 38) 70 5 (.int .u8 0) 1 rfl Try.underlying70 info5 rfl (by decide) (by omega) v493 t492 y495 _ _ _ (fun k_ => nb Ao30 y487.length co30 k_ ∧ nb Ao37 y495.length co37 k_) (fun _ => False) rfl rfl ?aO ?aR (fun _ _ h => h) (fun _ h => h.elim) ?aF ?aB ?aS ?aL ?_
    (case aR => exact qC ((Kd.R_reads' HO497.out).2.2))
    (case aB => exact (qB HB))
    (case aF => exact (fun k_ hk => ⟨Kd.fresh' (Kd.R_lt (qR HO_3)) k_ hk, Kd.fresh' (Kd.R_lt (qR HO497)) k_ hk⟩))
    (case aO => exact (xR1_ HO494))
    (case aS => exact (below_size (qB HB)))
    (case aL => have := LMc23.out; omega)
    intro v499 w36 ho hb hg hat
    rw [← Ny498.out] at ho
    replace HO_3 := am_ (Kd.R_after (ok := (fun k_ => nb Ao37 y495.length co37 k_)) (xR1_ HO_3) hg hat)
    replace BK486 := kG_ BK486 HO494 hg
    replace HO497 := am_ (Kd.R_after (ok := (fun k_ => nb Ao30 y487.length co30 k_)) (xR1_ HO497) hg hat)
    replace HB := am_ (hb)
    have HO500 := am_ (ho)
    clear HO494
    clear ho hb hg hat
    obtain ⟨Ao38, co38, eo38⟩ := Kd.R_slice HO500.out
    (first | subst eo38 | (injection eo38 with f1_ f2_ f3_; have f4_ := f1_.symm; have f5_ := f3_.symm; clear f1_ f2_ f3_; subst f4_; subst f5_))
    refine hK.out _ _ (cz16 BK486.out) (fun hHeld => ?_)
    clear hK K
    refine nm_ (some 39) ?_
    refine on_ HT_ (i := 14) (N := some 43) (rl [15,1]) (fun K hK => ?_)
    refine goes_ Try.func126 (by kernel_rfl) rfl #[.slice Ao38 y498.length co38, .string a0_2] (by rfl) rfl rfl la_ ?_
    with_reducible refine (impl_PutText.calls kj1 _ _ y498 a0_2 t501 _ ?side1 ?side2 A24.out).mono ?_
    (case side1 => exact qC ((Kd.R_reads' HO500.out).2.2))
    (case side2 => exact (Kd.R_reads' HO500.out).2.1)
    rintro e w39 ⟨v502, rfl, ho0, hb⟩
    refine ⟨_, rfl, ?_⟩
    have HO503 := am_ (Kd.R_lower (Kd.R_new' (Kd.R_new' (Kd.R_new' ho0 (Kd.R_lt (qR HO_3))) (Kd.R_lt (qR HO497))) (Kd.R_lt (qR HO500))) (below_size (qB HB)))
    replace HO_3 := eA_ HO_3 ho0 hb
    replace HO497 := eA_ HO497 ho0 hb
    replace HO500 := eA_ HO500 ho0 hb
    replace BK486 := bK_ BK486 hb
    replace HB := bS_ HB hb
    (try clear hb ho0)
    refine hK.out _ _ (cz16 BK486.out) (fun hHeld => ?_)
    clear hK K
    refine nm_ (some 43) ?_
    refine pq_ 15 3 HT_ (rl [16]) ?_
    refine done_ (done_of HT_.out (by kernel_rfl)) ?_
    try go_wp2
    replace HO_3 := am_ (Kd.R_drew HO_3.out)
    replace HO497 := am_ (Kd.R_drew HO497.out)
    replace HO500 := am_ (Kd.R_drew HO500.out)
    replace HO503 := am_ (Kd.R_drew HO503.out)
    replace BK486 := am_ (blk_drew BK486.out)
    replace HB := am_ (below_drew1 HB.out)
    obtain ⟨Ao41, co41, eo41⟩ := Kd.R_slice HO503.out
    (first | subst eo41 | (injection eo41 with f1_ f2_ f3_; have f4_ := f1_.symm; have f5_ := f3_.symm; clear f1_ f2_ f3_; subst f4_; subst f5_))
    refine start_ (n := 14) (S := fun w' => w'.cell? ⟨gb486, 0, none⟩ = some (.int .i64 a0_0) ∧ w'.cell? ⟨gb486, 1, none⟩ = some (.int .i64 a0_1) ∧ w'.cell? ⟨gb486, 2, none⟩ = some (.string a0_2) ∧ w'.cell? ⟨gb486, 3, none⟩ = some (.int .i64 a0_3) ∧ w'.cell? ⟨gb486, 4, none⟩ = some (.int .i64 a0_4) ∧ w'.cell? ⟨gb486, 5, none⟩ = some (.int .i64 a0_5) ∧ w'.cell? ⟨gb486, 6, none⟩ = some (.string a0_6) ∧ w'.cell? ⟨gb486, 7, none⟩ = some (.int .i64 a0_7) ∧ w'.cell? ⟨gb486, 8, none⟩ = some (.int .i64 a0_8) ∧ w'.cell? ⟨gb486, 9, none⟩ = some (.int .i64 a0_9) ∧ w'.cell? ⟨gb486, 10, none⟩ = some (.string a0_10) ∧ w'.cell? ⟨gb486, 11, none⟩ = some (.int .i64 a0_11) ∧ w'.cell? ⟨gb486, 12, none⟩ = some (.int .i64 a0_12) ∧ w'.cell? ⟨gb486, 13, none⟩ = some (.int .i64 a0_13) ∧ w'.cell? ⟨gb486, 14, none⟩ = some (.int .i64 a0_14) ∧ w'.cell? ⟨gb486, 15, none⟩ = some (.int .i64 a0_15)) (ds := []) (rl [0,14]) (by kernel_rfl) rfl rfl (cz16 BK486.out) (fun hHeld => ?_); refine with_tabW impl_PutItem.tab4 impl_PutItem.bits4 (fun HT_ HW_ => ?_)
    generalize w39.drew = w40 at HO_3 HO497 HO500 HO503 BK486 HB hHeld ⊢
    refine pq_ 0 44 HT_ (rl [1,13]) ?_
    refine pq_ 1 45 HT_ (rl [2,12]) ?_
    refine pq_ 2 46 HT_ (rl [3,11]) ?_
    refine pq_ 5 49 HT_ (rl [3,2,1,8]) ?_
    refine pq_ 6 50 HT_ (rl [3,2,2,7]) ?_
    refine pq_ 9 53 HT_ (rl [3,2,2,2,1,4]) ?_
    refine pq_ 10 54 HT_ (rl [3,2,2,2,2,3]) ?_
    refine tz_ (i := 3) (N := some 47) HT_ HW_ (rl [4,1,2,2,2,3]) rfl rfl hHeld ?_
    refine tz_ (i := 7) (N := some 51) HT_ HW_ (rl [4,1,3,1,2,3]) rfl rfl hHeld ?_
    refine tz_ (i := 11) (N := some 55) HT_ HW_ (rl [4,1,3,1,3,2]) rfl rfl hHeld ?_
    refine on_ HT_ (i := 4) (N := some 48) (rl [8,1,3,2]) (fun K hK => ?_)
    refine goes_ Try.func112 (by kernel_rfl) rfl #[.slice Ao41 t501.length co41, .int .i64 a0_4] (by rfl) rfl rfl la_ ?_
    with_reducible refine (impl_PutWord.calls _ _ t501 a0_4 t504 _ ?side1 ?side2 A25.out).mono ?_
    (case side1 => exact qC ((Kd.R_reads' HO503.out).2.2))
    (case side2 => exact (Kd.R_reads' HO503.out).2.1)
    rintro e w42 ⟨v505, rfl, ho0, hb⟩
    refine ⟨_, rfl, ?_⟩
    have HO506 := am_ (Kd.R_lower (Kd.R_new' (Kd.R_new' (Kd.R_new' (Kd.R_new' ho0 (Kd.R_lt (qR HO_3))) (Kd.R_lt (qR HO497))) (Kd.R_lt (qR HO500))) (Kd.R_lt (qR HO503))) (below_size (qB HB)))
    replace HO_3 := eA_ HO_3 ho0 hb
    replace HO497 := eA_ HO497 ho0 hb
    replace HO500 := eA_ HO500 ho0 hb
    replace HO503 := eA_ HO503 ho0 hb
    replace BK486 := bK_ BK486 hb
    replace HB := bS_ HB hb
    (try clear hb ho0)
    obtain ⟨Ao43, co43, eo43⟩ := Kd.R_slice HO506.out
    (first | subst eo43 | (injection eo43 with f1_ f2_ f3_; have f4_ := f1_.symm; have f5_ := f3_.symm; clear f1_ f2_ f3_; subst f4_; subst f5_))
    refine hK.out _ _ (cz16 BK486.out) (fun hHeld => ?_)
    clear hK K
    refine nm_ (some 48) ?_
    refine on_ HT_ (i := 8) (N := some 52) (rl [12,2]) (fun K hK => ?_)
    refine goes_ Try.func127 (by kernel_rfl) rfl #[.slice Ao43 t504.length co43, .int .i64 a0_5] (by rfl) rfl rfl la_ ?_
    with_reducible refine (impl_putSince.calls _ _ t504 a0_5 t507 _ ?side1 ?side2 A26.out).mono ?_
    (case side1 => exact qC ((Kd.R_reads' HO506.out).2.2))
    (case side2 => exact (Kd.R_reads' HO506.out).2.1)
    rintro e w44 ⟨v508, rfl, ho0, hb⟩
    refine ⟨_, rfl, ?_⟩
    have HO509 := am_ (Kd.R_lower (Kd.R_new' (Kd.R_new' (Kd.R_new' (Kd.R_new' (Kd.R_new' ho0 (Kd.R_lt (qR HO_3))) (Kd.R_lt (qR HO497))) (Kd.R_lt (qR HO500))) (Kd.R_lt (qR HO503))) (Kd.R_lt (qR HO506))) (below_size (qB HB)))
    replace HO_3 := eA_ HO_3 ho0 hb
    replace HO497 := eA_ HO497 ho0 hb
    replace HO500 := eA_ HO500 ho0 hb
    replace HO503 := eA_ HO503 ho0 hb
    replace HO506 := eA_ HO506 ho0 hb
    replace BK486 := bK_ BK486 hb
    replace HB := bS_ HB hb
    (try clear hb ho0)
    obtain ⟨Ao45, co45, eo45⟩ := Kd.R_slice HO509.out
    (first | subst eo45 | (injection eo45 with f1_ f2_ f3_; have f4_ := f1_.symm; have f5_ := f3_.symm; clear f1_ f2_ f3_; subst f4_; subst f5_))
    refine hK.out _ _ (cz16 BK486.out) (fun hHeld => ?_)
    clear hK K
    refine nm_ (some 52) ?_
    refine on_ HT_ (i := 12) (N := some 56) (rl [13,1]) (fun K hK => ?_)
    refine goes_ Try.func126 (by kernel_rfl) rfl #[.slice Ao45 t507.length co45, .string a0_6] (by rfl) rfl rfl la_ ?_
    with_reducible refine (impl_PutText.calls kj1 _ _ t507 a0_6 t510 _ ?side1 ?side2 A27.out).mono ?_
    (case side1 => exact qC ((Kd.R_reads' HO509.out).2.2))
    (case side2 => exact (Kd.R_reads' HO509.out).2.1)
    rintro e w46 ⟨v511, rfl, ho0, hb⟩
    refine ⟨_, rfl, ?_⟩
    have HO512 := am_ (Kd.R_lower (Kd.R_new' (Kd.R_new' (Kd.R_new' (Kd.R_new' (Kd.R_new' (Kd.R_new' ho0 (Kd.R_lt (qR HO_3))) (Kd.R_lt (qR HO497))) (Kd.R_lt (qR HO500))) (Kd.R_lt (qR HO503))) (Kd.R_lt (qR HO506))) (Kd.R_lt (qR HO509))) (below_size (qB HB)))
    replace HO_3 := eA_ HO_3 ho0 hb
    replace HO497 := eA_ HO497 ho0 hb
    replace HO500 := eA_ HO500 ho0 hb
    replace HO503 := eA_ HO503 ho0 hb
    replace HO506 := eA_ HO506 ho0 hb
    replace HO509 := eA_ HO509 ho0 hb
    replace BK486 := bK_ BK486 hb
    replace HB := bS_ HB hb
    (try clear hb ho0)
    refine hK.out _ _ (cz16 BK486.out) (fun hHeld => ?_)
    clear hK K
    refine nm_ (some 56) ?_
    refine pq_ 13 3 HT_ (rl [14]) ?_
    refine done_ (done_of HT_.out (by kernel_rfl)) ?_
    try go_wp2
    replace HO_3 := am_ (Kd.R_drew HO_3.out)
    replace HO497 := am_ (Kd.R_drew HO497.out)
    replace HO500 := am_ (Kd.R_drew HO500.out)
    replace HO503 := am_ (Kd.R_drew HO503.out)
    replace HO506 := am_ (Kd.R_drew HO506.out)
    replace HO509 := am_ (Kd.R_drew HO509.out)
    replace HO512 := am_ (Kd.R_drew HO512.out)
    replace BK486 := am_ (blk_drew BK486.out)
    replace HB := am_ (below_drew1 HB.out)
    obtain ⟨Ao48, co48, eo48⟩ := Kd.R_slice HO512.out
    (first | subst eo48 | (injection eo48 with f1_ f2_ f3_; have f4_ := f1_.symm; have f5_ := f3_.symm; clear f1_ f2_ f3_; subst f4_; subst f5_))
    refine start_ (n := 10) (S := fun w' => w'.cell? ⟨gb486, 0, none⟩ = some (.int .i64 a0_0) ∧ w'.cell? ⟨gb486, 1, none⟩ = some (.int .i64 a0_1) ∧ w'.cell? ⟨gb486, 2, none⟩ = some (.string a0_2) ∧ w'.cell? ⟨gb486, 3, none⟩ = some (.int .i64 a0_3) ∧ w'.cell? ⟨gb486, 4, none⟩ = some (.int .i64 a0_4) ∧ w'.cell? ⟨gb486, 5, none⟩ = some (.int .i64 a0_5) ∧ w'.cell? ⟨gb486, 6, none⟩ = some (.string a0_6) ∧ w'.cell? ⟨gb486, 7, none⟩ = some (.int .i64 a0_7) ∧ w'.cell? ⟨gb486, 8, none⟩ = some (.int .i64 a0_8) ∧ w'.cell? ⟨gb486, 9, none⟩ = some (.int .i64 a0_9) ∧ w'.cell? ⟨gb486, 10, none⟩ = some (.string a0_10) ∧ w'.cell? ⟨gb486, 11, none⟩ = some (.int .i64 a0_11) ∧ w'.cell? ⟨gb486, 12, none⟩ = some (.int .i64 a0_12) ∧ w'.cell? ⟨gb486, 13, none⟩ = some (.int .i64 a0_13) ∧ w'.cell? ⟨gb486, 14, none⟩ = some (.int .i64 a0_14) ∧ w'.cell? ⟨gb486, 15, none⟩ = some (.int .i64 a0_15)) (ds := []) #[oo,oo,oo,oo,oo,oo,oo,oo,oo,oo] (by kernel_rfl) rfl rfl (cz16 BK486.out) (fun hHeld => ?_); refine with_tabW impl_PutItem.tab5 impl_PutItem.bits5 (fun HT_ HW_ => ?_)
    generalize w46.drew = w47 at HO_3 HO497 HO500 HO503 HO506 HO509 HO512 BK486 HB hHeld ⊢
    refine pq_ 0 57 HT_ #[ii,oo,oo,oo,oo,oo,oo,oo,oo,oo] ?_
    refine pq_ 1 58 HT_ #[ii,ii,oo,oo,oo,oo,oo,oo,oo,oo] ?_
    refine pq_ 2 59 HT_ #[ii,ii,ii,oo,oo,oo,oo,oo,oo,oo] ?_
    refine pq_ 5 62 HT_ #[ii,ii,ii,oo,oo,ii,oo,oo,oo,oo] ?_
    refine pq_ 6 63 HT_ #[ii,ii,ii,oo,oo,ii,ii,oo,oo,oo] ?_
    refine tz_ (i := 3) (N := some 60) HT_ HW_ #[ii,ii,ii,ii,oo,ii,ii,oo,oo,oo] rfl rfl hHeld ?_
    refine tz_ (i := 7) (N := some 64) HT_ HW_ #[ii,ii,ii,ii,oo,ii,ii,ii,oo,oo] rfl rfl hHeld ?_
    refine on_ HT_ (i := 4) (N := some 61) #[ii,ii,ii,ii,ii,ii,ii,ii,oo,oo] (fun K hK => ?_)
    refine goes_ Try.func112 (by kernel_rfl) rfl #[.slice Ao48 t510.length co48, .int .i64 a0_7] (by rfl) rfl rfl la_ ?_
    with_reducible refine (impl_PutWord.calls _ _ t510 a0_7 t513 _ ?side1 ?side2 A28.out).mono ?_
    (case side1 => exact qC ((Kd.R_reads' HO512.out).2.2))
    (case side2 => exact (Kd.R_reads' HO512.out).2.1)
    rintro e w49 ⟨v514, rfl, ho0, hb⟩
    refine ⟨_, rfl, ?_⟩
    have HO515 := am_ (Kd.R_lower (Kd.R_new' (Kd.R_new' (Kd.R_new' (Kd.R_new' (Kd.R_new' (Kd.R_new' (Kd.R_new' ho0 (Kd.R_lt (qR HO_3))) (Kd.R_lt (qR HO497))) (Kd.R_lt (qR HO500))) (Kd.R_lt (qR HO503))) (Kd.R_lt (qR HO506))) (Kd.R_lt (qR HO509))) (Kd.R_lt (qR HO512))) (below_size (qB HB)))
    replace HO_3 := eA_ HO_3 ho0 hb
    replace HO497 := eA_ HO497 ho0 hb
    replace HO500 := eA_ HO500 ho0 hb
    replace HO503 := eA_ HO503 ho0 hb
    replace HO506 := eA_ HO506 ho0 hb
    replace HO509 := eA_ HO509 ho0 hb
    replace HO512 := eA_ HO512 ho0 hb
    replace BK486 := bK_ BK486 hb
    replace HB := bS_ HB hb
    (try clear hb ho0)
    obtain ⟨Ao50, co50, eo50⟩ := Kd.R_slice HO515.out
    (first | subst eo50 | (injection eo50 with f1_ f2_ f3_; have f4_ := f1_.symm; have f5_ := f3_.symm; clear f1_ f2_ f3_; subst f4_; subst f5_))
    refine hK.out _ _ (cz16 BK486.out) (fun hHeld => ?_)
    clear hK K
    refine nm_ (some 61) ?_
    refine on_ HT_ (i := 8) (N := some 65) #[ii,ii,ii,ii,ii,ii,ii,ii,ii,oo] (fun K hK => ?_)
    refine goes_ Try.func112 (by kernel_rfl) rfl #[.slice Ao50 t513.length co50, .int .i64 a0_8] (by rfl) rfl rfl la_ ?_
    with_reducible refine (impl_PutWord.calls _ _ t513 a0_8 t516 _ ?side1 ?side2 A29.out).mono ?_
    (case side1 => exact qC ((Kd.R_reads' HO515.out).2.2))
    (case side2 => exact (Kd.R_reads' HO515.out).2.1)
    rintro e w51 ⟨v517, rfl, ho0, hb⟩
    refine ⟨_, rfl, ?_⟩
    have HO518 := am_ (Kd.R_lower (Kd.R_new' (Kd.R_new' (Kd.R_new' (Kd.R_new' (Kd.R_new' (Kd.R_new' (Kd.R_new' (Kd.R_new' ho0 (Kd.R_lt (qR HO_3))) (Kd.R_lt (qR HO497))) (Kd.R_lt (qR HO500))) (Kd.R_lt (qR HO503))) (Kd.R_lt (qR HO506))) (Kd.R_lt (qR HO509))) (Kd.R_lt (qR HO512))) (Kd.R_lt (qR HO515))) (below_size (qB HB)))
    replace HO_3 := eA_ HO_3 ho0 hb
    replace HO497 := eA_ HO497 ho0 hb
    replace HO500 := eA_ HO500 ho0 hb
    replace HO503 := eA_ HO503 ho0 hb
    replace HO506 := eA_ HO506 ho0 hb
    replace HO509 := eA_ HO509 ho0 hb
    replace HO512 := eA_ HO512 ho0 hb
    replace HO515 := eA_ HO515 ho0 hb
    replace BK486 := bK_ BK486 hb
    replace HB := bS_ HB hb
    (try clear hb ho0)
    refine hK.out _ _ (cz16 BK486.out) (fun hHeld => ?_)
    clear hK K
    refine nm_ (some 65) ?_
    refine pq_ 9 2 HT_ #[ii,ii,ii,ii,ii,ii,ii,ii,ii,ii] ?_
    refine done_ (done_of HT_.out (by kernel_rfl)) ?_
    try go_wp2
    go_ret
    exact ⟨_, er_, (xR1_ HO518), qB HB⟩
   replace c21 := Bool.eq_false_iff.mpr c21
   subst c21
   rw [if_neg (show ¬ (false = true) by decide)] at H
   have HC52 := Aside0.mk H
   clear H
   go_upto_region 6 with (fail)
   go_cut [66] (fun v66 wc => ∃ (kq : Nat) (x66_51 : Bool), v66 = .bool x66_51 ∧ Aside0 (impl_PutItem.j1 kq y487 x66_51 a0_0 a0_1 a0_2 a0_3 a0_4 a0_5 a0_6 a0_7 a0_8 a0_9 a0_10 a0_11 a0_12 a0_13 a0_14 a0_15 = some r) ∧ Aside0 (kq ≤ kj1) ∧ Aside0 (Kd.R (Kd.int .u8) 5 wc w.heap.size (fun _ => True) v488 y487) ∧ Aside0 (wc.heap[gb486]? = some (.cells #[.int .i64 a0_0, .int .i64 a0_1, .string a0_2, .int .i64 a0_3, .int .i64 a0_4, .int .i64 a0_5, .string a0_6, .int .i64 a0_7, .int .i64 a0_8, .int .i64 a0_9, .string a0_10, .int .i64 a0_11, .int .i64 a0_12, .int .i64 a0_13, .int .i64 a0_14, .int .i64 a0_15] 126 (0, 0))) ∧ Aside0 (Below w.heap.size w wc))
   case first =>
    have H := HC52.out
    clear HC52
    replace H := ie_ H
    obtain ⟨-, H, c53b0, c53b1⟩ | ⟨c53, H, c53b0, c53b1⟩ := H
    rotate_left
    ·
     (first | rw [c53b0] | rw [c53b1] | (simp only [i64_w, i32_w]; rw [c53b0]) | skip)
     have H' := Aside0.mk H
     clear H
     (try clear zK486)
     have zK486 := cz16 BK486.out
     (try clear fK486)
     have fK486 := fz16 BK486.out
     go_wp2
     go_meet
     case rel => exact ⟨_, (false), eqq_, H', ⟨by have := HJ1.out; first | omega | exact Nat.le_refl _⟩, ⟨qR HO_3⟩, ⟨qK BK486⟩, ⟨qB HB⟩⟩
    (first | rw [c53b0] | rw [c53b1] | (simp only [i64_w, i32_w]; rw [c53b0]) | skip)
    replace H := bd_ H
    obtain ⟨t519, A54, H⟩ := H
    by_cases c55 : t519 = true
    rotate_left
    ·
     replace c55 := Bool.eq_false_iff.mpr c55
     subst c55
     rw [if_neg (show ¬ (false = true) by decide)] at H
     have H' := Aside0.mk H
     clear H
     (try clear zK486)
     have zK486 := cz16 BK486.out
     (try clear fK486)
     have fK486 := fz16 BK486.out
     go_wp2_with (first | (go_at_call 128; (with_reducible refine (impl_LineOk.calls kj1 a0_9 a0_10 a0_11 a0_12 a0_13 a0_14 a0_15 false _ A54.out).mono ?_); rintro e w65 ⟨rfl, hb⟩; replace HO_3 := rB_ HO_3 hb; replace BK486 := bK_ BK486 hb; replace HB := bS_ HB hb; (try clear hb)))
     go_meet
     case rel => exact ⟨_, (false), eqq_, H', ⟨by have := HJ1.out; first | omega | exact Nat.le_refl _⟩, ⟨qR HO_3⟩, ⟨qK BK486⟩, ⟨qB HB⟩⟩
    subst c55
    rw [if_pos rfl] at H
    replace H := id_ H
    obtain ⟨c56, H, -⟩ | ⟨c56, H, -⟩ := H
    ·
     have c56b0 : (a0_1 == 0 && (a0_2.toList == ([] : List UInt8) && (a0_3 == 0 && (a0_4 == 0 && (a0_5 == 0 && (a0_6.toList == ([] : List UInt8) && (a0_7 == 0 && (a0_8 == 0)))))))) = true := c56
     (try (have c56b0e := c56b0; simp only [beq_nil, bne_nil] at c56b0e))
     (try (have c56b1 : decide (a0_1 = 0 && (a0_2.toList == ([] : List UInt8) && (a0_3 == 0 && (a0_4 == 0 && (a0_5 == 0 && (a0_6.toList == ([] : List UInt8) && (a0_7 == 0 && (a0_8 == 0)))))))) = true := by simpa using c56))
     (try (have c56b1e := c56b1; simp only [beq_nil, bne_nil] at c56b1e))
     (try (have c56b2 : (a0_1 == 0 && (a0_2.toList == ([] : List UInt8) && (a0_3 == 0 && (a0_4 == 0 && (a0_5 == 0 && (a0_6.toList == ([] : List UInt8) && (a0_7 == 0 && (a0_8 == 0)))))))) = true := by simpa using c56))
     (try (have c56b2e := c56b2; simp only [beq_nil, bne_nil] at c56b2e))
     clear c56
     replace H := bd_ H
     obtain ⟨t520, A57, H⟩ := H
     have H' := Aside0.mk H
     clear H
     (try clear zK486)
     have zK486 := cz16 BK486.out
     (try clear fK486)
     have fK486 := fz16 BK486.out
     go_wp2_with (first | (go_at_call 128; (with_reducible refine (impl_LineOk.calls kj1 a0_9 a0_10 a0_11 a0_12 a0_13 a0_14 a0_15 true _ A54.out).mono ?_); rintro e w59 ⟨rfl, hb⟩; replace HO_3 := rB_ HO_3 hb; replace BK486 := bK_ BK486 hb; replace HB := bS_ HB hb; (try clear hb); (try clear zK486); have zK486 := cz16 BK486.out; (try clear fK486); have fK486 := fz16 BK486.out) | (go_at_call 111; (with_reducible refine (impl_wordOk.calls a0_15 t520 _ A57.out).mono ?_); rintro e w' ⟨rfl, ⟨nd, rfl⟩⟩))
     go_meet
     case rel => exact ⟨_, (t520), eqq_, H', ⟨by have := HJ1.out; first | omega | exact Nat.le_refl _⟩, ⟨qR HO_3⟩, ⟨qK BK486⟩, ⟨qB HB⟩⟩
    have c56b0 : (a0_1 == 0 && (a0_2.toList == ([] : List UInt8) && (a0_3 == 0 && (a0_4 == 0 && (a0_5 == 0 && (a0_6.toList == ([] : List UInt8) && (a0_7 == 0 && (a0_8 == 0)))))))) = false := by simpa using c56
    (try (have c56b0e := c56b0; simp only [beq_nil, bne_nil] at c56b0e))
    (try (have c56b1 : decide (a0_1 = 0 && (a0_2.toList == ([] : List UInt8) && (a0_3 == 0 && (a0_4 == 0 && (a0_5 == 0 && (a0_6.toList == ([] : List UInt8) && (a0_7 == 0 && (a0_8 == 0)))))))) = false := by simpa using c56))
    (try (have c56b1e := c56b1; simp only [beq_nil, bne_nil] at c56b1e))
    (try (have c56b2 : (a0_1 == 0 && (a0_2.toList == ([] : List UInt8) && (a0_3 == 0 && (a0_4 == 0 && (a0_5 == 0 && (a0_6.toList == ([] : List UInt8) && (a0_7 == 0 && (a0_8 == 0)))))))) = false := by simpa using c56))
    (try (have c56b2e := c56b2; simp only [beq_nil, bne_nil] at c56b2e))
    (try (have c56b3 : ¬ (a0_1 = 0 && (a0_2.toList == ([] : List UInt8) && (a0_3 == 0 && (a0_4 == 0 && (a0_5 == 0 && (a0_6.toList == ([] : List UInt8) && (a0_7 == 0 && (a0_8 == 0)))))))) := by simpa using c56))
    (try (have c56b3e := c56b3; simp only [beq_nil, bne_nil] at c56b3e))
    clear c56
    have H' := Aside0.mk H
    clear H
    (try clear zK486)
    have zK486 := cz16 BK486.out
    (try clear fK486)
    have fK486 := fz16 BK486.out
    go_wp2_with (first | (go_at_call 128; (with_reducible refine (impl_LineOk.calls kj1 a0_9 a0_10 a0_11 a0_12 a0_13 a0_14 a0_15 true _ A54.out).mono ?_); rintro e w62 ⟨rfl, hb⟩; replace HO_3 := rB_ HO_3 hb; replace BK486 := bK_ BK486 hb; replace HB := bS_ HB hb; (try clear hb); (try clear zK486); have zK486 := cz16 BK486.out; (try clear fK486); have fK486 := fz16 BK486.out))
    go_meet
    case rel => exact ⟨_, (false), eqq_, H', ⟨by have := HJ1.out; first | omega | exact Nat.le_refl _⟩, ⟨qR HO_3⟩, ⟨qK BK486⟩, ⟨qB HB⟩⟩
   case rest =>
    clear HC52
    try clear c1
    try clear c2
    try clear p2
    try clear c5
    try clear c11
    try clear c12
    try clear c21
    try clear c23
    try clear c53
    try clear c53b0
    try clear c53b1
    try clear c55
    try clear c56
    try clear c56b0
    try clear c56b1
    try clear c56b2
    (try clear zK486)
    (try clear zK486)
    (try clear zK486)
    (try clear zK486)
    (try clear zK486)
    (try clear zK486)
    (try clear fK486)
    (try clear fK486)
    (try clear fK486)
    (try clear fK486)
    (try clear fK486)
    (try clear fK486)
    obtain ⟨kq, x66_51, rfl, HA, HJ51, HO_3, BK486, HB⟩ := hcut
    cases kq with
    | zero => exact absurd HA.out (by simp [impl_PutItem.j1])
    | succ kj51 =>
     have H := HA.out
     clear HA
     simp only [impl_PutItem.j1] at H
     by_cases c67 : x66_51 = true
     rotate_left
     ·
      replace c67 := Bool.eq_false_iff.mpr c67
      subst c67
      rw [if_neg (show ¬ (false = true) by decide)] at H
      obtain ⟨y545, hy545⟩ : ∃ y_ : List Int, y_ = (([] : List Int)) := ⟨_, rfl⟩
      rw [← hy545] at H
      have Ny545 := Aside0.mk hy545
      clear hy545
      obtain rfl := Option.some.inj H
      go_wp2_with (first | ((with_reducible refine gate_dst (N := 120) rfl ?_); refine Kd.R_lit (Kd.int .u8) _ 5 ?hg (N := 120) ?hd (xs := ([] : List Int)) (inner := []) (ok := fun _ => True) (okp := fun _ => True) ?hr ?hp (fun _ hk => hk) trivial (Below.refl _ _) (Nat.le_refl _) (by simp) ?_; (case hd => rfl); (case hg => rfl); (case hr => first | (go_simp; done) | (go_simp; rfl)); (case hp => exact (Reps.none _ _)); intro v546 w95 ho96 hb hg_ hnew_; clear hg_ hnew_; (first | rw [← Ny545.out] at ho96 | (simp only [Int.reduceToNat] at ho96; rw [← Ny545.out] at ho96)); have HO547 := am_ (Kd.R_lower (Kd.R_new' ho96 (Kd.R_lt (qR HO_3))) (below_size (qB HB))); replace HO_3 := eA_ HO_3 ho96 hb; replace BK486 := bK_ BK486 hb; replace HB := bS_ HB hb; clear hb ho96))
      go_ret
      exact ⟨_, er_, (xR1_ HO547), qB HB⟩
     subst c67
     rw [if_pos rfl] at H
     replace H := bd_ H
     obtain ⟨t521, A68, H⟩ := H
     obtain ⟨y524, hy524⟩ : ∃ y_ : List Int, y_ = (([(a0_12) % 256] : List Int)) := ⟨_, rfl⟩
     replace H := mk_ H hy524
     (try dsimp only at H)
     have Ny524 := Aside0.mk hy524
     clear hy524
     replace H := ip_ H
     obtain ⟨c69, H, -⟩ := H
     have LMc69 := Aside0.mk c69
     clear c69
     obtain ⟨y527, hy527⟩ : ∃ y_ : List Int, y_ = (t521 ++ y524) := ⟨_, rfl⟩
     replace H : ((impl_PutText.f kj51 y527 a0_10).bind fun t530 => ((impl_PutWord.f t530 a0_11).bind fun t533 => ((impl_putSince.f t533 a0_13).bind fun t536 => ((impl_PutWord.f t536 a0_14).bind fun t539 => ((impl_PutWord.f t539 a0_15).bind fun t542 => (some t542)))))) = some r := by first | (rw [hy527]; with_reducible exact H) | (have H2_ := (Option.bind_some _ _).symm.trans H; rw [hy527]; with_reducible exact H2_) | (have H2_ := (Option.bind_some _ _).symm.trans H; with_reducible exact H2_) | with_reducible exact H | (rw [hy527]; exact H) | exact H
     have Ny527 := Aside0.mk hy527
     clear hy527
     replace H := bd_ H
     obtain ⟨t530, A70, H⟩ := H
     replace H := bd_ H
     obtain ⟨t533, A71, H⟩ := H
     replace H := bd_ H
     obtain ⟨t536, A72, H⟩ := H
     replace H := bd_ H
     obtain ⟨t539, A73, H⟩ := H
     replace H := bd_ H
     obtain ⟨t542, A74, H⟩ := H
     obtain rfl := Option.some.inj H
     obtain ⟨Ao75, co75, eo75⟩ := Kd.R_slice HO_3.out
     subst eo75
     try go_wp2
     replace HO_3 := am_ (Kd.R_drew HO_3.out)
     replace BK486 := am_ (blk_drew BK486.out)
     replace HB := am_ (below_drew1 HB.out)
     refine start_ (n := 16) (S := fun w' => w'.cell? ⟨gb486, 0, none⟩ = some (.int .i64 a0_0) ∧ w'.cell? ⟨gb486, 1, none⟩ = some (.int .i64 a0_1) ∧ w'.cell? ⟨gb486, 2, none⟩ = some (.string a0_2) ∧ w'.cell? ⟨gb486, 3, none⟩ = some (.int .i64 a0_3) ∧ w'.cell? ⟨gb486, 4, none⟩ = some (.int .i64 a0_4) ∧ w'.cell? ⟨gb486, 5, none⟩ = some (.int .i64 a0_5) ∧ w'.cell? ⟨gb486, 6, none⟩ = some (.string a0_6) ∧ w'.cell? ⟨gb486, 7, none⟩ = some (.int .i64 a0_7) ∧ w'.cell? ⟨gb486, 8, none⟩ = some (.int .i64 a0_8) ∧ w'.cell? ⟨gb486, 9, none⟩ = some (.int .i64 a0_9) ∧ w'.cell? ⟨gb486, 10, none⟩ = some (.string a0_10) ∧ w'.cell? ⟨gb486, 11, none⟩ = some (.int .i64 a0_11) ∧ w'.cell? ⟨gb486, 12, none⟩ = some (.int .i64 a0_12) ∧ w'.cell? ⟨gb486, 13, none⟩ = some (.int .i64 a0_13) ∧ w'.cell? ⟨gb486, 14, none⟩ = some (.int .i64 a0_14) ∧ w'.cell? ⟨gb486, 15, none⟩ = some (.int .i64 a0_15)) (ds := []) (rl [0,16]) (by kernel_rfl) rfl rfl (cz16 BK486.out) (fun hHeld => ?_); refine with_tabW impl_PutItem.tab7 impl_PutItem.bits7 (fun HT_ HW_ => ?_)
     generalize wc.drew = w76 at HO_3 BK486 HB hHeld ⊢
     refine pq_ 0 87 HT_ (rl [1,15]) ?_
     refine pq_ 1 88 HT_ (rl [2,14]) ?_
     refine pq_ 2 89 HT_ (rl [3,13]) ?_
     refine pq_ 5 92 HT_ (rl [3,2,1,10]) ?_
     refine pq_ 6 93 HT_ (rl [3,2,2,9]) ?_
     refine pq_ 11 98 HT_ (rl [3,2,2,4,1,4]) ?_
     refine pq_ 12 99 HT_ (rl [3,2,2,4,2,3]) ?_
     refine tz_ (i := 3) (N := some 90) HT_ HW_ (rl [4,1,2,4,2,3]) rfl rfl hHeld ?_
     refine tz_ (i := 7) (N := some 94) HT_ HW_ (rl [4,1,3,3,2,3]) rfl rfl hHeld ?_
     refine pq_ 8 95 HT_ (rl [4,1,4,2,2,3]) ?_
     refine tz_ (i := 13) (N := some 100) HT_ HW_ (rl [4,1,4,2,3,2]) rfl rfl hHeld ?_
     refine join_ (σ := Value × Value) 3 (rl [10,1,3,2]) (fun s_ => [(91, s_.1), (96, s_.2)]) (fun s_ w' => (w'.cell? ⟨gb486, 0, none⟩ = some (.int .i64 a0_0) ∧ w'.cell? ⟨gb486, 1, none⟩ = some (.int .i64 a0_1) ∧ w'.cell? ⟨gb486, 2, none⟩ = some (.string a0_2) ∧ w'.cell? ⟨gb486, 3, none⟩ = some (.int .i64 a0_3) ∧ w'.cell? ⟨gb486, 4, none⟩ = some (.int .i64 a0_4) ∧ w'.cell? ⟨gb486, 5, none⟩ = some (.int .i64 a0_5) ∧ w'.cell? ⟨gb486, 6, none⟩ = some (.string a0_6) ∧ w'.cell? ⟨gb486, 7, none⟩ = some (.int .i64 a0_7) ∧ w'.cell? ⟨gb486, 8, none⟩ = some (.int .i64 a0_8) ∧ w'.cell? ⟨gb486, 9, none⟩ = some (.int .i64 a0_9) ∧ w'.cell? ⟨gb486, 10, none⟩ = some (.string a0_10) ∧ w'.cell? ⟨gb486, 11, none⟩ = some (.int .i64 a0_11) ∧ w'.cell? ⟨gb486, 12, none⟩ = some (.int .i64 a0_12) ∧ w'.cell? ⟨gb486, 13, none⟩ = some (.int .i64 a0_13) ∧ w'.cell? ⟨gb486, 14, none⟩ = some (.int .i64 a0_14) ∧ w'.cell? ⟨gb486, 15, none⟩ = some (.int .i64 a0_15)) ∧ (Kd.R (Kd.int .u8) 5 w' w.heap.size (fun k_ => some k_ ≠ (s_.2 : Value).ownBlock ∧ nb Ao75 y487.length co75 k_) s_.1 t521) ∧ (Kd.R (Kd.int .u8) 5 w' w.heap.size (fun k_ => some k_ ≠ (s_.1 : Value).ownBlock ∧ nb Ao75 y487.length co75 k_) s_.2 y524) ∧ (Kd.R (Kd.int .u8) 5 w' w.heap.size (fun k_ => some k_ ≠ (s_.1 : Value).ownBlock ∧ some k_ ≠ (s_.2 : Value).ownBlock) (.slice Ao75 y487.length co75) y487) ∧ (w'.heap[gb486]? = some (.cells #[.int .i64 a0_0, .int .i64 a0_1, .string a0_2, .int .i64 a0_3, .int .i64 a0_4, .int .i64 a0_5, .string a0_6, .int .i64 a0_7, .int .i64 a0_8, .int .i64 a0_9, .string a0_10, .int .i64 a0_11, .int .i64 a0_12, .int .i64 a0_13, .int .i64 a0_14, .int .i64 a0_15] 126 (0, 0))) ∧ (Below w.heap.size w w')) ?_ ?_
     rotate_left
     ·
      intro hCont
      refine two_ (i := 4) (j := 9) (Ni := some 91) (Nj := some 96) (rl [9,2,3,2]) (rl [4,1,5,1,3,2]) rfl rfl rfl rfl (two_of HT_.out (by kernel_rfl)) (by decide) (by decide) (fun K hK => ?_) (fun K hK => ?_)
      ·
       skip
       refine goes_ Try.func112 (by kernel_rfl) rfl #[.slice Ao75 y487.length co75, .int .i64 a0_9] (by rfl) rfl rfl la_ ?_
       with_reducible refine (impl_PutWord.calls _ _ y487 a0_9 t521 _ ?side1 ?side2 A68.out).mono ?_
       (case side1 => exact qC ((Kd.R_reads' HO_3.out).2.2))
       (case side2 => exact (Kd.R_reads' HO_3.out).2.1)
       rintro e w77 ⟨v522, rfl, ho0, hb⟩
       refine ⟨_, rfl, ?_⟩
       have HO523 := am_ (Kd.R_lower (Kd.R_new' ho0 (Kd.R_lt (qR HO_3))) (below_size (qB HB)))
       replace HO_3 := eA_ HO_3 ho0 hb
       replace BK486 := bK_ BK486 hb
       replace HB := bS_ HB hb
       (try clear hb ho0)
       refine hK.out _ _ (cz16 BK486.out) (fun hHeld => ?_)
       clear hK K
       refine nm_ (some 91) ?_
       refine on_ HT_ (i := 9) (N := some 96) (rl [10,1,3,2]) (fun K hK => ?_)
       refine Kd.R_lit_step (Kd.int .u8) _ 5 ?hg (N := 96) ?hd (xs := ([(a0_12) % 256] : List Int)) (inner := [.int .u8 ((a0_12) % 256)]) (ok := fun _ => True) (okp := fun _ => True) ?hr ?hp (fun _ hk => hk) trivial (Below.refl _ _) (Nat.le_refl _) (by simp) ?_; (case hd => rfl); (case hg => rfl); (case hr => first | (go_simp; done) | (go_simp; rfl)); (case hp => exact (Reps.one (show Kd.M (Kd.int .u8) _ _ _ ((a0_12) % 256) [.int .u8 ((a0_12) % 256)] from rfl) (Reps.none _ _)))
       intro v525 w78 ho79 hb hg_ hnew_
       clear hg_ hnew_
       (first | rw [← Ny524.out] at ho79 | (simp only [Int.reduceToNat] at ho79; rw [← Ny524.out] at ho79))
       have HO526 := am_ (Kd.R_lower (Kd.R_new' (Kd.R_new' ho79 (Kd.R_lt (qR HO_3))) (Kd.R_lt (qR HO523))) (below_size (qB HB)))
       replace HO_3 := eA_ HO_3 ho79 hb
       replace HO523 := eA_ HO523 ho79 hb
       replace BK486 := bK_ BK486 hb
       replace HB := bS_ HB hb
       clear hb ho79
       refine hK.out _ _ (cz16 BK486.out) (fun hHeld => ?_)
       clear hK K
       refine nm_ (some 96) ?_
       exact norm_ (by simp only [putAll, Act.put, List.setIfInBounds_toArray, List.set_cons_zero, List.set_cons_succ]) (hCont (v522, v525) _ ⟨hHeld, (xR1_ HO523), (xR1_ HO526), (xR1_ HO_3), (qK BK486), (qB HB)⟩)
      ·
       skip
       refine Kd.R_lit_step (Kd.int .u8) _ 5 ?hg (N := 96) ?hd (xs := ([(a0_12) % 256] : List Int)) (inner := [.int .u8 ((a0_12) % 256)]) (ok := fun _ => True) (okp := fun _ => True) ?hr ?hp (fun _ hk => hk) trivial (Below.refl _ _) (Nat.le_refl _) (by simp) ?_; (case hd => rfl); (case hg => rfl); (case hr => first | (go_simp; done) | (go_simp; rfl)); (case hp => exact (Reps.one (show Kd.M (Kd.int .u8) _ _ _ ((a0_12) % 256) [.int .u8 ((a0_12) % 256)] from rfl) (Reps.none _ _)))
       intro v525 w77 ho78 hb hg_ hnew_
       clear hg_ hnew_
       (first | rw [← Ny524.out] at ho78 | (simp only [Int.reduceToNat] at ho78; rw [← Ny524.out] at ho78))
       have HO526 := am_ (Kd.R_lower (Kd.R_new' ho78 (Kd.R_lt (qR HO_3))) (below_size (qB HB)))
       replace HO_3 := eA_ HO_3 ho78 hb
       replace BK486 := bK_ BK486 hb
       replace HB := bS_ HB hb
       clear hb ho78
       refine hK.out _ _ (cz16 BK486.out) (fun hHeld => ?_)
       clear hK K
       refine nm_ (some 96) ?_
       refine on_ HT_ (i := 4) (N := some 91) (rl [10,1,3,2]) (fun K hK => ?_)
       refine goes_ Try.func112 (by kernel_rfl) rfl #[.slice Ao75 y487.length co75, .int .i64 a0_9] (by rfl) rfl rfl la_ ?_
       with_reducible refine (impl_PutWord.calls _ _ y487 a0_9 t521 _ ?side1 ?side2 A68.out).mono ?_
       (case side1 => exact qC ((Kd.R_reads' HO_3.out).2.2))
       (case side2 => exact (Kd.R_reads' HO_3.out).2.1)
       rintro e w79 ⟨v522, rfl, ho0, hb⟩
       refine ⟨_, rfl, ?_⟩
       have HO523 := am_ (Kd.R_lower (Kd.R_new' (Kd.R_new' ho0 (Kd.R_lt (qR HO_3))) (Kd.R_lt (qR HO526))) (below_size (qB HB)))
       replace HO_3 := eA_ HO_3 ho0 hb
       replace HO526 := eA_ HO526 ho0 hb
       replace BK486 := bK_ BK486 hb
       replace HB := bS_ HB hb
       (try clear hb ho0)
       refine hK.out _ _ (cz16 BK486.out) (fun hHeld => ?_)
       clear hK K
       refine nm_ (some 91) ?_
       exact norm_ (by simp only [putAll, Act.put, List.setIfInBounds_toArray, List.set_cons_zero, List.set_cons_succ]) (hCont (v522, v525) _ ⟨hHeld, (xR1_ HO523), (xR1_ HO526), (xR1_ HO_3), (qK BK486), (qB HB)⟩)
     rintro ⟨v522, v525⟩ w80 ⟨hS_, h0_, h1_, h2_, h3_, h4_⟩
     have n0_ : Aside0 (Kd.R (Kd.int .u8) 5 w80 w.heap.size (fun k_ => nv v525 k_ ∧ nb Ao75 y487.length co75 k_) v522 t521) := ⟨h0_⟩
     have n1_ : Aside0 (Kd.R (Kd.int .u8) 5 w80 w.heap.size (fun k_ => nv v522 k_ ∧ nb Ao75 y487.length co75 k_) v525 y524) := ⟨h1_⟩
     have n2_ : Aside0 (Kd.R (Kd.int .u8) 5 w80 w.heap.size (fun k_ => nv v522 k_ ∧ nv v525 k_) (.slice Ao75 y487.length co75) y487) := ⟨h2_⟩
     have n3_ : Aside0 (w80.heap[gb486]? = some (.cells #[.int .i64 a0_0, .int .i64 a0_1, .string a0_2, .int .i64 a0_3, .int .i64 a0_4, .int .i64 a0_5, .string a0_6, .int .i64 a0_7, .int .i64 a0_8, .int .i64 a0_9, .string a0_10, .int .i64 a0_11, .int .i64 a0_12, .int .i64 a0_13, .int .i64 a0_14, .int .i64 a0_15] 126 (0, 0))) := ⟨h3_⟩
     have n4_ : Aside0 (Below w.heap.size w w80) := ⟨h4_⟩
     clear HO_3
     clear BK486
     clear HB
     clear h0_ h1_ h2_ h3_ h4_
     have HO523 := n0_
     have HO526 := n1_
     have HO_3 := n2_
     have BK486 := n3_
     have HB := n4_
     clear n0_ n1_ n2_ n3_ n4_
     have hHeld : w80.cell? ⟨gb486, 0, none⟩ = some (.int .i64 a0_0) ∧ w80.cell? ⟨gb486, 1, none⟩ = some (.int .i64 a0_1) ∧ w80.cell? ⟨gb486, 2, none⟩ = some (.string a0_2) ∧ w80.cell? ⟨gb486, 3, none⟩ = some (.int .i64 a0_3) ∧ w80.cell? ⟨gb486, 4, none⟩ = some (.int .i64 a0_4) ∧ w80.cell? ⟨gb486, 5, none⟩ = some (.int .i64 a0_5) ∧ w80.cell? ⟨gb486, 6, none⟩ = some (.string a0_6) ∧ w80.cell? ⟨gb486, 7, none⟩ = some (.int .i64 a0_7) ∧ w80.cell? ⟨gb486, 8, none⟩ = some (.int .i64 a0_8) ∧ w80.cell? ⟨gb486, 9, none⟩ = some (.int .i64 a0_9) ∧ w80.cell? ⟨gb486, 10, none⟩ = some (.string a0_10) ∧ w80.cell? ⟨gb486, 11, none⟩ = some (.int .i64 a0_11) ∧ w80.cell? ⟨gb486, 12, none⟩ = some (.int .i64 a0_12) ∧ w80.cell? ⟨gb486, 13, none⟩ = some (.int .i64 a0_13) ∧ w80.cell? ⟨gb486, 14, none⟩ = some (.int .i64 a0_14) ∧ w80.cell? ⟨gb486, 15, none⟩ = some (.int .i64 a0_15) := hS_
     obtain ⟨Ao82, co82, eo82⟩ := Kd.R_slice HO526.out
     (first | subst eo82 | (injection eo82 with f1_ f2_ f3_; have f4_ := f1_.symm; have f5_ := f3_.symm; clear f1_ f2_ f3_; subst f4_; subst f5_))
     refine norm_ (a' := ?_) ?_ ?_
     rotate_left
     ·
      simp only [putAll, Act.put, List.setIfInBounds_toArray, List.set_cons_zero, List.set_cons_succ]
      rfl
     refine on_ HT_ (i := 10) (N := some 97) (rl [14,2]) (fun K hK => ?_)
     refine Kd.R_append_rows_step (Kd.int .u8) (w0 := w) w.heap.size (by rfl) (.tmp 91) (.tmp 96) 70 5 (.int .u8 0) 1 rfl Try.underlying70 info5 rfl (by decide) (by omega) v522 t521 y524 _ _ _ (fun k_ => nb Ao75 y487.length co75 k_ ∧ nb Ao82 y524.length co82 k_) (fun _ => False) rfl rfl ?aO ?aR (fun _ _ h => h) (fun _ h => h.elim) ?aF ?aB ?aS ?aL ?_
     (case aR => exact qC ((Kd.R_reads' HO526.out).2.2))
     (case aB => exact (qB HB))
     (case aF => exact (fun k_ hk => ⟨Kd.fresh' (Kd.R_lt (qR HO_3)) k_ hk, Kd.fresh' (Kd.R_lt (qR HO526)) k_ hk⟩))
     (case aO => exact (xR1_ HO523))
     (case aS => exact (below_size (qB HB)))
     (case aL => have := LMc69.out; omega)
     intro v528 w81 ho hb hg hat
     rw [← Ny527.out] at ho
     replace HO_3 := am_ (Kd.R_after (ok := (fun k_ => nb Ao82 y524.length co82 k_)) (xR1_ HO_3) hg hat)
     replace BK486 := kG_ BK486 HO523 hg
     replace HO526 := am_ (Kd.R_after (ok := (fun k_ => nb Ao75 y487.length co75 k_)) (xR1_ HO526) hg hat)
     replace HB := am_ (hb)
     have HO529 := am_ (ho)
     clear HO523
     clear ho hb hg hat
     obtain ⟨Ao83, co83, eo83⟩ := Kd.R_slice HO529.out
     (first | subst eo83 | (injection eo83 with f1_ f2_ f3_; have f4_ := f1_.symm; have f5_ := f3_.symm; clear f1_ f2_ f3_; subst f4_; subst f5_))
     refine hK.out _ _ (cz16 BK486.out) (fun hHeld => ?_)
     clear hK K
     refine nm_ (some 97) ?_
     refine on_ HT_ (i := 14) (N := some 101) (rl [15,1]) (fun K hK => ?_)
     refine goes_ Try.func126 (by kernel_rfl) rfl #[.slice Ao83 y527.length co83, .string a0_10] (by rfl) rfl rfl la_ ?_
     with_reducible refine (impl_PutText.calls kj51 _ _ y527 a0_10 t530 _ ?side1 ?side2 A70.out).mono ?_
     (case side1 => exact qC ((Kd.R_reads' HO529.out).2.2))
     (case side2 => exact (Kd.R_reads' HO529.out).2.1)
     rintro e w84 ⟨v531, rfl, ho0, hb⟩
     refine ⟨_, rfl, ?_⟩
     have HO532 := am_ (Kd.R_lower (Kd.R_new' (Kd.R_new' (Kd.R_new' ho0 (Kd.R_lt (qR HO_3))) (Kd.R_lt (qR HO526))) (Kd.R_lt (qR HO529))) (below_size (qB HB)))
     replace HO_3 := eA_ HO_3 ho0 hb
     replace HO526 := eA_ HO526 ho0 hb
     replace HO529 := eA_ HO529 ho0 hb
     replace BK486 := bK_ BK486 hb
     replace HB := bS_ HB hb
     (try clear hb ho0)
     refine hK.out _ _ (cz16 BK486.out) (fun hHeld => ?_)
     clear hK K
     refine nm_ (some 101) ?_
     refine pq_ 15 3 HT_ (rl [16]) ?_
     refine done_ (done_of HT_.out (by kernel_rfl)) ?_
     try go_wp2
     replace HO_3 := am_ (Kd.R_drew HO_3.out)
     replace HO526 := am_ (Kd.R_drew HO526.out)
     replace HO529 := am_ (Kd.R_drew HO529.out)
     replace HO532 := am_ (Kd.R_drew HO532.out)
     replace BK486 := am_ (blk_drew BK486.out)
     replace HB := am_ (below_drew1 HB.out)
     obtain ⟨Ao86, co86, eo86⟩ := Kd.R_slice HO532.out
     (first | subst eo86 | (injection eo86 with f1_ f2_ f3_; have f4_ := f1_.symm; have f5_ := f3_.symm; clear f1_ f2_ f3_; subst f4_; subst f5_))
     refine start_ (n := 10) (S := fun w' => w'.cell? ⟨gb486, 0, none⟩ = some (.int .i64 a0_0) ∧ w'.cell? ⟨gb486, 1, none⟩ = some (.int .i64 a0_1) ∧ w'.cell? ⟨gb486, 2, none⟩ = some (.string a0_2) ∧ w'.cell? ⟨gb486, 3, none⟩ = some (.int .i64 a0_3) ∧ w'.cell? ⟨gb486, 4, none⟩ = some (.int .i64 a0_4) ∧ w'.cell? ⟨gb486, 5, none⟩ = some (.int .i64 a0_5) ∧ w'.cell? ⟨gb486, 6, none⟩ = some (.string a0_6) ∧ w'.cell? ⟨gb486, 7, none⟩ = some (.int .i64 a0_7) ∧ w'.cell? ⟨gb486, 8, none⟩ = some (.int .i64 a0_8) ∧ w'.cell? ⟨gb486, 9, none⟩ = some (.int .i64 a0_9) ∧ w'.cell? ⟨gb486, 10, none⟩ = some (.string a0_10) ∧ w'.cell? ⟨gb486, 11, none⟩ = some (.int .i64 a0_11) ∧ w'.cell? ⟨gb486, 12, none⟩ = some (.int .i64 a0_12) ∧ w'.cell? ⟨gb486, 13, none⟩ = some (.int .i64 a0_13) ∧ w'.cell? ⟨gb486, 14, none⟩ = some (.int .i64 a0_14) ∧ w'.cell? ⟨gb486, 15, none⟩ = some (.int .i64 a0_15)) (ds := []) #[oo,oo,oo,oo,oo,oo,oo,oo,oo,oo] (by kernel_rfl) rfl rfl (cz16 BK486.out) (fun hHeld => ?_); refine with_tabW impl_PutItem.tab8 impl_PutItem.bits8 (fun HT_ HW_ => ?_)
     generalize w84.drew = w85 at HO_3 HO526 HO529 HO532 BK486 HB hHeld ⊢
     refine pq_ 0 102 HT_ #[ii,oo,oo,oo,oo,oo,oo,oo,oo,oo] ?_
     refine pq_ 1 103 HT_ #[ii,ii,oo,oo,oo,oo,oo,oo,oo,oo] ?_
     refine pq_ 2 104 HT_ #[ii,ii,ii,oo,oo,oo,oo,oo,oo,oo] ?_
     refine pq_ 5 107 HT_ #[ii,ii,ii,oo,oo,ii,oo,oo,oo,oo] ?_
     refine pq_ 6 108 HT_ #[ii,ii,ii,oo,oo,ii,ii,oo,oo,oo] ?_
     refine tz_ (i := 3) (N := some 105) HT_ HW_ #[ii,ii,ii,ii,oo,ii,ii,oo,oo,oo] rfl rfl hHeld ?_
     refine tz_ (i := 7) (N := some 109) HT_ HW_ #[ii,ii,ii,ii,oo,ii,ii,ii,oo,oo] rfl rfl hHeld ?_
     refine on_ HT_ (i := 4) (N := some 106) #[ii,ii,ii,ii,ii,ii,ii,ii,oo,oo] (fun K hK => ?_)
     refine goes_ Try.func112 (by kernel_rfl) rfl #[.slice Ao86 t530.length co86, .int .i64 a0_11] (by rfl) rfl rfl la_ ?_
     with_reducible refine (impl_PutWord.calls _ _ t530 a0_11 t533 _ ?side1 ?side2 A71.out).mono ?_
     (case side1 => exact qC ((Kd.R_reads' HO532.out).2.2))
     (case side2 => exact (Kd.R_reads' HO532.out).2.1)
     rintro e w87 ⟨v534, rfl, ho0, hb⟩
     refine ⟨_, rfl, ?_⟩
     have HO535 := am_ (Kd.R_lower (Kd.R_new' (Kd.R_new' (Kd.R_new' (Kd.R_new' ho0 (Kd.R_lt (qR HO_3))) (Kd.R_lt (qR HO526))) (Kd.R_lt (qR HO529))) (Kd.R_lt (qR HO532))) (below_size (qB HB)))
     replace HO_3 := eA_ HO_3 ho0 hb
     replace HO526 := eA_ HO526 ho0 hb
     replace HO529 := eA_ HO529 ho0 hb
     replace HO532 := eA_ HO532 ho0 hb
     replace BK486 := bK_ BK486 hb
     replace HB := bS_ HB hb
     (try clear hb ho0)
     obtain ⟨Ao88, co88, eo88⟩ := Kd.R_slice HO535.out
     (first | subst eo88 | (injection eo88 with f1_ f2_ f3_; have f4_ := f1_.symm; have f5_ := f3_.symm; clear f1_ f2_ f3_; subst f4_; subst f5_))
     refine hK.out _ _ (cz16 BK486.out) (fun hHeld => ?_)
     clear hK K
     refine nm_ (some 106) ?_
     refine on_ HT_ (i := 8) (N := some 110) #[ii,ii,ii,ii,ii,ii,ii,ii,ii,oo] (fun K hK => ?_)
     refine goes_ Try.func127 (by kernel_rfl) rfl #[.slice Ao88 t533.length co88, .int .i64 a0_13] (by rfl) rfl rfl la_ ?_
     with_reducible refine (impl_putSince.calls _ _ t533 a0_13 t536 _ ?side1 ?side2 A72.out).mono ?_
     (case side1 => exact qC ((Kd.R_reads' HO535.out).2.2))
     (case side2 => exact (Kd.R_reads' HO535.out).2.1)
     rintro e w89 ⟨v537, rfl, ho0, hb⟩
     refine ⟨_, rfl, ?_⟩
     have HO538 := am_ (Kd.R_lower (Kd.R_new' (Kd.R_new' (Kd.R_new' (Kd.R_new' (Kd.R_new' ho0 (Kd.R_lt (qR HO_3))) (Kd.R_lt (qR HO526))) (Kd.R_lt (qR HO529))) (Kd.R_lt (qR HO532))) (Kd.R_lt (qR HO535))) (below_size (qB HB)))
     replace HO_3 := eA_ HO_3 ho0 hb
     replace HO526 := eA_ HO526 ho0 hb
     replace HO529 := eA_ HO529 ho0 hb
     replace HO532 := eA_ HO532 ho0 hb
     replace HO535 := eA_ HO535 ho0 hb
     replace BK486 := bK_ BK486 hb
     replace HB := bS_ HB hb
     (try clear hb ho0)
     refine hK.out _ _ (cz16 BK486.out) (fun hHeld => ?_)
     clear hK K
     refine nm_ (some 110) ?_
     refine pq_ 9 3 HT_ #[ii,ii,ii,ii,ii,ii,ii,ii,ii,ii] ?_
     refine done_ (done_of HT_.out (by kernel_rfl)) ?_
     try go_wp2
     replace HO_3 := am_ (Kd.R_drew HO_3.out)
     replace HO526 := am_ (Kd.R_drew HO526.out)
     replace HO529 := am_ (Kd.R_drew HO529.out)
     replace HO532 := am_ (Kd.R_drew HO532.out)
     replace HO535 := am_ (Kd.R_drew HO535.out)
     replace HO538 := am_ (Kd.R_drew HO538.out)
     replace BK486 := am_ (blk_drew BK486.out)
     replace HB := am_ (below_drew1 HB.out)
     obtain ⟨Ao91, co91, eo91⟩ := Kd.R_slice HO538.out
     (first | subst eo91 | (injection eo91 with f1_ f2_ f3_; have f4_ := f1_.symm; have f5_ := f3_.symm; clear f1_ f2_ f3_; subst f4_; subst f5_))
     refine start_ (n := 10) (S := fun w' => w'.cell? ⟨gb486, 0, none⟩ = some (.int .i64 a0_0) ∧ w'.cell? ⟨gb486, 1, none⟩ = some (.int .i64 a0_1) ∧ w'.cell? ⟨gb486, 2, none⟩ = some (.string a0_2) ∧ w'.cell? ⟨gb486, 3, none⟩ = some (.int .i64 a0_3) ∧ w'.cell? ⟨gb486, 4, none⟩ = some (.int .i64 a0_4) ∧ w'.cell? ⟨gb486, 5, none⟩ = some (.int .i64 a0_5) ∧ w'.cell? ⟨gb486, 6, none⟩ = some (.string a0_6) ∧ w'.cell? ⟨gb486, 7, none⟩ = some (.int .i64 a0_7) ∧ w'.cell? ⟨gb486, 8, none⟩ = some (.int .i64 a0_8) ∧ w'.cell? ⟨gb486, 9, none⟩ = some (.int .i64 a0_9) ∧ w'.cell? ⟨gb486, 10, none⟩ = some (.string a0_10) ∧ w'.cell? ⟨gb486, 11, none⟩ = some (.int .i64 a0_11) ∧ w'.cell? ⟨gb486, 12, none⟩ = some (.int .i64 a0_12) ∧ w'.cell? ⟨gb486, 13, none⟩ = some (.int .i64 a0_13) ∧ w'.cell? ⟨gb486, 14, none⟩ = some (.int .i64 a0_14) ∧ w'.cell? ⟨gb486, 15, none⟩ = some (.int .i64 a0_15)) (ds := []) #[oo,oo,oo,oo,oo,oo,oo,oo,oo,oo] (by kernel_rfl) rfl rfl (cz16 BK486.out) (fun hHeld => ?_); refine with_tabW impl_PutItem.tab9 impl_PutItem.bits9 (fun HT_ HW_ => ?_)
     generalize w89.drew = w90 at HO_3 HO526 HO529 HO532 HO535 HO538 BK486 HB hHeld ⊢
     refine pq_ 0 111 HT_ #[ii,oo,oo,oo,oo,oo,oo,oo,oo,oo] ?_
     refine pq_ 1 112 HT_ #[ii,ii,oo,oo,oo,oo,oo,oo,oo,oo] ?_
     refine pq_ 2 113 HT_ #[ii,ii,ii,oo,oo,oo,oo,oo,oo,oo] ?_
     refine pq_ 5 116 HT_ #[ii,ii,ii,oo,oo,ii,oo,oo,oo,oo] ?_
     refine pq_ 6 117 HT_ #[ii,ii,ii,oo,oo,ii,ii,oo,oo,oo] ?_
     refine tz_ (i := 3) (N := some 114) HT_ HW_ #[ii,ii,ii,ii,oo,ii,ii,oo,oo,oo] rfl rfl hHeld ?_
     refine tz_ (i := 7) (N := some 118) HT_ HW_ #[ii,ii,ii,ii,oo,ii,ii,ii,oo,oo] rfl rfl hHeld ?_
     refine on_ HT_ (i := 4) (N := some 115) #[ii,ii,ii,ii,ii,ii,ii,ii,oo,oo] (fun K hK => ?_)
     refine goes_ Try.func112 (by kernel_rfl) rfl #[.slice Ao91 t536.length co91, .int .i64 a0_14] (by rfl) rfl rfl la_ ?_
     with_reducible refine (impl_PutWord.calls _ _ t536 a0_14 t539 _ ?side1 ?side2 A73.out).mono ?_
     (case side1 => exact qC ((Kd.R_reads' HO538.out).2.2))
     (case side2 => exact (Kd.R_reads' HO538.out).2.1)
     rintro e w92 ⟨v540, rfl, ho0, hb⟩
     refine ⟨_, rfl, ?_⟩
     have HO541 := am_ (Kd.R_lower (Kd.R_new' (Kd.R_new' (Kd.R_new' (Kd.R_new' (Kd.R_new' (Kd.R_new' ho0 (Kd.R_lt (qR HO_3))) (Kd.R_lt (qR HO526))) (Kd.R_lt (qR HO529))) (Kd.R_lt (qR HO532))) (Kd.R_lt (qR HO535))) (Kd.R_lt (qR HO538))) (below_size (qB HB)))
     replace HO_3 := eA_ HO_3 ho0 hb
     replace HO526 := eA_ HO526 ho0 hb
     replace HO529 := eA_ HO529 ho0 hb
     replace HO532 := eA_ HO532 ho0 hb
     replace HO535 := eA_ HO535 ho0 hb
     replace HO538 := eA_ HO538 ho0 hb
     replace BK486 := bK_ BK486 hb
     replace HB := bS_ HB hb
     (try clear hb ho0)
     obtain ⟨Ao93, co93, eo93⟩ := Kd.R_slice HO541.out
     (first | subst eo93 | (injection eo93 with f1_ f2_ f3_; have f4_ := f1_.symm; have f5_ := f3_.symm; clear f1_ f2_ f3_; subst f4_; subst f5_))
     refine hK.out _ _ (cz16 BK486.out) (fun hHeld => ?_)
     clear hK K
     refine nm_ (some 115) ?_
     refine on_ HT_ (i := 8) (N := some 119) #[ii,ii,ii,ii,ii,ii,ii,ii,ii,oo] (fun K hK => ?_)
     refine goes_ Try.func112 (by kernel_rfl) rfl #[.slice Ao93 t539.length co93, .int .i64 a0_15] (by rfl) rfl rfl la_ ?_
     with_reducible refine (impl_PutWord.calls _ _ t539 a0_15 t542 _ ?side1 ?side2 A74.out).mono ?_
     (case side1 => exact qC ((Kd.R_reads' HO541.out).2.2))
     (case side2 => exact (Kd.R_reads' HO541.out).2.1)
     rintro e w94 ⟨v543, rfl, ho0, hb⟩
     refine ⟨_, rfl, ?_⟩
     have HO544 := am_ (Kd.R_lower (Kd.R_new' (Kd.R_new' (Kd.R_new' (Kd.R_new' (Kd.R_new' (Kd.R_new' (Kd.R_new' ho0 (Kd.R_lt (qR HO_3))) (Kd.R_lt (qR HO526))) (Kd.R_lt (qR HO529))) (Kd.R_lt (qR HO532))) (Kd.R_lt (qR HO535))) (Kd.R_lt (qR HO538))) (Kd.R_lt (qR HO541))) (below_size (qB HB)))
     replace HO_3 := eA_ HO_3 ho0 hb
     replace HO526 := eA_ HO526 ho0 hb
     replace HO529 := eA_ HO529 ho0 hb
     replace HO532 := eA_ HO532 ho0 hb
     replace HO535 := eA_ HO535 ho0 hb
     replace HO538 := eA_ HO538 ho0 hb
     replace HO541 := eA_ HO541 ho0 hb
     replace BK486 := bK_ BK486 hb
     replace HB := bS_ HB hb
     (try clear hb ho0)
     refine hK.out _ _ (cz16 BK486.out) (fun hHeld => ?_)
     clear hK K
     refine nm_ (some 119) ?_
     refine pq_ 9 2 HT_ #[ii,ii,ii,ii,ii,ii,ii,ii,ii,ii] ?_
     refine done_ (done_of HT_.out (by kernel_rfl)) ?_
     try go_wp2
     go_ret
     exact ⟨_, er_, (xR1_ HO544), qB HB⟩

end Go.Proofs.Ytiffahfpfgnjnab.PFnExactGetCtl
