-- Written by a program of this session (myprint.py, over the kit's print): contracts of FnItems
import Derived.Test.YtiffahfpfgnjnaaPFnItemsx0
import Derived.Test.YtiffahfpfgnjnaaPFnItemsx1
import Derived.Test.YtiffahfpfgnjnaaPFnItemsx2
import Derived.Test.YtiffahfpfgnjnaaPFnItemsx7
import Derived.Test.YtiffahfpfgnjnaaPFnItemsx8
import Derived.Test.YtiffahfpfgnjnaaPFnItemsx9
namespace Go.Proofs.Ytiffahfpfgnjnaa.PFnItems
open Go.RowKit Go.Proofs.YtiffahfpfgnjnaaW.PrintWords Go.Proofs.YtiffahfpfgnjnaaW.PrintLast Go.Proofs.YtiffahfpfgnjnaaW.PrintMore Go.Proofs.YtiffahfpfgnjnaaV
attribute [local go_sem] max2_int min2_int max_two min_two max_three min_three max_four min_four   -- for this text's walks alone
set_option linter.unusedVariables false
set_option linter.unusedSimpArgs false

attribute [local go_sem high] eqA25 eqA27
/-! ### impl_PutItem: function 9 -/
mutual
def impl_PutItem.j0 : Nat → List Int → Bool → Int → Int → ByteArray → Int → Int → Int → ByteArray → Int → Int → Int → ByteArray → Int → Int → Int → Int → Int → Option (List Int)
 | 0, _, _, _, _, _, _, _, _, _, _, _, _, _, _, _, _, _, _ => none
 | k + 1, x3, x8, x453000, x453001, x453002, x453003, x453004, x453005, x453006, x453007, x453008, x453009, x453010, x453011, x453012, x453013, x453014, x453015 => if x8 = true then ((impl_PutWord.f x3 x453001).bind fun t458 => ((some (([(x453003) % 256] : List Int) : List Int)).bind fun y461 => (if t458.length + y461.length < 140737488355328 then ((impl_PutText.f k (t458 ++ y461) x453002).bind fun t467 => ((impl_PutWord.f t467 x453004).bind fun t470 => ((impl_putSince.f t470 x453005).bind fun t473 => ((impl_PutText.f k t473 x453006).bind fun t476 => ((impl_PutWord.f t476 x453007).bind fun t479 => ((impl_PutWord.f t479 x453008).bind fun t482 => (some t482))))))) else (none)))) else (if x453000 = 2 then ((impl_LineOk.f k x453009 x453010 x453011 x453012 x453013 x453014 x453015).bind fun t485 => (if t485 = true then (if (x453001 == 0 && (x453002.toList == ([] : List UInt8) && (x453003 == 0 && (x453004 == 0 && (x453005 == 0 && (x453006.toList == ([] : List UInt8) && (x453007 == 0 && (x453008 == 0)))))))) = true then ((impl_wordOk.f x453015).bind fun t486 => (impl_PutItem.j1 k x3 t486 x453000 x453001 x453002 x453003 x453004 x453005 x453006 x453007 x453008 x453009 x453010 x453011 x453012 x453013 x453014 x453015)) else (impl_PutItem.j1 k x3 false x453000 x453001 x453002 x453003 x453004 x453005 x453006 x453007 x453008 x453009 x453010 x453011 x453012 x453013 x453014 x453015)) else (impl_PutItem.j1 k x3 false x453000 x453001 x453002 x453003 x453004 x453005 x453006 x453007 x453008 x453009 x453010 x453011 x453012 x453013 x453014 x453015))) else (impl_PutItem.j1 k x3 false x453000 x453001 x453002 x453003 x453004 x453005 x453006 x453007 x453008 x453009 x453010 x453011 x453012 x453013 x453014 x453015))
def impl_PutItem.j1 : Nat → List Int → Bool → Int → Int → ByteArray → Int → Int → Int → ByteArray → Int → Int → Int → ByteArray → Int → Int → Int → Int → Int → Option (List Int)
 | 0, _, _, _, _, _, _, _, _, _, _, _, _, _, _, _, _, _, _ => none
 | k + 1, x3, x66, x453000, x453001, x453002, x453003, x453004, x453005, x453006, x453007, x453008, x453009, x453010, x453011, x453012, x453013, x453014, x453015 => if x66 = true then ((impl_PutWord.f x3 x453009).bind fun t487 => ((some (([(x453012) % 256] : List Int) : List Int)).bind fun y490 => (if t487.length + y490.length < 140737488355328 then ((impl_PutText.f k (t487 ++ y490) x453010).bind fun t496 => ((impl_PutWord.f t496 x453011).bind fun t499 => ((impl_putSince.f t499 x453013).bind fun t502 => ((impl_PutWord.f t502 x453014).bind fun t505 => ((impl_PutWord.f t505 x453015).bind fun t508 => (some t508)))))) else (none)))) else (some (([] : List Int)))
end
def impl_PutItem.f (k : Nat) (a0_0 : Int) (a0_1 : Int) (a0_2 : ByteArray) (a0_3 : Int) (a0_4 : Int) (a0_5 : Int) (a0_6 : ByteArray) (a0_7 : Int) (a0_8 : Int) (a0_9 : Int) (a0_10 : ByteArray) (a0_11 : Int) (a0_12 : Int) (a0_13 : Int) (a0_14 : Int) (a0_15 : Int) : Option (List Int) := (some (([(a0_0) % 256] : List Int) : List Int)).bind fun y453 => (if a0_0 = 1 then ((impl_AskerOk.f k a0_1 a0_2 a0_3 a0_4 a0_5 a0_6 a0_7 a0_8).bind fun t456 => (if t456 = true then (if (a0_9 == 0 && (a0_10.toList == ([] : List UInt8) && (a0_11 == 0 && (a0_12 == 0 && (a0_13 == 0 && (a0_14 == 0 && (a0_15 == 0))))))) = true then ((impl_wordOk.f a0_8).bind fun t457 => (impl_PutItem.j0 k y453 t457 a0_0 a0_1 a0_2 a0_3 a0_4 a0_5 a0_6 a0_7 a0_8 a0_9 a0_10 a0_11 a0_12 a0_13 a0_14 a0_15)) else (impl_PutItem.j0 k y453 false a0_0 a0_1 a0_2 a0_3 a0_4 a0_5 a0_6 a0_7 a0_8 a0_9 a0_10 a0_11 a0_12 a0_13 a0_14 a0_15)) else (impl_PutItem.j0 k y453 false a0_0 a0_1 a0_2 a0_3 a0_4 a0_5 a0_6 a0_7 a0_8 a0_9 a0_10 a0_11 a0_12 a0_13 a0_14 a0_15))) else (impl_PutItem.j0 k y453 false a0_0 a0_1 a0_2 a0_3 a0_4 a0_5 a0_6 a0_7 a0_8 a0_9 a0_10 a0_11 a0_12 a0_13 a0_14 a0_15))
theorem impl_PutItem.mono_l : ∀ k, (∀ y0 y1 y2 y3 y4 y5 y6 y7 y8 y9 y10 y11 y12 y13 y14 y15 y16 y17, LeO (impl_PutItem.j0 k y0 y1 y2 y3 y4 y5 y6 y7 y8 y9 y10 y11 y12 y13 y14 y15 y16 y17) (impl_PutItem.j0 (k + 1) y0 y1 y2 y3 y4 y5 y6 y7 y8 y9 y10 y11 y12 y13 y14 y15 y16 y17)) ∧ (∀ y0 y1 y2 y3 y4 y5 y6 y7 y8 y9 y10 y11 y12 y13 y14 y15 y16 y17, LeO (impl_PutItem.j1 k y0 y1 y2 y3 y4 y5 y6 y7 y8 y9 y10 y11 y12 y13 y14 y15 y16 y17) (impl_PutItem.j1 (k + 1) y0 y1 y2 y3 y4 y5 y6 y7 y8 y9 y10 y11 y12 y13 y14 y15 y16 y17))
 | 0 => ⟨fun _ _ _ _ _ _ _ _ _ _ _ _ _ _ _ _ _ _ r h => by simp [impl_PutItem.j0] at h, fun _ _ _ _ _ _ _ _ _ _ _ _ _ _ _ _ _ _ r h => by simp [impl_PutItem.j1] at h⟩
 | k + 1 => by
  obtain ⟨ih0, ih1⟩ := impl_PutItem.mono_l k
  refine ⟨?_, ?_⟩
  ·
   intro y0 y1 y2 y3 y4 y5 y6 y7 y8 y9 y10 y11 y12 y13 y14 y15 y16 y17
   unfold impl_PutItem.j0
   repeat' first
   | (with_reducible exact ih0 _ _ _ _ _ _ _ _ _ _ _ _ _ _ _ _ _ _)
   | (with_reducible exact ih1 _ _ _ _ _ _ _ _ _ _ _ _ _ _ _ _ _ _)
   | (with_reducible exact impl_AskerOk.mono _ _ _ _ _ _ _ _ _)
   | (with_reducible exact impl_LineOk.mono _ _ _ _ _ _ _ _)
   | (with_reducible exact impl_PutText.mono _ _ _)
   | (with_reducible exact LeO.refl _)
   | (with_reducible exact LeO.none _)
   | (with_reducible refine LeO.ite ?_ ?_)
   | (with_reducible refine LeO.bind ?_ (fun _ => ?_))
  ·
   intro y0 y1 y2 y3 y4 y5 y6 y7 y8 y9 y10 y11 y12 y13 y14 y15 y16 y17
   unfold impl_PutItem.j1
   repeat' first
   | (with_reducible exact ih0 _ _ _ _ _ _ _ _ _ _ _ _ _ _ _ _ _ _)
   | (with_reducible exact ih1 _ _ _ _ _ _ _ _ _ _ _ _ _ _ _ _ _ _)
   | (with_reducible exact impl_AskerOk.mono _ _ _ _ _ _ _ _ _)
   | (with_reducible exact impl_LineOk.mono _ _ _ _ _ _ _ _)
   | (with_reducible exact impl_PutText.mono _ _ _)
   | (with_reducible exact LeO.refl _)
   | (with_reducible exact LeO.none _)
   | (with_reducible refine LeO.ite ?_ ?_)
   | (with_reducible refine LeO.bind ?_ (fun _ => ?_))
theorem impl_PutItem.mono : ∀ a0 a1 a2 a3 a4 a5 a6 a7 a8 a9 a10 a11 a12 a13 a14 a15 k, LeO (impl_PutItem.f k a0 a1 a2 a3 a4 a5 a6 a7 a8 a9 a10 a11 a12 a13 a14 a15) (impl_PutItem.f (k + 1) a0 a1 a2 a3 a4 a5 a6 a7 a8 a9 a10 a11 a12 a13 a14 a15) := by
 intro a0 a1 a2 a3 a4 a5 a6 a7 a8 a9 a10 a11 a12 a13 a14 a15 k
 obtain ⟨ih0, ih1⟩ := impl_PutItem.mono_l k
 unfold impl_PutItem.f
 repeat' first
   | (with_reducible exact ih0 _ _ _ _ _ _ _ _ _ _ _ _ _ _ _ _ _ _)
   | (with_reducible exact ih1 _ _ _ _ _ _ _ _ _ _ _ _ _ _ _ _ _ _)
   | (with_reducible exact impl_AskerOk.mono _ _ _ _ _ _ _ _ _)
   | (with_reducible exact impl_LineOk.mono _ _ _ _ _ _ _ _)
   | (with_reducible exact impl_PutText.mono _ _ _)
   | (with_reducible exact LeO.refl _)
   | (with_reducible exact LeO.none _)
   | (with_reducible refine LeO.ite ?_ ?_)
   | (with_reducible refine LeO.bind ?_ (fun _ => ?_))
def impl_PutItem.T3 : Bool × List (List Nat × List Nat) := (true, [([], []), ([], []), ([1], [1]), ([2], [2]), ([0, 3], [0, 3]), ([], []), ([5], [5]), ([6], [6]), ([7], [7]), ([8], [8]), ([4, 9, 4], [4, 9]), ([], []), ([11], [11]), ([12], [12]), ([10, 13, 10], [10, 13]), ([14, 14, 0, 1, 2, 3, 4, 5, 6, 7, 8, 9, 10, 11, 12, 13, 14], [0, 14])])
def impl_PutItem.B3 : List Nat := [0, 0, 2, 6, 15, 0, 32, 96, 224, 480, 1023, 0, 2048, 6144, 16383, 32767]
theorem impl_PutItem.tab3 : rtab .any (opsOf Try.f9 3) = impl_PutItem.T3 := by kernel_rfl
theorem impl_PutItem.bits3 : waitsOk impl_PutItem.T3.2 impl_PutItem.B3 = true := by kernel_rfl
def impl_PutItem.T4 : Bool × List (List Nat × List Nat) := (true, [([], []), ([], []), ([1], [1]), ([2], [2]), ([0, 3], [0, 3]), ([], []), ([5], [5]), ([6], [6]), ([4, 7, 4], [4, 7]), ([], []), ([9], [9]), ([10], [10]), ([8, 11, 8], [8, 11]), ([12, 12, 0, 1, 2, 3, 4, 5, 6, 7, 8, 9, 10, 11, 12], [0, 12])])
def impl_PutItem.B4 : List Nat := [0, 0, 2, 6, 15, 0, 32, 96, 255, 0, 512, 1536, 4095, 8191]
theorem impl_PutItem.tab4 : rtab .any (opsOf Try.f9 4) = impl_PutItem.T4 := by kernel_rfl
theorem impl_PutItem.bits4 : waitsOk impl_PutItem.T4.2 impl_PutItem.B4 = true := by kernel_rfl
def impl_PutItem.T5 : Bool × List (List Nat × List Nat) := (true, [([], []), ([], []), ([1], [1]), ([2], [2]), ([0, 3], [0, 3]), ([], []), ([5], [5]), ([6], [6]), ([4, 7, 4], [4, 7]), ([8, 8, 0, 1, 2, 3, 4, 5, 6, 7, 8], [8])])
def impl_PutItem.B5 : List Nat := [0, 0, 2, 6, 15, 0, 32, 96, 255, 511]
theorem impl_PutItem.tab5 : rtab .any (opsOf Try.f9 5) = impl_PutItem.T5 := by kernel_rfl
theorem impl_PutItem.bits5 : waitsOk impl_PutItem.T5.2 impl_PutItem.B5 = true := by kernel_rfl
def impl_PutItem.T7 : Bool × List (List Nat × List Nat) := (true, [([], []), ([], []), ([1], [1]), ([2], [2]), ([0, 3], [0, 3]), ([], []), ([5], [5]), ([6], [6]), ([7], [7]), ([8], [8]), ([4, 9, 4], [4, 9]), ([], []), ([11], [11]), ([12], [12]), ([10, 13, 10], [10, 13]), ([14, 14, 0, 1, 2, 3, 4, 5, 6, 7, 8, 9, 10, 11, 12, 13, 14], [0, 14])])
def impl_PutItem.B7 : List Nat := [0, 0, 2, 6, 15, 0, 32, 96, 224, 480, 1023, 0, 2048, 6144, 16383, 32767]
theorem impl_PutItem.tab7 : rtab .any (opsOf Try.f9 7) = impl_PutItem.T7 := by kernel_rfl
theorem impl_PutItem.bits7 : waitsOk impl_PutItem.T7.2 impl_PutItem.B7 = true := by kernel_rfl
def impl_PutItem.T8 : Bool × List (List Nat × List Nat) := (true, [([], []), ([], []), ([1], [1]), ([2], [2]), ([0, 3], [0, 3]), ([], []), ([5], [5]), ([6], [6]), ([4, 7, 4], [4, 7]), ([8, 8, 0, 1, 2, 3, 4, 5, 6, 7, 8], [0, 8])])
def impl_PutItem.B8 : List Nat := [0, 0, 2, 6, 15, 0, 32, 96, 255, 511]
theorem impl_PutItem.tab8 : rtab .any (opsOf Try.f9 8) = impl_PutItem.T8 := by kernel_rfl
theorem impl_PutItem.bits8 : waitsOk impl_PutItem.T8.2 impl_PutItem.B8 = true := by kernel_rfl
def impl_PutItem.T9 : Bool × List (List Nat × List Nat) := (true, [([], []), ([], []), ([1], [1]), ([2], [2]), ([0, 3], [0, 3]), ([], []), ([5], [5]), ([6], [6]), ([4, 7, 4], [4, 7]), ([8, 8, 0, 1, 2, 3, 4, 5, 6, 7, 8], [8])])
def impl_PutItem.B9 : List Nat := [0, 0, 2, 6, 15, 0, 32, 96, 255, 511]
theorem impl_PutItem.tab9 : rtab .any (opsOf Try.f9 9) = impl_PutItem.T9 := by kernel_rfl
theorem impl_PutItem.bits9 : waitsOk impl_PutItem.T9.2 impl_PutItem.B9 = true := by kernel_rfl
set_option maxHeartbeats 8000000 in
set_option maxRecDepth 100000 in
theorem impl_PutItem.calls (k : Nat) (a0_0 : Int) (a0_1 : Int) (a0_2 : ByteArray) (a0_3 : Int) (a0_4 : Int) (a0_5 : Int) (a0_6 : ByteArray) (a0_7 : Int) (a0_8 : Int) (a0_9 : Int) (a0_10 : ByteArray) (a0_11 : Int) (a0_12 : Int) (a0_13 : Int) (a0_14 : Int) (a0_15 : Int) (r : List Int) (w : World) (h : impl_PutItem.f k a0_0 a0_1 a0_2 a0_3 a0_4 a0_5 a0_6 a0_7 a0_8 a0_9 a0_10 a0_11 a0_12 a0_13 a0_14 a0_15 = some r) :
  Calls Try.prog 9 #[.agg #[.int .i64 a0_0, .int .i64 a0_1, .string a0_2, .int .i64 a0_3, .int .i64 a0_4, .int .i64 a0_5, .string a0_6, .int .i64 a0_7, .int .i64 a0_8, .int .i64 a0_9, .string a0_10, .int .i64 a0_11, .int .i64 a0_12, .int .i64 a0_13, .int .i64 a0_14, .int .i64 a0_15]] w fun e w' => ∃ v0_ : Value, e = .returned (v0_) ∧ Kd.R (Kd.int .u8) 5 w' w.heap.size (fun _ => True) v0_ r ∧ Below w.heap.size w w' := by
 have hu29 := Try.underlying29
 have hu25 := Try.underlying25
 have hu27 := Try.underlying27
 have HB := Aside0.mk (Below.refl w.heap.size w)
 have H := h
 unfold impl_PutItem.f at H
 clear h
 obtain ⟨y453, hy453⟩ : ∃ y_ : List Int, y_ = (([(a0_0) % 256] : List Int)) := ⟨_, rfl⟩
 replace H := mk_ H hy453
 (try dsimp only at H)
 have Ny453 := Aside0.mk hy453
 clear hy453
 have HC2 := Aside0.mk H
 clear H
 go_enter Try.func9, Try.ntmps9
 go_upto_region 2 with (first | ((with_reducible refine gate_dst (N := 1) rfl ?_); refine box_event ?hg (N := 1) ?hd (cs := #[.int .i64 a0_0, .int .i64 a0_1, .string a0_2, .int .i64 a0_3, .int .i64 a0_4, .int .i64 a0_5, .string a0_6, .int .i64 a0_7, .int .i64 a0_8, .int .i64 a0_9, .string a0_10, .int .i64 a0_11, .int .i64 a0_12, .int .i64 a0_13, .int .i64 a0_14, .int .i64 a0_15]) (t := 29) ?hr ?_; (case hd => rfl); (case hg => rfl); (case hr => first | (go_simp; done) | (go_simp; rfl)); intro gb452 hg w3 hbox hb; have BK452 := am_ (hbox); have GW452 := gA_ hg HB; have GE452 := GW452; have IGE452 := gI_ GE452; replace HB := bS_ HB hb; clear hb hbox hg; (try clear zK452); have zK452 := cz16 BK452.out; (try clear fK452); have fK452 := fz16 BK452.out) | ((with_reducible refine gate_dst (N := 7) rfl ?_); refine Kd.R_lit (Kd.int .u8) _ 5 ?hg (N := 7) ?hd (xs := ([(a0_0) % 256] : List Int)) (inner := [.int .u8 ((a0_0) % 256)]) (ok := fun _ => True) (okp := fun _ => True) ?hr ?hp (fun _ hk => hk) trivial (Below.refl _ _) (Nat.le_refl _) (by simp) ?_; (case hd => rfl); (case hg => rfl); (case hr => first | (go_simp; done) | (go_simp; rfl)); (case hp => exact (Reps.one (show Kd.M (Kd.int .u8) _ _ _ ((a0_0) % 256) [.int .u8 ((a0_0) % 256)] from rfl) (Reps.none _ _))); intro v454 w5 ho6 hb hg_ hnew_; clear hg_ hnew_; (first | rw [← Ny453.out] at ho6 | (simp only [Int.reduceToNat] at ho6; rw [← Ny453.out] at ho6)); have HO455 := am_ (Kd.R_lower ho6 (below_size (qB HB))); replace BK452 := bK_ BK452 hb; replace HB := bS_ HB hb; clear hb ho6))
 (try simp only [Act.put, List.setIfInBounds_toArray, List.set_cons_zero, List.set_cons_succ])
 go_cut [8] (fun v8 wc => ∃ (kq : Nat) (x8_1 : Bool), v8 = .bool x8_1 ∧ Aside0 (impl_PutItem.j0 kq y453 x8_1 a0_0 a0_1 a0_2 a0_3 a0_4 a0_5 a0_6 a0_7 a0_8 a0_9 a0_10 a0_11 a0_12 a0_13 a0_14 a0_15 = some r) ∧ Aside0 (kq ≤ k) ∧ Aside0 (Kd.R (Kd.int .u8) 5 wc w.heap.size (fun _ => True) v454 y453) ∧ Aside0 (wc.heap[gb452]? = some (.cells #[.int .i64 a0_0, .int .i64 a0_1, .string a0_2, .int .i64 a0_3, .int .i64 a0_4, .int .i64 a0_5, .string a0_6, .int .i64 a0_7, .int .i64 a0_8, .int .i64 a0_9, .string a0_10, .int .i64 a0_11, .int .i64 a0_12, .int .i64 a0_13, .int .i64 a0_14, .int .i64 a0_15] 29 (0, 0))) ∧ Aside0 (Below w.heap.size w wc))
 case first =>
  have H := HC2.out
  clear HC2
  by_cases c7 : a0_0 = 1
  rotate_left
  ·
   rw [if_neg c7] at H
   have c7b0 : (a0_0 == 1) = false := beq_eq_false_iff_ne.mpr c7
   have c7b1 : (a0_0 != 1) = true := bne_iff_ne.mpr c7
   (first | rw [c7b0] | rw [c7b1] | (simp only [i64_w, i32_w]; rw [c7b0]) | skip)
   have H' := Aside0.mk H
   clear H
   (try clear zK452)
   have zK452 := cz16 BK452.out
   (try clear fK452)
   have fK452 := fz16 BK452.out
   go_wp2
   go_meet
   case rel => exact ⟨_, (false), eqq_, H', ⟨by first | omega | exact Nat.le_refl _⟩, ⟨qR HO455⟩, ⟨qK BK452⟩, ⟨qB HB⟩⟩
  rw [if_pos c7] at H
  have c7b0 : (a0_0 == 1) = true := beq_iff_eq.mpr c7
  have c7b1 : (a0_0 != 1) = false := bne_eq_false_iff_eq.mpr c7
  clear c7
  (first | rw [c7b0] | rw [c7b1] | (simp only [i64_w, i32_w]; rw [c7b0]) | skip)
  replace H := bd_ H
  obtain ⟨t456, A8, H⟩ := H
  by_cases c9 : t456 = true
  rotate_left
  ·
   replace c9 := Bool.eq_false_iff.mpr c9
   subst c9
   rw [if_neg (show ¬ (false = true) by decide)] at H
   have H' := Aside0.mk H
   clear H
   (try clear zK452)
   have zK452 := cz16 BK452.out
   (try clear fK452)
   have fK452 := fz16 BK452.out
   go_wp2_with (first | (go_at_call 16; (with_reducible refine (impl_AskerOk.calls k a0_1 a0_2 a0_3 a0_4 a0_5 a0_6 a0_7 a0_8 false _ A8.out).mono ?_); rintro e w19 ⟨rfl, hb⟩; replace HO455 := rB_ HO455 hb; replace BK452 := bK_ BK452 hb; replace HB := bS_ HB hb; (try clear hb)))
   go_meet
   case rel => exact ⟨_, (false), eqq_, H', ⟨by first | omega | exact Nat.le_refl _⟩, ⟨qR HO455⟩, ⟨qK BK452⟩, ⟨qB HB⟩⟩
  subst c9
  rw [if_pos rfl] at H
  by_cases c10 : (a0_9 == 0 && (a0_10.toList == ([] : List UInt8) && (a0_11 == 0 && (a0_12 == 0 && (a0_13 == 0 && (a0_14 == 0 && (a0_15 == 0))))))) = true
  ·
   rw [if_pos c10] at H
   have c10b0 : (a0_9 == 0 && (a0_10.toList == ([] : List UInt8) && (a0_11 == 0 && (a0_12 == 0 && (a0_13 == 0 && (a0_14 == 0 && (a0_15 == 0))))))) = true := c10
   (try (have c10b0e := c10b0; simp only [beq_nil, bne_nil] at c10b0e))
   (try (have c10b1 : decide (a0_9 = 0 && (a0_10.toList == ([] : List UInt8) && (a0_11 == 0 && (a0_12 == 0 && (a0_13 == 0 && (a0_14 == 0 && (a0_15 == 0))))))) = true := by simpa using c10))
   (try (have c10b1e := c10b1; simp only [beq_nil, bne_nil] at c10b1e))
   (try (have c10b2 : (a0_9 == 0 && (a0_10.toList == ([] : List UInt8) && (a0_11 == 0 && (a0_12 == 0 && (a0_13 == 0 && (a0_14 == 0 && (a0_15 == 0))))))) = true := by simpa using c10))
   (try (have c10b2e := c10b2; simp only [beq_nil, bne_nil] at c10b2e))
   clear c10
   replace H := bd_ H
   obtain ⟨t457, A11, H⟩ := H
   have H' := Aside0.mk H
   clear H
   (try clear zK452)
   have zK452 := cz16 BK452.out
   (try clear fK452)
   have fK452 := fz16 BK452.out
   go_wp2_with (first | (go_at_call 16; (with_reducible refine (impl_AskerOk.calls k a0_1 a0_2 a0_3 a0_4 a0_5 a0_6 a0_7 a0_8 true _ A8.out).mono ?_); rintro e w13 ⟨rfl, hb⟩; replace HO455 := rB_ HO455 hb; replace BK452 := bK_ BK452 hb; replace HB := bS_ HB hb; (try clear hb); (try clear zK452); have zK452 := cz16 BK452.out; (try clear fK452); have fK452 := fz16 BK452.out) | (go_at_call 65; (with_reducible refine (impl_wordOk.calls a0_8 t457 _ A11.out).mono ?_); rintro e w' ⟨rfl, ⟨nd, rfl⟩⟩))
   go_meet
   case rel => exact ⟨_, (t457), eqq_, H', ⟨by first | omega | exact Nat.le_refl _⟩, ⟨qR HO455⟩, ⟨qK BK452⟩, ⟨qB HB⟩⟩
  rw [if_neg c10] at H
  have c10b0 : (a0_9 == 0 && (a0_10.toList == ([] : List UInt8) && (a0_11 == 0 && (a0_12 == 0 && (a0_13 == 0 && (a0_14 == 0 && (a0_15 == 0))))))) = false := by simpa using c10
  (try (have c10b0e := c10b0; simp only [beq_nil, bne_nil] at c10b0e))
  (try (have c10b1 : decide (a0_9 = 0 && (a0_10.toList == ([] : List UInt8) && (a0_11 == 0 && (a0_12 == 0 && (a0_13 == 0 && (a0_14 == 0 && (a0_15 == 0))))))) = false := by simpa using c10))
  (try (have c10b1e := c10b1; simp only [beq_nil, bne_nil] at c10b1e))
  (try (have c10b2 : (a0_9 == 0 && (a0_10.toList == ([] : List UInt8) && (a0_11 == 0 && (a0_12 == 0 && (a0_13 == 0 && (a0_14 == 0 && (a0_15 == 0))))))) = false := by simpa using c10))
  (try (have c10b2e := c10b2; simp only [beq_nil, bne_nil] at c10b2e))
  (try (have c10b3 : ¬ (a0_9 = 0 && (a0_10.toList == ([] : List UInt8) && (a0_11 == 0 && (a0_12 == 0 && (a0_13 == 0 && (a0_14 == 0 && (a0_15 == 0))))))) := by simpa using c10))
  (try (have c10b3e := c10b3; simp only [beq_nil, bne_nil] at c10b3e))
  clear c10
  have H' := Aside0.mk H
  clear H
  (try clear zK452)
  have zK452 := cz16 BK452.out
  (try clear fK452)
  have fK452 := fz16 BK452.out
  go_wp2_with (first | (go_at_call 16; (with_reducible refine (impl_AskerOk.calls k a0_1 a0_2 a0_3 a0_4 a0_5 a0_6 a0_7 a0_8 true _ A8.out).mono ?_); rintro e w16 ⟨rfl, hb⟩; replace HO455 := rB_ HO455 hb; replace BK452 := bK_ BK452 hb; replace HB := bS_ HB hb; (try clear hb); (try clear zK452); have zK452 := cz16 BK452.out; (try clear fK452); have fK452 := fz16 BK452.out))
  go_meet
  case rel => exact ⟨_, (false), eqq_, H', ⟨by first | omega | exact Nat.le_refl _⟩, ⟨qR HO455⟩, ⟨qK BK452⟩, ⟨qB HB⟩⟩
 case rest =>
  clear HC2
  try clear c1
  try clear p2
  try clear c7
  try clear c7b0
  try clear c7b1
  try clear c9
  try clear c10
  try clear c10b0
  try clear c10b1
  try clear c10b2
  (try clear zK452)
  (try clear zK452)
  (try clear zK452)
  (try clear zK452)
  (try clear zK452)
  (try clear zK452)
  (try clear zK452)
  (try clear fK452)
  (try clear fK452)
  (try clear fK452)
  (try clear fK452)
  (try clear fK452)
  (try clear fK452)
  (try clear fK452)
  obtain ⟨kq, x8_1, rfl, HA, HJ1, HO_3, BK452, HB⟩ := hcut
  cases kq with
  | zero => exact absurd HA.out (by simp [impl_PutItem.j0])
  | succ kj1 =>
   have H := HA.out
   clear HA
   simp only [impl_PutItem.j0] at H
   by_cases c21 : x8_1 = true
   ·
    subst c21
    rw [if_pos rfl] at H
    replace H := bd_ H
    obtain ⟨t458, A22, H⟩ := H
    obtain ⟨y461, hy461⟩ : ∃ y_ : List Int, y_ = (([(a0_3) % 256] : List Int)) := ⟨_, rfl⟩
    replace H := mk_ H hy461
    (try dsimp only at H)
    have Ny461 := Aside0.mk hy461
    clear hy461
    by_cases c23 : t458.length + y461.length < 140737488355328
    case neg => exact nn_ c23 H
    rw [if_pos c23] at H
    have LMc23 := Aside0.mk c23
    clear c23
    obtain ⟨y464, hy464⟩ : ∃ y_ : List Int, y_ = (t458 ++ y461) := ⟨_, rfl⟩
    replace H : ((impl_PutText.f kj1 y464 a0_2).bind fun t467 => ((impl_PutWord.f t467 a0_4).bind fun t470 => ((impl_putSince.f t470 a0_5).bind fun t473 => ((impl_PutText.f kj1 t473 a0_6).bind fun t476 => ((impl_PutWord.f t476 a0_7).bind fun t479 => ((impl_PutWord.f t479 a0_8).bind fun t482 => (some t482))))))) = some r := by first | (rw [hy464]; with_reducible exact H) | (have H2_ := (Option.bind_some _ _).symm.trans H; rw [hy464]; with_reducible exact H2_) | (have H2_ := (Option.bind_some _ _).symm.trans H; with_reducible exact H2_) | with_reducible exact H | (rw [hy464]; exact H) | exact H
    have Ny464 := Aside0.mk hy464
    clear hy464
    replace H := bd_ H
    obtain ⟨t467, A24, H⟩ := H
    replace H := bd_ H
    obtain ⟨t470, A25, H⟩ := H
    replace H := bd_ H
    obtain ⟨t473, A26, H⟩ := H
    replace H := bd_ H
    obtain ⟨t476, A27, H⟩ := H
    replace H := bd_ H
    obtain ⟨t479, A28, H⟩ := H
    replace H := bd_ H
    obtain ⟨t482, A29, H⟩ := H
    obtain rfl := Option.some.inj H
    obtain ⟨Ao30, co30, eo30⟩ := Kd.R_slice HO_3.out
    subst eo30
    try go_wp2
    replace HO_3 := am_ (Kd.R_drew HO_3.out)
    replace BK452 := am_ (blk_drew BK452.out)
    replace HB := am_ (below_drew1 HB.out)
    refine start_ (n := 16) (S := fun w' => w'.cell? ⟨gb452, 0, none⟩ = some (.int .i64 a0_0) ∧ w'.cell? ⟨gb452, 1, none⟩ = some (.int .i64 a0_1) ∧ w'.cell? ⟨gb452, 2, none⟩ = some (.string a0_2) ∧ w'.cell? ⟨gb452, 3, none⟩ = some (.int .i64 a0_3) ∧ w'.cell? ⟨gb452, 4, none⟩ = some (.int .i64 a0_4) ∧ w'.cell? ⟨gb452, 5, none⟩ = some (.int .i64 a0_5) ∧ w'.cell? ⟨gb452, 6, none⟩ = some (.string a0_6) ∧ w'.cell? ⟨gb452, 7, none⟩ = some (.int .i64 a0_7) ∧ w'.cell? ⟨gb452, 8, none⟩ = some (.int .i64 a0_8) ∧ w'.cell? ⟨gb452, 9, none⟩ = some (.int .i64 a0_9) ∧ w'.cell? ⟨gb452, 10, none⟩ = some (.string a0_10) ∧ w'.cell? ⟨gb452, 11, none⟩ = some (.int .i64 a0_11) ∧ w'.cell? ⟨gb452, 12, none⟩ = some (.int .i64 a0_12) ∧ w'.cell? ⟨gb452, 13, none⟩ = some (.int .i64 a0_13) ∧ w'.cell? ⟨gb452, 14, none⟩ = some (.int .i64 a0_14) ∧ w'.cell? ⟨gb452, 15, none⟩ = some (.int .i64 a0_15)) (ds := []) (rl [0,16]) (by kernel_rfl) rfl rfl (cz16 BK452.out) (fun hHeld => ?_); refine with_tabW impl_PutItem.tab3 impl_PutItem.bits3 (fun HT_ HW_ => ?_)
    generalize wc.drew = w31 at HO_3 BK452 HB hHeld ⊢
    refine pz_ (i := 0) (N := some 29) HT_ (rl [1,15]) rfl rfl ?_
    refine pz_ (i := 1) (N := some 30) HT_ (rl [2,14]) rfl rfl ?_
    refine pz_ (i := 2) (N := some 31) HT_ (rl [3,13]) rfl rfl ?_
    refine pz_ (i := 5) (N := some 34) HT_ (rl [3,2,1,10]) rfl rfl ?_
    refine pz_ (i := 6) (N := some 35) HT_ (rl [3,2,2,9]) rfl rfl ?_
    refine pz_ (i := 11) (N := some 40) HT_ (rl [3,2,2,4,1,4]) rfl rfl ?_
    refine pz_ (i := 12) (N := some 41) HT_ (rl [3,2,2,4,2,3]) rfl rfl ?_
    refine tz_ (i := 3) (N := some 32) HT_ HW_ (rl [4,1,2,4,2,3]) rfl rfl hHeld ?_
    refine tz_ (i := 7) (N := some 36) HT_ HW_ (rl [4,1,3,3,2,3]) rfl rfl hHeld ?_
    refine pz_ (i := 8) (N := some 37) HT_ (rl [4,1,4,2,2,3]) rfl rfl ?_
    refine tz_ (i := 13) (N := some 42) HT_ HW_ (rl [4,1,4,2,3,2]) rfl rfl hHeld ?_
    refine join_ (σ := Value × Value) 3 (rl [10,1,3,2]) (fun s_ => [(33, s_.1), (38, s_.2)]) (fun s_ w' => (w'.cell? ⟨gb452, 0, none⟩ = some (.int .i64 a0_0) ∧ w'.cell? ⟨gb452, 1, none⟩ = some (.int .i64 a0_1) ∧ w'.cell? ⟨gb452, 2, none⟩ = some (.string a0_2) ∧ w'.cell? ⟨gb452, 3, none⟩ = some (.int .i64 a0_3) ∧ w'.cell? ⟨gb452, 4, none⟩ = some (.int .i64 a0_4) ∧ w'.cell? ⟨gb452, 5, none⟩ = some (.int .i64 a0_5) ∧ w'.cell? ⟨gb452, 6, none⟩ = some (.string a0_6) ∧ w'.cell? ⟨gb452, 7, none⟩ = some (.int .i64 a0_7) ∧ w'.cell? ⟨gb452, 8, none⟩ = some (.int .i64 a0_8) ∧ w'.cell? ⟨gb452, 9, none⟩ = some (.int .i64 a0_9) ∧ w'.cell? ⟨gb452, 10, none⟩ = some (.string a0_10) ∧ w'.cell? ⟨gb452, 11, none⟩ = some (.int .i64 a0_11) ∧ w'.cell? ⟨gb452, 12, none⟩ = some (.int .i64 a0_12) ∧ w'.cell? ⟨gb452, 13, none⟩ = some (.int .i64 a0_13) ∧ w'.cell? ⟨gb452, 14, none⟩ = some (.int .i64 a0_14) ∧ w'.cell? ⟨gb452, 15, none⟩ = some (.int .i64 a0_15)) ∧ (Kd.R (Kd.int .u8) 5 w' w.heap.size (fun k_ => some k_ ≠ (s_.2 : Value).ownBlock ∧ some k_ ≠ (.slice Ao30 y453.length co30 : Value).ownBlock) s_.1 t458) ∧ (Kd.R (Kd.int .u8) 5 w' w.heap.size (fun k_ => some k_ ≠ (s_.1 : Value).ownBlock ∧ some k_ ≠ (.slice Ao30 y453.length co30 : Value).ownBlock) s_.2 y461) ∧ (Kd.R (Kd.int .u8) 5 w' w.heap.size (fun k_ => some k_ ≠ (s_.1 : Value).ownBlock ∧ some k_ ≠ (s_.2 : Value).ownBlock) (.slice Ao30 y453.length co30) y453) ∧ (w'.heap[gb452]? = some (.cells #[.int .i64 a0_0, .int .i64 a0_1, .string a0_2, .int .i64 a0_3, .int .i64 a0_4, .int .i64 a0_5, .string a0_6, .int .i64 a0_7, .int .i64 a0_8, .int .i64 a0_9, .string a0_10, .int .i64 a0_11, .int .i64 a0_12, .int .i64 a0_13, .int .i64 a0_14, .int .i64 a0_15] 29 (0, 0))) ∧ (Below w.heap.size w w')) ?_ ?_
    rotate_left
    ·
     intro hCont
     refine two_ (i := 4) (j := 9) (Ni := some 33) (Nj := some 38) (rl [9,2,3,2]) (rl [4,1,5,1,3,2]) rfl rfl rfl rfl (two_of HT_.out (by kernel_rfl)) (by decide) (by decide) (fun K hK => ?_) (fun K hK => ?_)
     ·
      skip
      refine goes_ Try.func67 (by kernel_rfl) rfl #[.slice Ao30 y453.length co30, .int .i64 a0_1] (by rfl) rfl rfl la_ ?_
      with_reducible refine (impl_PutWord.calls _ _ y453 a0_1 t458 _ ?side1 ?side2 A22.out).mono ?_
      (case side1 => exact qC ((Kd.R_reads' HO_3.out).2.2))
      (case side2 => exact (Kd.R_reads' HO_3.out).2.1)
      rintro e w32 ⟨v459, rfl, ho0, hb⟩
      refine ⟨_, rfl, ?_⟩
      have HO460 := am_ (Kd.R_lower (Kd.R_new' ho0 (Kd.R_lt (qR HO_3))) (below_size (qB HB)))
      replace HO_3 := eA_ HO_3 ho0 hb
      replace BK452 := bK_ BK452 hb
      replace HB := bS_ HB hb
      (try clear hb ho0)
      refine hK.out _ _ (cz16 BK452.out) (fun hHeld => ?_)
      clear hK K
      refine norm_ (a' := ?_) ?_ ?_
      rotate_left
      ·
       show Act.put _ (some 33) _ = _
       exact ap_
      refine one_ (i := 9) (N := some 38) (rl [10,1,3,2]) rfl rfl (one_of HT_.out (by kernel_rfl)) (by decide) (fun K hK => ?_)
      refine Kd.R_lit_step (Kd.int .u8) _ 5 ?hg (N := 38) ?hd (xs := ([(a0_3) % 256] : List Int)) (inner := [.int .u8 ((a0_3) % 256)]) (ok := fun _ => True) (okp := fun _ => True) ?hr ?hp (fun _ hk => hk) trivial (Below.refl _ _) (Nat.le_refl _) (by simp) ?_; (case hd => rfl); (case hg => rfl); (case hr => first | (go_simp; done) | (go_simp; rfl)); (case hp => exact (Reps.one (show Kd.M (Kd.int .u8) _ _ _ ((a0_3) % 256) [.int .u8 ((a0_3) % 256)] from rfl) (Reps.none _ _)))
      intro v462 w33 ho34 hb hg_ hnew_
      clear hg_ hnew_
      (first | rw [← Ny461.out] at ho34 | (simp only [Int.reduceToNat] at ho34; rw [← Ny461.out] at ho34))
      have HO463 := am_ (Kd.R_lower (Kd.R_new' (Kd.R_new' ho34 (Kd.R_lt (qR HO_3))) (Kd.R_lt (qR HO460))) (below_size (qB HB)))
      replace HO_3 := eA_ HO_3 ho34 hb
      replace HO460 := eA_ HO460 ho34 hb
      replace BK452 := bK_ BK452 hb
      replace HB := bS_ HB hb
      clear hb ho34
      refine hK.out _ _ (cz16 BK452.out) (fun hHeld => ?_)
      clear hK K
      refine norm_ (a' := ?_) ?_ ?_
      rotate_left
      ·
       show Act.put _ (some 38) _ = _
       exact ap_
      exact norm_ (by simp only [putAll, Act.put, List.setIfInBounds_toArray, List.set_cons_zero, List.set_cons_succ]) (hCont (v459, v462) _ ⟨hHeld, (tR (Kd.R_mono HO460.out (fun _ hk => ⟨hk.2, hk.1.2⟩))), (tR (Kd.R_mono HO463.out (fun _ hk => ⟨hk.2, hk.1.2⟩))), (tR (Kd.R_mono HO_3.out (fun _ hk => ⟨hk.1.2, hk.2⟩))), (qK BK452), (qB HB)⟩)
     ·
      skip
      refine Kd.R_lit_step (Kd.int .u8) _ 5 ?hg (N := 38) ?hd (xs := ([(a0_3) % 256] : List Int)) (inner := [.int .u8 ((a0_3) % 256)]) (ok := fun _ => True) (okp := fun _ => True) ?hr ?hp (fun _ hk => hk) trivial (Below.refl _ _) (Nat.le_refl _) (by simp) ?_; (case hd => rfl); (case hg => rfl); (case hr => first | (go_simp; done) | (go_simp; rfl)); (case hp => exact (Reps.one (show Kd.M (Kd.int .u8) _ _ _ ((a0_3) % 256) [.int .u8 ((a0_3) % 256)] from rfl) (Reps.none _ _)))
      intro v462 w32 ho33 hb hg_ hnew_
      clear hg_ hnew_
      (first | rw [← Ny461.out] at ho33 | (simp only [Int.reduceToNat] at ho33; rw [← Ny461.out] at ho33))
      have HO463 := am_ (Kd.R_lower (Kd.R_new' ho33 (Kd.R_lt (qR HO_3))) (below_size (qB HB)))
      replace HO_3 := eA_ HO_3 ho33 hb
      replace BK452 := bK_ BK452 hb
      replace HB := bS_ HB hb
      clear hb ho33
      refine hK.out _ _ (cz16 BK452.out) (fun hHeld => ?_)
      clear hK K
      refine norm_ (a' := ?_) ?_ ?_
      rotate_left
      ·
       show Act.put _ (some 38) _ = _
       exact ap_
      refine one_ (i := 4) (N := some 33) (rl [10,1,3,2]) rfl rfl (one_of HT_.out (by kernel_rfl)) (by decide) (fun K hK => ?_)
      refine goes_ Try.func67 (by kernel_rfl) rfl #[.slice Ao30 y453.length co30, .int .i64 a0_1] (by rfl) rfl rfl la_ ?_
      with_reducible refine (impl_PutWord.calls _ _ y453 a0_1 t458 _ ?side1 ?side2 A22.out).mono ?_
      (case side1 => exact qC ((Kd.R_reads' HO_3.out).2.2))
      (case side2 => exact (Kd.R_reads' HO_3.out).2.1)
      rintro e w34 ⟨v459, rfl, ho0, hb⟩
      refine ⟨_, rfl, ?_⟩
      have HO460 := am_ (Kd.R_lower (Kd.R_new' (Kd.R_new' ho0 (Kd.R_lt (qR HO_3))) (Kd.R_lt (qR HO463))) (below_size (qB HB)))
      replace HO_3 := eA_ HO_3 ho0 hb
      replace HO463 := eA_ HO463 ho0 hb
      replace BK452 := bK_ BK452 hb
      replace HB := bS_ HB hb
      (try clear hb ho0)
      refine hK.out _ _ (cz16 BK452.out) (fun hHeld => ?_)
      clear hK K
      refine norm_ (a' := ?_) ?_ ?_
      rotate_left
      ·
       show Act.put _ (some 33) _ = _
       exact ap_
      exact norm_ (by simp only [putAll, Act.put, List.setIfInBounds_toArray, List.set_cons_zero, List.set_cons_succ]) (hCont (v459, v462) _ ⟨hHeld, (tR (Kd.R_mono HO460.out (fun _ hk => ⟨hk.2, hk.1.2⟩))), (tR (Kd.R_mono HO463.out (fun _ hk => ⟨hk.2, hk.1.2⟩))), (tR (Kd.R_mono HO_3.out (fun _ hk => ⟨hk.2, hk.1.2⟩))), (qK BK452), (qB HB)⟩)
    rintro ⟨v459, v462⟩ w35 ⟨hS_, h0_, h1_, h2_, h3_, h4_⟩
    have n0_ : Aside0 (Kd.R (Kd.int .u8) 5 w35 w.heap.size (fun k_ => some k_ ≠ (v462 : Value).ownBlock ∧ some k_ ≠ (.slice Ao30 y453.length co30 : Value).ownBlock) v459 t458) := ⟨h0_⟩
    have n1_ : Aside0 (Kd.R (Kd.int .u8) 5 w35 w.heap.size (fun k_ => some k_ ≠ (v459 : Value).ownBlock ∧ some k_ ≠ (.slice Ao30 y453.length co30 : Value).ownBlock) v462 y461) := ⟨h1_⟩
    have n2_ : Aside0 (Kd.R (Kd.int .u8) 5 w35 w.heap.size (fun k_ => some k_ ≠ (v459 : Value).ownBlock ∧ some k_ ≠ (v462 : Value).ownBlock) (.slice Ao30 y453.length co30) y453) := ⟨h2_⟩
    have n3_ : Aside0 (w35.heap[gb452]? = some (.cells #[.int .i64 a0_0, .int .i64 a0_1, .string a0_2, .int .i64 a0_3, .int .i64 a0_4, .int .i64 a0_5, .string a0_6, .int .i64 a0_7, .int .i64 a0_8, .int .i64 a0_9, .string a0_10, .int .i64 a0_11, .int .i64 a0_12, .int .i64 a0_13, .int .i64 a0_14, .int .i64 a0_15] 29 (0, 0))) := ⟨h3_⟩
    have n4_ : Aside0 (Below w.heap.size w w35) := ⟨h4_⟩
    clear HO_3
    clear BK452
    clear HB
    clear h0_ h1_ h2_ h3_ h4_
    have HO460 := n0_
    have HO463 := n1_
    have HO_3 := n2_
    have BK452 := n3_
    have HB := n4_
    clear n0_ n1_ n2_ n3_ n4_
    have hHeld : w35.cell? ⟨gb452, 0, none⟩ = some (.int .i64 a0_0) ∧ w35.cell? ⟨gb452, 1, none⟩ = some (.int .i64 a0_1) ∧ w35.cell? ⟨gb452, 2, none⟩ = some (.string a0_2) ∧ w35.cell? ⟨gb452, 3, none⟩ = some (.int .i64 a0_3) ∧ w35.cell? ⟨gb452, 4, none⟩ = some (.int .i64 a0_4) ∧ w35.cell? ⟨gb452, 5, none⟩ = some (.int .i64 a0_5) ∧ w35.cell? ⟨gb452, 6, none⟩ = some (.string a0_6) ∧ w35.cell? ⟨gb452, 7, none⟩ = some (.int .i64 a0_7) ∧ w35.cell? ⟨gb452, 8, none⟩ = some (.int .i64 a0_8) ∧ w35.cell? ⟨gb452, 9, none⟩ = some (.int .i64 a0_9) ∧ w35.cell? ⟨gb452, 10, none⟩ = some (.string a0_10) ∧ w35.cell? ⟨gb452, 11, none⟩ = some (.int .i64 a0_11) ∧ w35.cell? ⟨gb452, 12, none⟩ = some (.int .i64 a0_12) ∧ w35.cell? ⟨gb452, 13, none⟩ = some (.int .i64 a0_13) ∧ w35.cell? ⟨gb452, 14, none⟩ = some (.int .i64 a0_14) ∧ w35.cell? ⟨gb452, 15, none⟩ = some (.int .i64 a0_15) := hS_
    obtain ⟨Ao37, co37, eo37⟩ := Kd.R_slice HO463.out
    (first | subst eo37 | (injection eo37 with f1_ f2_ f3_; have f4_ := f1_.symm; have f5_ := f3_.symm; clear f1_ f2_ f3_; subst f4_; subst f5_))
    refine norm_ (a' := ?_) ?_ ?_
    rotate_left
    ·
     simp only [putAll, Act.put, List.setIfInBounds_toArray, List.set_cons_zero, List.set_cons_succ]
     rfl
    refine one_ (i := 10) (N := some 39) (rl [14,2]) rfl rfl (one_of HT_.out (by kernel_rfl)) (by decide) (fun K hK => ?_)
    refine Kd.R_append_rows_step (Kd.int .u8) (w0 := w) w.heap.size (by rfl) (.tmp 33) (.tmp 38) 22 5 (.int .u8 0) 1 rfl Try.underlying22 info5 rfl (by decide) (by omega) v459 t458 y461 _ _ _ (fun k_ => some k_ ≠ (.slice Ao30 y453.length co30 : Value).ownBlock ∧ some k_ ≠ (.slice Ao37 y461.length co37 : Value).ownBlock) (fun _ => False) rfl rfl ?aO ?aR (fun _ _ h => h) (fun _ h => h.elim) ?aF ?aB ?aS ?aL ?_
    (case aR => exact qC ((Kd.R_reads' HO463.out).2.2))
    (case aB => exact (qB HB))
    (case aF => exact (fun k_ hk => ⟨Kd.fresh' (Kd.R_lt (qR HO_3)) k_ hk, Kd.fresh' (Kd.R_lt (qR HO463)) k_ hk⟩))
    (case aO => exact (tR (Kd.R_mono HO460.out (fun _ hk => ⟨hk.2, hk.1⟩))))
    (case aS => exact (below_size (qB HB)))
    (case aL => have := LMc23.out; omega)
    intro v465 w36 ho hb hg hat
    rw [← Ny464.out] at ho
    replace HO_3 := am_ (Kd.R_after (ok := (fun k_ => some k_ ≠ (.slice Ao37 y461.length co37 : Value).ownBlock)) (tR (Kd.R_mono HO_3.out (fun _ hk => ⟨hk.2, hk.1⟩))) hg hat)
    replace BK452 := am_ (blk_grown (qK BK452) hg (Kd.R_ne HO460.out BK452.out (by decide)))
    replace HO463 := am_ (Kd.R_after (ok := (fun k_ => some k_ ≠ (.slice Ao30 y453.length co30 : Value).ownBlock)) (tR (Kd.R_mono HO463.out (fun _ hk => ⟨hk.2, hk.1⟩))) hg hat)
    replace HB := am_ (hb)
    have HO466 := am_ (ho)
    clear HO460
    clear ho hb hg hat
    obtain ⟨Ao38, co38, eo38⟩ := Kd.R_slice HO466.out
    (first | subst eo38 | (injection eo38 with f1_ f2_ f3_; have f4_ := f1_.symm; have f5_ := f3_.symm; clear f1_ f2_ f3_; subst f4_; subst f5_))
    refine hK.out _ _ (cz16 BK452.out) (fun hHeld => ?_)
    clear hK K
    refine norm_ (a' := ?_) ?_ ?_
    rotate_left
    ·
     show Act.put _ (some 39) _ = _
     exact ap_
    refine one_ (i := 14) (N := some 43) (rl [15,1]) rfl rfl (one_of HT_.out (by kernel_rfl)) (by decide) (fun K hK => ?_)
    refine goes_ Try.func66 (by kernel_rfl) rfl #[.slice Ao38 y464.length co38, .string a0_2] (by rfl) rfl rfl la_ ?_
    with_reducible refine (impl_PutText.calls kj1 _ _ y464 a0_2 t467 _ ?side1 ?side2 A24.out).mono ?_
    (case side1 => exact qC ((Kd.R_reads' HO466.out).2.2))
    (case side2 => exact (Kd.R_reads' HO466.out).2.1)
    rintro e w39 ⟨v468, rfl, ho0, hb⟩
    refine ⟨_, rfl, ?_⟩
    have HO469 := am_ (Kd.R_lower (Kd.R_new' (Kd.R_new' (Kd.R_new' ho0 (Kd.R_lt (qR HO_3))) (Kd.R_lt (qR HO463))) (Kd.R_lt (qR HO466))) (below_size (qB HB)))
    replace HO_3 := eA_ HO_3 ho0 hb
    replace HO463 := eA_ HO463 ho0 hb
    replace HO466 := eA_ HO466 ho0 hb
    replace BK452 := bK_ BK452 hb
    replace HB := bS_ HB hb
    (try clear hb ho0)
    refine hK.out _ _ (cz16 BK452.out) (fun hHeld => ?_)
    clear hK K
    refine norm_ (a' := ?_) ?_ ?_
    rotate_left
    ·
     show Act.put _ (some 43) _ = _
     exact ap_
    refine pz_ (i := 15) (N := some 3) HT_ (rl [16]) rfl rfl ?_
    refine done_ (done_of HT_.out (by kernel_rfl)) ?_
    try go_wp2
    replace HO_3 := am_ (Kd.R_drew HO_3.out)
    replace HO463 := am_ (Kd.R_drew HO463.out)
    replace HO466 := am_ (Kd.R_drew HO466.out)
    replace HO469 := am_ (Kd.R_drew HO469.out)
    replace BK452 := am_ (blk_drew BK452.out)
    replace HB := am_ (below_drew1 HB.out)
    obtain ⟨Ao41, co41, eo41⟩ := Kd.R_slice HO469.out
    (first | subst eo41 | (injection eo41 with f1_ f2_ f3_; have f4_ := f1_.symm; have f5_ := f3_.symm; clear f1_ f2_ f3_; subst f4_; subst f5_))
    refine start_ (n := 14) (S := fun w' => w'.cell? ⟨gb452, 0, none⟩ = some (.int .i64 a0_0) ∧ w'.cell? ⟨gb452, 1, none⟩ = some (.int .i64 a0_1) ∧ w'.cell? ⟨gb452, 2, none⟩ = some (.string a0_2) ∧ w'.cell? ⟨gb452, 3, none⟩ = some (.int .i64 a0_3) ∧ w'.cell? ⟨gb452, 4, none⟩ = some (.int .i64 a0_4) ∧ w'.cell? ⟨gb452, 5, none⟩ = some (.int .i64 a0_5) ∧ w'.cell? ⟨gb452, 6, none⟩ = some (.string a0_6) ∧ w'.cell? ⟨gb452, 7, none⟩ = some (.int .i64 a0_7) ∧ w'.cell? ⟨gb452, 8, none⟩ = some (.int .i64 a0_8) ∧ w'.cell? ⟨gb452, 9, none⟩ = some (.int .i64 a0_9) ∧ w'.cell? ⟨gb452, 10, none⟩ = some (.string a0_10) ∧ w'.cell? ⟨gb452, 11, none⟩ = some (.int .i64 a0_11) ∧ w'.cell? ⟨gb452, 12, none⟩ = some (.int .i64 a0_12) ∧ w'.cell? ⟨gb452, 13, none⟩ = some (.int .i64 a0_13) ∧ w'.cell? ⟨gb452, 14, none⟩ = some (.int .i64 a0_14) ∧ w'.cell? ⟨gb452, 15, none⟩ = some (.int .i64 a0_15)) (ds := []) (rl [0,14]) (by kernel_rfl) rfl rfl (cz16 BK452.out) (fun hHeld => ?_); refine with_tabW impl_PutItem.tab4 impl_PutItem.bits4 (fun HT_ HW_ => ?_)
    generalize w39.drew = w40 at HO_3 HO463 HO466 HO469 BK452 HB hHeld ⊢
    refine pz_ (i := 0) (N := some 44) HT_ (rl [1,13]) rfl rfl ?_
    refine pz_ (i := 1) (N := some 45) HT_ (rl [2,12]) rfl rfl ?_
    refine pz_ (i := 2) (N := some 46) HT_ (rl [3,11]) rfl rfl ?_
    refine pz_ (i := 5) (N := some 49) HT_ (rl [3,2,1,8]) rfl rfl ?_
    refine pz_ (i := 6) (N := some 50) HT_ (rl [3,2,2,7]) rfl rfl ?_
    refine pz_ (i := 9) (N := some 53) HT_ (rl [3,2,2,2,1,4]) rfl rfl ?_
    refine pz_ (i := 10) (N := some 54) HT_ (rl [3,2,2,2,2,3]) rfl rfl ?_
    refine tz_ (i := 3) (N := some 47) HT_ HW_ (rl [4,1,2,2,2,3]) rfl rfl hHeld ?_
    refine tz_ (i := 7) (N := some 51) HT_ HW_ (rl [4,1,3,1,2,3]) rfl rfl hHeld ?_
    refine tz_ (i := 11) (N := some 55) HT_ HW_ (rl [4,1,3,1,3,2]) rfl rfl hHeld ?_
    refine one_ (i := 4) (N := some 48) (rl [8,1,3,2]) rfl rfl (one_of HT_.out (by kernel_rfl)) (by decide) (fun K hK => ?_)
    refine goes_ Try.func67 (by kernel_rfl) rfl #[.slice Ao41 t467.length co41, .int .i64 a0_4] (by rfl) rfl rfl la_ ?_
    with_reducible refine (impl_PutWord.calls _ _ t467 a0_4 t470 _ ?side1 ?side2 A25.out).mono ?_
    (case side1 => exact qC ((Kd.R_reads' HO469.out).2.2))
    (case side2 => exact (Kd.R_reads' HO469.out).2.1)
    rintro e w42 ⟨v471, rfl, ho0, hb⟩
    refine ⟨_, rfl, ?_⟩
    have HO472 := am_ (Kd.R_lower (Kd.R_new' (Kd.R_new' (Kd.R_new' (Kd.R_new' ho0 (Kd.R_lt (qR HO_3))) (Kd.R_lt (qR HO463))) (Kd.R_lt (qR HO466))) (Kd.R_lt (qR HO469))) (below_size (qB HB)))
    replace HO_3 := eA_ HO_3 ho0 hb
    replace HO463 := eA_ HO463 ho0 hb
    replace HO466 := eA_ HO466 ho0 hb
    replace HO469 := eA_ HO469 ho0 hb
    replace BK452 := bK_ BK452 hb
    replace HB := bS_ HB hb
    (try clear hb ho0)
    obtain ⟨Ao43, co43, eo43⟩ := Kd.R_slice HO472.out
    (first | subst eo43 | (injection eo43 with f1_ f2_ f3_; have f4_ := f1_.symm; have f5_ := f3_.symm; clear f1_ f2_ f3_; subst f4_; subst f5_))
    refine hK.out _ _ (cz16 BK452.out) (fun hHeld => ?_)
    clear hK K
    refine norm_ (a' := ?_) ?_ ?_
    rotate_left
    ·
     show Act.put _ (some 48) _ = _
     exact ap_
    refine one_ (i := 8) (N := some 52) (rl [12,2]) rfl rfl (one_of HT_.out (by kernel_rfl)) (by decide) (fun K hK => ?_)
    refine goes_ Try.func68 (by kernel_rfl) rfl #[.slice Ao43 t470.length co43, .int .i64 a0_5] (by rfl) rfl rfl la_ ?_
    with_reducible refine (impl_putSince.calls _ _ t470 a0_5 t473 _ ?side1 ?side2 A26.out).mono ?_
    (case side1 => exact qC ((Kd.R_reads' HO472.out).2.2))
    (case side2 => exact (Kd.R_reads' HO472.out).2.1)
    rintro e w44 ⟨v474, rfl, ho0, hb⟩
    refine ⟨_, rfl, ?_⟩
    have HO475 := am_ (Kd.R_lower (Kd.R_new' (Kd.R_new' (Kd.R_new' (Kd.R_new' (Kd.R_new' ho0 (Kd.R_lt (qR HO_3))) (Kd.R_lt (qR HO463))) (Kd.R_lt (qR HO466))) (Kd.R_lt (qR HO469))) (Kd.R_lt (qR HO472))) (below_size (qB HB)))
    replace HO_3 := eA_ HO_3 ho0 hb
    replace HO463 := eA_ HO463 ho0 hb
    replace HO466 := eA_ HO466 ho0 hb
    replace HO469 := eA_ HO469 ho0 hb
    replace HO472 := eA_ HO472 ho0 hb
    replace BK452 := bK_ BK452 hb
    replace HB := bS_ HB hb
    (try clear hb ho0)
    obtain ⟨Ao45, co45, eo45⟩ := Kd.R_slice HO475.out
    (first | subst eo45 | (injection eo45 with f1_ f2_ f3_; have f4_ := f1_.symm; have f5_ := f3_.symm; clear f1_ f2_ f3_; subst f4_; subst f5_))
    refine hK.out _ _ (cz16 BK452.out) (fun hHeld => ?_)
    clear hK K
    refine norm_ (a' := ?_) ?_ ?_
    rotate_left
    ·
     show Act.put _ (some 52) _ = _
     exact ap_
    refine one_ (i := 12) (N := some 56) (rl [13,1]) rfl rfl (one_of HT_.out (by kernel_rfl)) (by decide) (fun K hK => ?_)
    refine goes_ Try.func66 (by kernel_rfl) rfl #[.slice Ao45 t473.length co45, .string a0_6] (by rfl) rfl rfl la_ ?_
    with_reducible refine (impl_PutText.calls kj1 _ _ t473 a0_6 t476 _ ?side1 ?side2 A27.out).mono ?_
    (case side1 => exact qC ((Kd.R_reads' HO475.out).2.2))
    (case side2 => exact (Kd.R_reads' HO475.out).2.1)
    rintro e w46 ⟨v477, rfl, ho0, hb⟩
    refine ⟨_, rfl, ?_⟩
    have HO478 := am_ (Kd.R_lower (Kd.R_new' (Kd.R_new' (Kd.R_new' (Kd.R_new' (Kd.R_new' (Kd.R_new' ho0 (Kd.R_lt (qR HO_3))) (Kd.R_lt (qR HO463))) (Kd.R_lt (qR HO466))) (Kd.R_lt (qR HO469))) (Kd.R_lt (qR HO472))) (Kd.R_lt (qR HO475))) (below_size (qB HB)))
    replace HO_3 := eA_ HO_3 ho0 hb
    replace HO463 := eA_ HO463 ho0 hb
    replace HO466 := eA_ HO466 ho0 hb
    replace HO469 := eA_ HO469 ho0 hb
    replace HO472 := eA_ HO472 ho0 hb
    replace HO475 := eA_ HO475 ho0 hb
    replace BK452 := bK_ BK452 hb
    replace HB := bS_ HB hb
    (try clear hb ho0)
    refine hK.out _ _ (cz16 BK452.out) (fun hHeld => ?_)
    clear hK K
    refine norm_ (a' := ?_) ?_ ?_
    rotate_left
    ·
     show Act.put _ (some 56) _ = _
     exact ap_
    refine pz_ (i := 13) (N := some 3) HT_ (rl [14]) rfl rfl ?_
    refine done_ (done_of HT_.out (by kernel_rfl)) ?_
    try go_wp2
    replace HO_3 := am_ (Kd.R_drew HO_3.out)
    replace HO463 := am_ (Kd.R_drew HO463.out)
    replace HO466 := am_ (Kd.R_drew HO466.out)
    replace HO469 := am_ (Kd.R_drew HO469.out)
    replace HO472 := am_ (Kd.R_drew HO472.out)
    replace HO475 := am_ (Kd.R_drew HO475.out)
    replace HO478 := am_ (Kd.R_drew HO478.out)
    replace BK452 := am_ (blk_drew BK452.out)
    replace HB := am_ (below_drew1 HB.out)
    obtain ⟨Ao48, co48, eo48⟩ := Kd.R_slice HO478.out
    (first | subst eo48 | (injection eo48 with f1_ f2_ f3_; have f4_ := f1_.symm; have f5_ := f3_.symm; clear f1_ f2_ f3_; subst f4_; subst f5_))
    refine start_ (n := 10) (S := fun w' => w'.cell? ⟨gb452, 0, none⟩ = some (.int .i64 a0_0) ∧ w'.cell? ⟨gb452, 1, none⟩ = some (.int .i64 a0_1) ∧ w'.cell? ⟨gb452, 2, none⟩ = some (.string a0_2) ∧ w'.cell? ⟨gb452, 3, none⟩ = some (.int .i64 a0_3) ∧ w'.cell? ⟨gb452, 4, none⟩ = some (.int .i64 a0_4) ∧ w'.cell? ⟨gb452, 5, none⟩ = some (.int .i64 a0_5) ∧ w'.cell? ⟨gb452, 6, none⟩ = some (.string a0_6) ∧ w'.cell? ⟨gb452, 7, none⟩ = some (.int .i64 a0_7) ∧ w'.cell? ⟨gb452, 8, none⟩ = some (.int .i64 a0_8) ∧ w'.cell? ⟨gb452, 9, none⟩ = some (.int .i64 a0_9) ∧ w'.cell? ⟨gb452, 10, none⟩ = some (.string a0_10) ∧ w'.cell? ⟨gb452, 11, none⟩ = some (.int .i64 a0_11) ∧ w'.cell? ⟨gb452, 12, none⟩ = some (.int .i64 a0_12) ∧ w'.cell? ⟨gb452, 13, none⟩ = some (.int .i64 a0_13) ∧ w'.cell? ⟨gb452, 14, none⟩ = some (.int .i64 a0_14) ∧ w'.cell? ⟨gb452, 15, none⟩ = some (.int .i64 a0_15)) (ds := []) #[oo,oo,oo,oo,oo,oo,oo,oo,oo,oo] (by kernel_rfl) rfl rfl (cz16 BK452.out) (fun hHeld => ?_); refine with_tabW impl_PutItem.tab5 impl_PutItem.bits5 (fun HT_ HW_ => ?_)
    generalize w46.drew = w47 at HO_3 HO463 HO466 HO469 HO472 HO475 HO478 BK452 HB hHeld ⊢
    refine pz_ (i := 0) (N := some 57) HT_ #[ii,oo,oo,oo,oo,oo,oo,oo,oo,oo] rfl rfl ?_
    refine pz_ (i := 1) (N := some 58) HT_ #[ii,ii,oo,oo,oo,oo,oo,oo,oo,oo] rfl rfl ?_
    refine pz_ (i := 2) (N := some 59) HT_ #[ii,ii,ii,oo,oo,oo,oo,oo,oo,oo] rfl rfl ?_
    refine pz_ (i := 5) (N := some 62) HT_ #[ii,ii,ii,oo,oo,ii,oo,oo,oo,oo] rfl rfl ?_
    refine pz_ (i := 6) (N := some 63) HT_ #[ii,ii,ii,oo,oo,ii,ii,oo,oo,oo] rfl rfl ?_
    refine tz_ (i := 3) (N := some 60) HT_ HW_ #[ii,ii,ii,ii,oo,ii,ii,oo,oo,oo] rfl rfl hHeld ?_
    refine tz_ (i := 7) (N := some 64) HT_ HW_ #[ii,ii,ii,ii,oo,ii,ii,ii,oo,oo] rfl rfl hHeld ?_
    refine one_ (i := 4) (N := some 61) #[ii,ii,ii,ii,ii,ii,ii,ii,oo,oo] rfl rfl (one_of HT_.out (by kernel_rfl)) (by decide) (fun K hK => ?_)
    refine goes_ Try.func67 (by kernel_rfl) rfl #[.slice Ao48 t476.length co48, .int .i64 a0_7] (by rfl) rfl rfl la_ ?_
    with_reducible refine (impl_PutWord.calls _ _ t476 a0_7 t479 _ ?side1 ?side2 A28.out).mono ?_
    (case side1 => exact qC ((Kd.R_reads' HO478.out).2.2))
    (case side2 => exact (Kd.R_reads' HO478.out).2.1)
    rintro e w49 ⟨v480, rfl, ho0, hb⟩
    refine ⟨_, rfl, ?_⟩
    have HO481 := am_ (Kd.R_lower (Kd.R_new' (Kd.R_new' (Kd.R_new' (Kd.R_new' (Kd.R_new' (Kd.R_new' (Kd.R_new' ho0 (Kd.R_lt (qR HO_3))) (Kd.R_lt (qR HO463))) (Kd.R_lt (qR HO466))) (Kd.R_lt (qR HO469))) (Kd.R_lt (qR HO472))) (Kd.R_lt (qR HO475))) (Kd.R_lt (qR HO478))) (below_size (qB HB)))
    replace HO_3 := eA_ HO_3 ho0 hb
    replace HO463 := eA_ HO463 ho0 hb
    replace HO466 := eA_ HO466 ho0 hb
    replace HO469 := eA_ HO469 ho0 hb
    replace HO472 := eA_ HO472 ho0 hb
    replace HO475 := eA_ HO475 ho0 hb
    replace HO478 := eA_ HO478 ho0 hb
    replace BK452 := bK_ BK452 hb
    replace HB := bS_ HB hb
    (try clear hb ho0)
    obtain ⟨Ao50, co50, eo50⟩ := Kd.R_slice HO481.out
    (first | subst eo50 | (injection eo50 with f1_ f2_ f3_; have f4_ := f1_.symm; have f5_ := f3_.symm; clear f1_ f2_ f3_; subst f4_; subst f5_))
    refine hK.out _ _ (cz16 BK452.out) (fun hHeld => ?_)
    clear hK K
    refine norm_ (a' := ?_) ?_ ?_
    rotate_left
    ·
     show Act.put _ (some 61) _ = _
     exact ap_
    refine one_ (i := 8) (N := some 65) #[ii,ii,ii,ii,ii,ii,ii,ii,ii,oo] rfl rfl (one_of HT_.out (by kernel_rfl)) (by decide) (fun K hK => ?_)
    refine goes_ Try.func67 (by kernel_rfl) rfl #[.slice Ao50 t479.length co50, .int .i64 a0_8] (by rfl) rfl rfl la_ ?_
    with_reducible refine (impl_PutWord.calls _ _ t479 a0_8 t482 _ ?side1 ?side2 A29.out).mono ?_
    (case side1 => exact qC ((Kd.R_reads' HO481.out).2.2))
    (case side2 => exact (Kd.R_reads' HO481.out).2.1)
    rintro e w51 ⟨v483, rfl, ho0, hb⟩
    refine ⟨_, rfl, ?_⟩
    have HO484 := am_ (Kd.R_lower (Kd.R_new' (Kd.R_new' (Kd.R_new' (Kd.R_new' (Kd.R_new' (Kd.R_new' (Kd.R_new' (Kd.R_new' ho0 (Kd.R_lt (qR HO_3))) (Kd.R_lt (qR HO463))) (Kd.R_lt (qR HO466))) (Kd.R_lt (qR HO469))) (Kd.R_lt (qR HO472))) (Kd.R_lt (qR HO475))) (Kd.R_lt (qR HO478))) (Kd.R_lt (qR HO481))) (below_size (qB HB)))
    replace HO_3 := eA_ HO_3 ho0 hb
    replace HO463 := eA_ HO463 ho0 hb
    replace HO466 := eA_ HO466 ho0 hb
    replace HO469 := eA_ HO469 ho0 hb
    replace HO472 := eA_ HO472 ho0 hb
    replace HO475 := eA_ HO475 ho0 hb
    replace HO478 := eA_ HO478 ho0 hb
    replace HO481 := eA_ HO481 ho0 hb
    replace BK452 := bK_ BK452 hb
    replace HB := bS_ HB hb
    (try clear hb ho0)
    refine hK.out _ _ (cz16 BK452.out) (fun hHeld => ?_)
    clear hK K
    refine norm_ (a' := ?_) ?_ ?_
    rotate_left
    ·
     show Act.put _ (some 65) _ = _
     exact ap_
    refine pz_ (i := 9) (N := some 2) HT_ #[ii,ii,ii,ii,ii,ii,ii,ii,ii,ii] rfl rfl ?_
    refine done_ (done_of HT_.out (by kernel_rfl)) ?_
    try go_wp2
    go_ret
    exact ⟨_, er_, by (with_reducible repeat (first | apply Kd.R_alloc | apply Kd.R_drewN | apply Kd.R_drew)); exact Kd.R_mono HO484.out (fun _ hk => trivial), qB HB⟩
   replace c21 := Bool.eq_false_iff.mpr c21
   subst c21
   rw [if_neg (show ¬ (false = true) by decide)] at H
   have HC52 := Aside0.mk H
   clear H
   go_upto_region 6 with (fail)
   go_cut [66] (fun v66 wc => ∃ (kq : Nat) (x66_51 : Bool), v66 = .bool x66_51 ∧ Aside0 (impl_PutItem.j1 kq y453 x66_51 a0_0 a0_1 a0_2 a0_3 a0_4 a0_5 a0_6 a0_7 a0_8 a0_9 a0_10 a0_11 a0_12 a0_13 a0_14 a0_15 = some r) ∧ Aside0 (kq ≤ kj1) ∧ Aside0 (Kd.R (Kd.int .u8) 5 wc w.heap.size (fun _ => True) v454 y453) ∧ Aside0 (wc.heap[gb452]? = some (.cells #[.int .i64 a0_0, .int .i64 a0_1, .string a0_2, .int .i64 a0_3, .int .i64 a0_4, .int .i64 a0_5, .string a0_6, .int .i64 a0_7, .int .i64 a0_8, .int .i64 a0_9, .string a0_10, .int .i64 a0_11, .int .i64 a0_12, .int .i64 a0_13, .int .i64 a0_14, .int .i64 a0_15] 29 (0, 0))) ∧ Aside0 (Below w.heap.size w wc))
   case first =>
    have H := HC52.out
    clear HC52
    by_cases c53 : a0_0 = 2
    rotate_left
    ·
     rw [if_neg c53] at H
     have c53b0 : (a0_0 == 2) = false := beq_eq_false_iff_ne.mpr c53
     have c53b1 : (a0_0 != 2) = true := bne_iff_ne.mpr c53
     (first | rw [c53b0] | rw [c53b1] | (simp only [i64_w, i32_w]; rw [c53b0]) | skip)
     have H' := Aside0.mk H
     clear H
     (try clear zK452)
     have zK452 := cz16 BK452.out
     (try clear fK452)
     have fK452 := fz16 BK452.out
     go_wp2
     go_meet
     case rel => exact ⟨_, (false), eqq_, H', ⟨by have := HJ1.out; first | omega | exact Nat.le_refl _⟩, ⟨qR HO_3⟩, ⟨qK BK452⟩, ⟨qB HB⟩⟩
    rw [if_pos c53] at H
    have c53b0 : (a0_0 == 2) = true := beq_iff_eq.mpr c53
    have c53b1 : (a0_0 != 2) = false := bne_eq_false_iff_eq.mpr c53
    clear c53
    (first | rw [c53b0] | rw [c53b1] | (simp only [i64_w, i32_w]; rw [c53b0]) | skip)
    replace H := bd_ H
    obtain ⟨t485, A54, H⟩ := H
    by_cases c55 : t485 = true
    rotate_left
    ·
     replace c55 := Bool.eq_false_iff.mpr c55
     subst c55
     rw [if_neg (show ¬ (false = true) by decide)] at H
     have H' := Aside0.mk H
     clear H
     (try clear zK452)
     have zK452 := cz16 BK452.out
     (try clear fK452)
     have fK452 := fz16 BK452.out
     go_wp2_with (first | (go_at_call 18; (with_reducible refine (impl_LineOk.calls kj1 a0_9 a0_10 a0_11 a0_12 a0_13 a0_14 a0_15 false _ A54.out).mono ?_); rintro e w65 ⟨rfl, hb⟩; replace HO_3 := rB_ HO_3 hb; replace BK452 := bK_ BK452 hb; replace HB := bS_ HB hb; (try clear hb)))
     go_meet
     case rel => exact ⟨_, (false), eqq_, H', ⟨by have := HJ1.out; first | omega | exact Nat.le_refl _⟩, ⟨qR HO_3⟩, ⟨qK BK452⟩, ⟨qB HB⟩⟩
    subst c55
    rw [if_pos rfl] at H
    by_cases c56 : (a0_1 == 0 && (a0_2.toList == ([] : List UInt8) && (a0_3 == 0 && (a0_4 == 0 && (a0_5 == 0 && (a0_6.toList == ([] : List UInt8) && (a0_7 == 0 && (a0_8 == 0)))))))) = true
    ·
     rw [if_pos c56] at H
     have c56b0 : (a0_1 == 0 && (a0_2.toList == ([] : List UInt8) && (a0_3 == 0 && (a0_4 == 0 && (a0_5 == 0 && (a0_6.toList == ([] : List UInt8) && (a0_7 == 0 && (a0_8 == 0)))))))) = true := c56
     (try (have c56b0e := c56b0; simp only [beq_nil, bne_nil] at c56b0e))
     (try (have c56b1 : decide (a0_1 = 0 && (a0_2.toList == ([] : List UInt8) && (a0_3 == 0 && (a0_4 == 0 && (a0_5 == 0 && (a0_6.toList == ([] : List UInt8) && (a0_7 == 0 && (a0_8 == 0)))))))) = true := by simpa using c56))
     (try (have c56b1e := c56b1; simp only [beq_nil, bne_nil] at c56b1e))
     (try (have c56b2 : (a0_1 == 0 && (a0_2.toList == ([] : List UInt8) && (a0_3 == 0 && (a0_4 == 0 && (a0_5 == 0 && (a0_6.toList == ([] : List UInt8) && (a0_7 == 0 && (a0_8 == 0)))))))) = true := by simpa using c56))
     (try (have c56b2e := c56b2; simp only [beq_nil, bne_nil] at c56b2e))
     clear c56
     replace H := bd_ H
     obtain ⟨t486, A57, H⟩ := H
     have H' := Aside0.mk H
     clear H
     (try clear zK452)
     have zK452 := cz16 BK452.out
     (try clear fK452)
     have fK452 := fz16 BK452.out
     go_wp2_with (first | (go_at_call 18; (with_reducible refine (impl_LineOk.calls kj1 a0_9 a0_10 a0_11 a0_12 a0_13 a0_14 a0_15 true _ A54.out).mono ?_); rintro e w59 ⟨rfl, hb⟩; replace HO_3 := rB_ HO_3 hb; replace BK452 := bK_ BK452 hb; replace HB := bS_ HB hb; (try clear hb); (try clear zK452); have zK452 := cz16 BK452.out; (try clear fK452); have fK452 := fz16 BK452.out) | (go_at_call 65; (with_reducible refine (impl_wordOk.calls a0_15 t486 _ A57.out).mono ?_); rintro e w' ⟨rfl, ⟨nd, rfl⟩⟩))
     go_meet
     case rel => exact ⟨_, (t486), eqq_, H', ⟨by have := HJ1.out; first | omega | exact Nat.le_refl _⟩, ⟨qR HO_3⟩, ⟨qK BK452⟩, ⟨qB HB⟩⟩
    rw [if_neg c56] at H
    have c56b0 : (a0_1 == 0 && (a0_2.toList == ([] : List UInt8) && (a0_3 == 0 && (a0_4 == 0 && (a0_5 == 0 && (a0_6.toList == ([] : List UInt8) && (a0_7 == 0 && (a0_8 == 0)))))))) = false := by simpa using c56
    (try (have c56b0e := c56b0; simp only [beq_nil, bne_nil] at c56b0e))
    (try (have c56b1 : decide (a0_1 = 0 && (a0_2.toList == ([] : List UInt8) && (a0_3 == 0 && (a0_4 == 0 && (a0_5 == 0 && (a0_6.toList == ([] : List UInt8) && (a0_7 == 0 && (a0_8 == 0)))))))) = false := by simpa using c56))
    (try (have c56b1e := c56b1; simp only [beq_nil, bne_nil] at c56b1e))
    (try (have c56b2 : (a0_1 == 0 && (a0_2.toList == ([] : List UInt8) && (a0_3 == 0 && (a0_4 == 0 && (a0_5 == 0 && (a0_6.toList == ([] : List UInt8) && (a0_7 == 0 && (a0_8 == 0)))))))) = false := by simpa using c56))
    (try (have c56b2e := c56b2; simp only [beq_nil, bne_nil] at c56b2e))
    (try (have c56b3 : ¬ (a0_1 = 0 && (a0_2.toList == ([] : List UInt8) && (a0_3 == 0 && (a0_4 == 0 && (a0_5 == 0 && (a0_6.toList == ([] : List UInt8) && (a0_7 == 0 && (a0_8 == 0)))))))) := by simpa using c56))
    (try (have c56b3e := c56b3; simp only [beq_nil, bne_nil] at c56b3e))
    clear c56
    have H' := Aside0.mk H
    clear H
    (try clear zK452)
    have zK452 := cz16 BK452.out
    (try clear fK452)
    have fK452 := fz16 BK452.out
    go_wp2_with (first | (go_at_call 18; (with_reducible refine (impl_LineOk.calls kj1 a0_9 a0_10 a0_11 a0_12 a0_13 a0_14 a0_15 true _ A54.out).mono ?_); rintro e w62 ⟨rfl, hb⟩; replace HO_3 := rB_ HO_3 hb; replace BK452 := bK_ BK452 hb; replace HB := bS_ HB hb; (try clear hb); (try clear zK452); have zK452 := cz16 BK452.out; (try clear fK452); have fK452 := fz16 BK452.out))
    go_meet
    case rel => exact ⟨_, (false), eqq_, H', ⟨by have := HJ1.out; first | omega | exact Nat.le_refl _⟩, ⟨qR HO_3⟩, ⟨qK BK452⟩, ⟨qB HB⟩⟩
   case rest =>
    clear HC52
    try clear c2
    try clear p2
    try clear c5
    try clear c6
    try clear c21
    try clear c23
    try clear c53
    try clear c53b0
    try clear c53b1
    try clear c55
    try clear c56
    try clear c56b0
    try clear c56b1
    try clear c56b2
    try clear c66
    (try clear zK452)
    (try clear zK452)
    (try clear zK452)
    (try clear zK452)
    (try clear zK452)
    (try clear zK452)
    (try clear fK452)
    (try clear fK452)
    (try clear fK452)
    (try clear fK452)
    (try clear fK452)
    (try clear fK452)
    obtain ⟨kq, x66_51, rfl, HA, HJ51, HO_3, BK452, HB⟩ := hcut
    cases kq with
    | zero => exact absurd HA.out (by simp [impl_PutItem.j1])
    | succ kj51 =>
     have H := HA.out
     clear HA
     simp only [impl_PutItem.j1] at H
     by_cases c67 : x66_51 = true
     rotate_left
     ·
      replace c67 := Bool.eq_false_iff.mpr c67
      subst c67
      rw [if_neg (show ¬ (false = true) by decide)] at H
      obtain ⟨y511, hy511⟩ : ∃ y_ : List Int, y_ = (([] : List Int)) := ⟨_, rfl⟩
      rw [← hy511] at H
      have Ny511 := Aside0.mk hy511
      clear hy511
      obtain rfl := Option.some.inj H
      go_wp2_with (first | ((with_reducible refine gate_dst (N := 120) rfl ?_); refine Kd.R_lit (Kd.int .u8) _ 5 ?hg (N := 120) ?hd (xs := ([] : List Int)) (inner := []) (ok := fun _ => True) (okp := fun _ => True) ?hr ?hp (fun _ hk => hk) trivial (Below.refl _ _) (Nat.le_refl _) (by simp) ?_; (case hd => rfl); (case hg => rfl); (case hr => first | (go_simp; done) | (go_simp; rfl)); (case hp => exact (Reps.none _ _)); intro v512 w95 ho96 hb hg_ hnew_; clear hg_ hnew_; (first | rw [← Ny511.out] at ho96 | (simp only [Int.reduceToNat] at ho96; rw [← Ny511.out] at ho96)); have HO513 := am_ (Kd.R_lower (Kd.R_new' ho96 (Kd.R_lt (qR HO_3))) (below_size (qB HB))); replace HO_3 := eA_ HO_3 ho96 hb; replace BK452 := bK_ BK452 hb; replace HB := bS_ HB hb; clear hb ho96))
      go_ret
      exact ⟨_, er_, by (with_reducible repeat (first | apply Kd.R_alloc | apply Kd.R_drewN | apply Kd.R_drew)); exact Kd.R_mono HO513.out (fun _ hk => trivial), qB HB⟩
     subst c67
     rw [if_pos rfl] at H
     replace H := bd_ H
     obtain ⟨t487, A68, H⟩ := H
     obtain ⟨y490, hy490⟩ : ∃ y_ : List Int, y_ = (([(a0_12) % 256] : List Int)) := ⟨_, rfl⟩
     replace H := mk_ H hy490
     (try dsimp only at H)
     have Ny490 := Aside0.mk hy490
     clear hy490
     by_cases c69 : t487.length + y490.length < 140737488355328
     case neg => exact nn_ c69 H
     rw [if_pos c69] at H
     have LMc69 := Aside0.mk c69
     clear c69
     obtain ⟨y493, hy493⟩ : ∃ y_ : List Int, y_ = (t487 ++ y490) := ⟨_, rfl⟩
     replace H : ((impl_PutText.f kj51 y493 a0_10).bind fun t496 => ((impl_PutWord.f t496 a0_11).bind fun t499 => ((impl_putSince.f t499 a0_13).bind fun t502 => ((impl_PutWord.f t502 a0_14).bind fun t505 => ((impl_PutWord.f t505 a0_15).bind fun t508 => (some t508)))))) = some r := by first | (rw [hy493]; with_reducible exact H) | (have H2_ := (Option.bind_some _ _).symm.trans H; rw [hy493]; with_reducible exact H2_) | (have H2_ := (Option.bind_some _ _).symm.trans H; with_reducible exact H2_) | with_reducible exact H | (rw [hy493]; exact H) | exact H
     have Ny493 := Aside0.mk hy493
     clear hy493
     replace H := bd_ H
     obtain ⟨t496, A70, H⟩ := H
     replace H := bd_ H
     obtain ⟨t499, A71, H⟩ := H
     replace H := bd_ H
     obtain ⟨t502, A72, H⟩ := H
     replace H := bd_ H
     obtain ⟨t505, A73, H⟩ := H
     replace H := bd_ H
     obtain ⟨t508, A74, H⟩ := H
     obtain rfl := Option.some.inj H
     obtain ⟨Ao75, co75, eo75⟩ := Kd.R_slice HO_3.out
     subst eo75
     try go_wp2
     replace HO_3 := am_ (Kd.R_drew HO_3.out)
     replace BK452 := am_ (blk_drew BK452.out)
     replace HB := am_ (below_drew1 HB.out)
     refine start_ (n := 16) (S := fun w' => w'.cell? ⟨gb452, 0, none⟩ = some (.int .i64 a0_0) ∧ w'.cell? ⟨gb452, 1, none⟩ = some (.int .i64 a0_1) ∧ w'.cell? ⟨gb452, 2, none⟩ = some (.string a0_2) ∧ w'.cell? ⟨gb452, 3, none⟩ = some (.int .i64 a0_3) ∧ w'.cell? ⟨gb452, 4, none⟩ = some (.int .i64 a0_4) ∧ w'.cell? ⟨gb452, 5, none⟩ = some (.int .i64 a0_5) ∧ w'.cell? ⟨gb452, 6, none⟩ = some (.string a0_6) ∧ w'.cell? ⟨gb452, 7, none⟩ = some (.int .i64 a0_7) ∧ w'.cell? ⟨gb452, 8, none⟩ = some (.int .i64 a0_8) ∧ w'.cell? ⟨gb452, 9, none⟩ = some (.int .i64 a0_9) ∧ w'.cell? ⟨gb452, 10, none⟩ = some (.string a0_10) ∧ w'.cell? ⟨gb452, 11, none⟩ = some (.int .i64 a0_11) ∧ w'.cell? ⟨gb452, 12, none⟩ = some (.int .i64 a0_12) ∧ w'.cell? ⟨gb452, 13, none⟩ = some (.int .i64 a0_13) ∧ w'.cell? ⟨gb452, 14, none⟩ = some (.int .i64 a0_14) ∧ w'.cell? ⟨gb452, 15, none⟩ = some (.int .i64 a0_15)) (ds := []) (rl [0,16]) (by kernel_rfl) rfl rfl (cz16 BK452.out) (fun hHeld => ?_); refine with_tabW impl_PutItem.tab7 impl_PutItem.bits7 (fun HT_ HW_ => ?_)
     generalize wc.drew = w76 at HO_3 BK452 HB hHeld ⊢
     refine pz_ (i := 0) (N := some 87) HT_ (rl [1,15]) rfl rfl ?_
     refine pz_ (i := 1) (N := some 88) HT_ (rl [2,14]) rfl rfl ?_
     refine pz_ (i := 2) (N := some 89) HT_ (rl [3,13]) rfl rfl ?_
     refine pz_ (i := 5) (N := some 92) HT_ (rl [3,2,1,10]) rfl rfl ?_
     refine pz_ (i := 6) (N := some 93) HT_ (rl [3,2,2,9]) rfl rfl ?_
     refine pz_ (i := 11) (N := some 98) HT_ (rl [3,2,2,4,1,4]) rfl rfl ?_
     refine pz_ (i := 12) (N := some 99) HT_ (rl [3,2,2,4,2,3]) rfl rfl ?_
     refine tz_ (i := 3) (N := some 90) HT_ HW_ (rl [4,1,2,4,2,3]) rfl rfl hHeld ?_
     refine tz_ (i := 7) (N := some 94) HT_ HW_ (rl [4,1,3,3,2,3]) rfl rfl hHeld ?_
     refine pz_ (i := 8) (N := some 95) HT_ (rl [4,1,4,2,2,3]) rfl rfl ?_
     refine tz_ (i := 13) (N := some 100) HT_ HW_ (rl [4,1,4,2,3,2]) rfl rfl hHeld ?_
     refine join_ (σ := Value × Value) 3 (rl [10,1,3,2]) (fun s_ => [(91, s_.1), (96, s_.2)]) (fun s_ w' => (w'.cell? ⟨gb452, 0, none⟩ = some (.int .i64 a0_0) ∧ w'.cell? ⟨gb452, 1, none⟩ = some (.int .i64 a0_1) ∧ w'.cell? ⟨gb452, 2, none⟩ = some (.string a0_2) ∧ w'.cell? ⟨gb452, 3, none⟩ = some (.int .i64 a0_3) ∧ w'.cell? ⟨gb452, 4, none⟩ = some (.int .i64 a0_4) ∧ w'.cell? ⟨gb452, 5, none⟩ = some (.int .i64 a0_5) ∧ w'.cell? ⟨gb452, 6, none⟩ = some (.string a0_6) ∧ w'.cell? ⟨gb452, 7, none⟩ = some (.int .i64 a0_7) ∧ w'.cell? ⟨gb452, 8, none⟩ = some (.int .i64 a0_8) ∧ w'.cell? ⟨gb452, 9, none⟩ = some (.int .i64 a0_9) ∧ w'.cell? ⟨gb452, 10, none⟩ = some (.string a0_10) ∧ w'.cell? ⟨gb452, 11, none⟩ = some (.int .i64 a0_11) ∧ w'.cell? ⟨gb452, 12, none⟩ = some (.int .i64 a0_12) ∧ w'.cell? ⟨gb452, 13, none⟩ = some (.int .i64 a0_13) ∧ w'.cell? ⟨gb452, 14, none⟩ = some (.int .i64 a0_14) ∧ w'.cell? ⟨gb452, 15, none⟩ = some (.int .i64 a0_15)) ∧ (Kd.R (Kd.int .u8) 5 w' w.heap.size (fun k_ => some k_ ≠ (s_.2 : Value).ownBlock ∧ some k_ ≠ (.slice Ao75 y453.length co75 : Value).ownBlock) s_.1 t487) ∧ (Kd.R (Kd.int .u8) 5 w' w.heap.size (fun k_ => some k_ ≠ (s_.1 : Value).ownBlock ∧ some k_ ≠ (.slice Ao75 y453.length co75 : Value).ownBlock) s_.2 y490) ∧ (Kd.R (Kd.int .u8) 5 w' w.heap.size (fun k_ => some k_ ≠ (s_.1 : Value).ownBlock ∧ some k_ ≠ (s_.2 : Value).ownBlock) (.slice Ao75 y453.length co75) y453) ∧ (w'.heap[gb452]? = some (.cells #[.int .i64 a0_0, .int .i64 a0_1, .string a0_2, .int .i64 a0_3, .int .i64 a0_4, .int .i64 a0_5, .string a0_6, .int .i64 a0_7, .int .i64 a0_8, .int .i64 a0_9, .string a0_10, .int .i64 a0_11, .int .i64 a0_12, .int .i64 a0_13, .int .i64 a0_14, .int .i64 a0_15] 29 (0, 0))) ∧ (Below w.heap.size w w')) ?_ ?_
     rotate_left
     ·
      intro hCont
      refine two_ (i := 4) (j := 9) (Ni := some 91) (Nj := some 96) (rl [9,2,3,2]) (rl [4,1,5,1,3,2]) rfl rfl rfl rfl (two_of HT_.out (by kernel_rfl)) (by decide) (by decide) (fun K hK => ?_) (fun K hK => ?_)
      ·
       skip
       refine goes_ Try.func67 (by kernel_rfl) rfl #[.slice Ao75 y453.length co75, .int .i64 a0_9] (by rfl) rfl rfl la_ ?_
       with_reducible refine (impl_PutWord.calls _ _ y453 a0_9 t487 _ ?side1 ?side2 A68.out).mono ?_
       (case side1 => exact qC ((Kd.R_reads' HO_3.out).2.2))
       (case side2 => exact (Kd.R_reads' HO_3.out).2.1)
       rintro e w77 ⟨v488, rfl, ho0, hb⟩
       refine ⟨_, rfl, ?_⟩
       have HO489 := am_ (Kd.R_lower (Kd.R_new' ho0 (Kd.R_lt (qR HO_3))) (below_size (qB HB)))
       replace HO_3 := eA_ HO_3 ho0 hb
       replace BK452 := bK_ BK452 hb
       replace HB := bS_ HB hb
       (try clear hb ho0)
       refine hK.out _ _ (cz16 BK452.out) (fun hHeld => ?_)
       clear hK K
       refine norm_ (a' := ?_) ?_ ?_
       rotate_left
       ·
        show Act.put _ (some 91) _ = _
        exact ap_
       refine one_ (i := 9) (N := some 96) (rl [10,1,3,2]) rfl rfl (one_of HT_.out (by kernel_rfl)) (by decide) (fun K hK => ?_)
       refine Kd.R_lit_step (Kd.int .u8) _ 5 ?hg (N := 96) ?hd (xs := ([(a0_12) % 256] : List Int)) (inner := [.int .u8 ((a0_12) % 256)]) (ok := fun _ => True) (okp := fun _ => True) ?hr ?hp (fun _ hk => hk) trivial (Below.refl _ _) (Nat.le_refl _) (by simp) ?_; (case hd => rfl); (case hg => rfl); (case hr => first | (go_simp; done) | (go_simp; rfl)); (case hp => exact (Reps.one (show Kd.M (Kd.int .u8) _ _ _ ((a0_12) % 256) [.int .u8 ((a0_12) % 256)] from rfl) (Reps.none _ _)))
       intro v491 w78 ho79 hb hg_ hnew_
       clear hg_ hnew_
       (first | rw [← Ny490.out] at ho79 | (simp only [Int.reduceToNat] at ho79; rw [← Ny490.out] at ho79))
       have HO492 := am_ (Kd.R_lower (Kd.R_new' (Kd.R_new' ho79 (Kd.R_lt (qR HO_3))) (Kd.R_lt (qR HO489))) (below_size (qB HB)))
       replace HO_3 := eA_ HO_3 ho79 hb
       replace HO489 := eA_ HO489 ho79 hb
       replace BK452 := bK_ BK452 hb
       replace HB := bS_ HB hb
       clear hb ho79
       refine hK.out _ _ (cz16 BK452.out) (fun hHeld => ?_)
       clear hK K
       refine norm_ (a' := ?_) ?_ ?_
       rotate_left
       ·
        show Act.put _ (some 96) _ = _
        exact ap_
       exact norm_ (by simp only [putAll, Act.put, List.setIfInBounds_toArray, List.set_cons_zero, List.set_cons_succ]) (hCont (v488, v491) _ ⟨hHeld, (tR (Kd.R_mono HO489.out (fun _ hk => ⟨hk.2, hk.1.2⟩))), (tR (Kd.R_mono HO492.out (fun _ hk => ⟨hk.2, hk.1.2⟩))), (tR (Kd.R_mono HO_3.out (fun _ hk => ⟨hk.1.2, hk.2⟩))), (qK BK452), (qB HB)⟩)
      ·
       skip
       refine Kd.R_lit_step (Kd.int .u8) _ 5 ?hg (N := 96) ?hd (xs := ([(a0_12) % 256] : List Int)) (inner := [.int .u8 ((a0_12) % 256)]) (ok := fun _ => True) (okp := fun _ => True) ?hr ?hp (fun _ hk => hk) trivial (Below.refl _ _) (Nat.le_refl _) (by simp) ?_; (case hd => rfl); (case hg => rfl); (case hr => first | (go_simp; done) | (go_simp; rfl)); (case hp => exact (Reps.one (show Kd.M (Kd.int .u8) _ _ _ ((a0_12) % 256) [.int .u8 ((a0_12) % 256)] from rfl) (Reps.none _ _)))
       intro v491 w77 ho78 hb hg_ hnew_
       clear hg_ hnew_
       (first | rw [← Ny490.out] at ho78 | (simp only [Int.reduceToNat] at ho78; rw [← Ny490.out] at ho78))
       have HO492 := am_ (Kd.R_lower (Kd.R_new' ho78 (Kd.R_lt (qR HO_3))) (below_size (qB HB)))
       replace HO_3 := eA_ HO_3 ho78 hb
       replace BK452 := bK_ BK452 hb
       replace HB := bS_ HB hb
       clear hb ho78
       refine hK.out _ _ (cz16 BK452.out) (fun hHeld => ?_)
       clear hK K
       refine norm_ (a' := ?_) ?_ ?_
       rotate_left
       ·
        show Act.put _ (some 96) _ = _
        exact ap_
       refine one_ (i := 4) (N := some 91) (rl [10,1,3,2]) rfl rfl (one_of HT_.out (by kernel_rfl)) (by decide) (fun K hK => ?_)
       refine goes_ Try.func67 (by kernel_rfl) rfl #[.slice Ao75 y453.length co75, .int .i64 a0_9] (by rfl) rfl rfl la_ ?_
       with_reducible refine (impl_PutWord.calls _ _ y453 a0_9 t487 _ ?side1 ?side2 A68.out).mono ?_
       (case side1 => exact qC ((Kd.R_reads' HO_3.out).2.2))
       (case side2 => exact (Kd.R_reads' HO_3.out).2.1)
       rintro e w79 ⟨v488, rfl, ho0, hb⟩
       refine ⟨_, rfl, ?_⟩
       have HO489 := am_ (Kd.R_lower (Kd.R_new' (Kd.R_new' ho0 (Kd.R_lt (qR HO_3))) (Kd.R_lt (qR HO492))) (below_size (qB HB)))
       replace HO_3 := eA_ HO_3 ho0 hb
       replace HO492 := eA_ HO492 ho0 hb
       replace BK452 := bK_ BK452 hb
       replace HB := bS_ HB hb
       (try clear hb ho0)
       refine hK.out _ _ (cz16 BK452.out) (fun hHeld => ?_)
       clear hK K
       refine norm_ (a' := ?_) ?_ ?_
       rotate_left
       ·
        show Act.put _ (some 91) _ = _
        exact ap_
       exact norm_ (by simp only [putAll, Act.put, List.setIfInBounds_toArray, List.set_cons_zero, List.set_cons_succ]) (hCont (v488, v491) _ ⟨hHeld, (tR (Kd.R_mono HO489.out (fun _ hk => ⟨hk.2, hk.1.2⟩))), (tR (Kd.R_mono HO492.out (fun _ hk => ⟨hk.2, hk.1.2⟩))), (tR (Kd.R_mono HO_3.out (fun _ hk => ⟨hk.2, hk.1.2⟩))), (qK BK452), (qB HB)⟩)
     rintro ⟨v488, v491⟩ w80 ⟨hS_, h0_, h1_, h2_, h3_, h4_⟩
     have n0_ : Aside0 (Kd.R (Kd.int .u8) 5 w80 w.heap.size (fun k_ => some k_ ≠ (v491 : Value).ownBlock ∧ some k_ ≠ (.slice Ao75 y453.length co75 : Value).ownBlock) v488 t487) := ⟨h0_⟩
     have n1_ : Aside0 (Kd.R (Kd.int .u8) 5 w80 w.heap.size (fun k_ => some k_ ≠ (v488 : Value).ownBlock ∧ some k_ ≠ (.slice Ao75 y453.length co75 : Value).ownBlock) v491 y490) := ⟨h1_⟩
     have n2_ : Aside0 (Kd.R (Kd.int .u8) 5 w80 w.heap.size (fun k_ => some k_ ≠ (v488 : Value).ownBlock ∧ some k_ ≠ (v491 : Value).ownBlock) (.slice Ao75 y453.length co75) y453) := ⟨h2_⟩
     have n3_ : Aside0 (w80.heap[gb452]? = some (.cells #[.int .i64 a0_0, .int .i64 a0_1, .string a0_2, .int .i64 a0_3, .int .i64 a0_4, .int .i64 a0_5, .string a0_6, .int .i64 a0_7, .int .i64 a0_8, .int .i64 a0_9, .string a0_10, .int .i64 a0_11, .int .i64 a0_12, .int .i64 a0_13, .int .i64 a0_14, .int .i64 a0_15] 29 (0, 0))) := ⟨h3_⟩
     have n4_ : Aside0 (Below w.heap.size w w80) := ⟨h4_⟩
     clear HO_3
     clear BK452
     clear HB
     clear h0_ h1_ h2_ h3_ h4_
     have HO489 := n0_
     have HO492 := n1_
     have HO_3 := n2_
     have BK452 := n3_
     have HB := n4_
     clear n0_ n1_ n2_ n3_ n4_
     have hHeld : w80.cell? ⟨gb452, 0, none⟩ = some (.int .i64 a0_0) ∧ w80.cell? ⟨gb452, 1, none⟩ = some (.int .i64 a0_1) ∧ w80.cell? ⟨gb452, 2, none⟩ = some (.string a0_2) ∧ w80.cell? ⟨gb452, 3, none⟩ = some (.int .i64 a0_3) ∧ w80.cell? ⟨gb452, 4, none⟩ = some (.int .i64 a0_4) ∧ w80.cell? ⟨gb452, 5, none⟩ = some (.int .i64 a0_5) ∧ w80.cell? ⟨gb452, 6, none⟩ = some (.string a0_6) ∧ w80.cell? ⟨gb452, 7, none⟩ = some (.int .i64 a0_7) ∧ w80.cell? ⟨gb452, 8, none⟩ = some (.int .i64 a0_8) ∧ w80.cell? ⟨gb452, 9, none⟩ = some (.int .i64 a0_9) ∧ w80.cell? ⟨gb452, 10, none⟩ = some (.string a0_10) ∧ w80.cell? ⟨gb452, 11, none⟩ = some (.int .i64 a0_11) ∧ w80.cell? ⟨gb452, 12, none⟩ = some (.int .i64 a0_12) ∧ w80.cell? ⟨gb452, 13, none⟩ = some (.int .i64 a0_13) ∧ w80.cell? ⟨gb452, 14, none⟩ = some (.int .i64 a0_14) ∧ w80.cell? ⟨gb452, 15, none⟩ = some (.int .i64 a0_15) := hS_
     obtain ⟨Ao82, co82, eo82⟩ := Kd.R_slice HO492.out
     (first | subst eo82 | (injection eo82 with f1_ f2_ f3_; have f4_ := f1_.symm; have f5_ := f3_.symm; clear f1_ f2_ f3_; subst f4_; subst f5_))
     refine norm_ (a' := ?_) ?_ ?_
     rotate_left
     ·
      simp only [putAll, Act.put, List.setIfInBounds_toArray, List.set_cons_zero, List.set_cons_succ]
      rfl
     refine one_ (i := 10) (N := some 97) (rl [14,2]) rfl rfl (one_of HT_.out (by kernel_rfl)) (by decide) (fun K hK => ?_)
     refine Kd.R_append_rows_step (Kd.int .u8) (w0 := w) w.heap.size (by rfl) (.tmp 91) (.tmp 96) 22 5 (.int .u8 0) 1 rfl Try.underlying22 info5 rfl (by decide) (by omega) v488 t487 y490 _ _ _ (fun k_ => some k_ ≠ (.slice Ao75 y453.length co75 : Value).ownBlock ∧ some k_ ≠ (.slice Ao82 y490.length co82 : Value).ownBlock) (fun _ => False) rfl rfl ?aO ?aR (fun _ _ h => h) (fun _ h => h.elim) ?aF ?aB ?aS ?aL ?_
     (case aR => exact qC ((Kd.R_reads' HO492.out).2.2))
     (case aB => exact (qB HB))
     (case aF => exact (fun k_ hk => ⟨Kd.fresh' (Kd.R_lt (qR HO_3)) k_ hk, Kd.fresh' (Kd.R_lt (qR HO492)) k_ hk⟩))
     (case aO => exact (tR (Kd.R_mono HO489.out (fun _ hk => ⟨hk.2, hk.1⟩))))
     (case aS => exact (below_size (qB HB)))
     (case aL => have := LMc69.out; omega)
     intro v494 w81 ho hb hg hat
     rw [← Ny493.out] at ho
     replace HO_3 := am_ (Kd.R_after (ok := (fun k_ => some k_ ≠ (.slice Ao82 y490.length co82 : Value).ownBlock)) (tR (Kd.R_mono HO_3.out (fun _ hk => ⟨hk.2, hk.1⟩))) hg hat)
     replace BK452 := am_ (blk_grown (qK BK452) hg (Kd.R_ne HO489.out BK452.out (by decide)))
     replace HO492 := am_ (Kd.R_after (ok := (fun k_ => some k_ ≠ (.slice Ao75 y453.length co75 : Value).ownBlock)) (tR (Kd.R_mono HO492.out (fun _ hk => ⟨hk.2, hk.1⟩))) hg hat)
     replace HB := am_ (hb)
     have HO495 := am_ (ho)
     clear HO489
     clear ho hb hg hat
     obtain ⟨Ao83, co83, eo83⟩ := Kd.R_slice HO495.out
     (first | subst eo83 | (injection eo83 with f1_ f2_ f3_; have f4_ := f1_.symm; have f5_ := f3_.symm; clear f1_ f2_ f3_; subst f4_; subst f5_))
     refine hK.out _ _ (cz16 BK452.out) (fun hHeld => ?_)
     clear hK K
     refine norm_ (a' := ?_) ?_ ?_
     rotate_left
     ·
      show Act.put _ (some 97) _ = _
      exact ap_
     refine one_ (i := 14) (N := some 101) (rl [15,1]) rfl rfl (one_of HT_.out (by kernel_rfl)) (by decide) (fun K hK => ?_)
     refine goes_ Try.func66 (by kernel_rfl) rfl #[.slice Ao83 y493.length co83, .string a0_10] (by rfl) rfl rfl la_ ?_
     with_reducible refine (impl_PutText.calls kj51 _ _ y493 a0_10 t496 _ ?side1 ?side2 A70.out).mono ?_
     (case side1 => exact qC ((Kd.R_reads' HO495.out).2.2))
     (case side2 => exact (Kd.R_reads' HO495.out).2.1)
     rintro e w84 ⟨v497, rfl, ho0, hb⟩
     refine ⟨_, rfl, ?_⟩
     have HO498 := am_ (Kd.R_lower (Kd.R_new' (Kd.R_new' (Kd.R_new' ho0 (Kd.R_lt (qR HO_3))) (Kd.R_lt (qR HO492))) (Kd.R_lt (qR HO495))) (below_size (qB HB)))
     replace HO_3 := eA_ HO_3 ho0 hb
     replace HO492 := eA_ HO492 ho0 hb
     replace HO495 := eA_ HO495 ho0 hb
     replace BK452 := bK_ BK452 hb
     replace HB := bS_ HB hb
     (try clear hb ho0)
     refine hK.out _ _ (cz16 BK452.out) (fun hHeld => ?_)
     clear hK K
     refine norm_ (a' := ?_) ?_ ?_
     rotate_left
     ·
      show Act.put _ (some 101) _ = _
      exact ap_
     refine pz_ (i := 15) (N := some 3) HT_ (rl [16]) rfl rfl ?_
     refine done_ (done_of HT_.out (by kernel_rfl)) ?_
     try go_wp2
     replace HO_3 := am_ (Kd.R_drew HO_3.out)
     replace HO492 := am_ (Kd.R_drew HO492.out)
     replace HO495 := am_ (Kd.R_drew HO495.out)
     replace HO498 := am_ (Kd.R_drew HO498.out)
     replace BK452 := am_ (blk_drew BK452.out)
     replace HB := am_ (below_drew1 HB.out)
     obtain ⟨Ao86, co86, eo86⟩ := Kd.R_slice HO498.out
     (first | subst eo86 | (injection eo86 with f1_ f2_ f3_; have f4_ := f1_.symm; have f5_ := f3_.symm; clear f1_ f2_ f3_; subst f4_; subst f5_))
     refine start_ (n := 10) (S := fun w' => w'.cell? ⟨gb452, 0, none⟩ = some (.int .i64 a0_0) ∧ w'.cell? ⟨gb452, 1, none⟩ = some (.int .i64 a0_1) ∧ w'.cell? ⟨gb452, 2, none⟩ = some (.string a0_2) ∧ w'.cell? ⟨gb452, 3, none⟩ = some (.int .i64 a0_3) ∧ w'.cell? ⟨gb452, 4, none⟩ = some (.int .i64 a0_4) ∧ w'.cell? ⟨gb452, 5, none⟩ = some (.int .i64 a0_5) ∧ w'.cell? ⟨gb452, 6, none⟩ = some (.string a0_6) ∧ w'.cell? ⟨gb452, 7, none⟩ = some (.int .i64 a0_7) ∧ w'.cell? ⟨gb452, 8, none⟩ = some (.int .i64 a0_8) ∧ w'.cell? ⟨gb452, 9, none⟩ = some (.int .i64 a0_9) ∧ w'.cell? ⟨gb452, 10, none⟩ = some (.string a0_10) ∧ w'.cell? ⟨gb452, 11, none⟩ = some (.int .i64 a0_11) ∧ w'.cell? ⟨gb452, 12, none⟩ = some (.int .i64 a0_12) ∧ w'.cell? ⟨gb452, 13, none⟩ = some (.int .i64 a0_13) ∧ w'.cell? ⟨gb452, 14, none⟩ = some (.int .i64 a0_14) ∧ w'.cell? ⟨gb452, 15, none⟩ = some (.int .i64 a0_15)) (ds := []) #[oo,oo,oo,oo,oo,oo,oo,oo,oo,oo] (by kernel_rfl) rfl rfl (cz16 BK452.out) (fun hHeld => ?_); refine with_tabW impl_PutItem.tab8 impl_PutItem.bits8 (fun HT_ HW_ => ?_)
     generalize w84.drew = w85 at HO_3 HO492 HO495 HO498 BK452 HB hHeld ⊢
     refine pz_ (i := 0) (N := some 102) HT_ #[ii,oo,oo,oo,oo,oo,oo,oo,oo,oo] rfl rfl ?_
     refine pz_ (i := 1) (N := some 103) HT_ #[ii,ii,oo,oo,oo,oo,oo,oo,oo,oo] rfl rfl ?_
     refine pz_ (i := 2) (N := some 104) HT_ #[ii,ii,ii,oo,oo,oo,oo,oo,oo,oo] rfl rfl ?_
     refine pz_ (i := 5) (N := some 107) HT_ #[ii,ii,ii,oo,oo,ii,oo,oo,oo,oo] rfl rfl ?_
     refine pz_ (i := 6) (N := some 108) HT_ #[ii,ii,ii,oo,oo,ii,ii,oo,oo,oo] rfl rfl ?_
     refine tz_ (i := 3) (N := some 105) HT_ HW_ #[ii,ii,ii,ii,oo,ii,ii,oo,oo,oo] rfl rfl hHeld ?_
     refine tz_ (i := 7) (N := some 109) HT_ HW_ #[ii,ii,ii,ii,oo,ii,ii,ii,oo,oo] rfl rfl hHeld ?_
     refine one_ (i := 4) (N := some 106) #[ii,ii,ii,ii,ii,ii,ii,ii,oo,oo] rfl rfl (one_of HT_.out (by kernel_rfl)) (by decide) (fun K hK => ?_)
     refine goes_ Try.func67 (by kernel_rfl) rfl #[.slice Ao86 t496.length co86, .int .i64 a0_11] (by rfl) rfl rfl la_ ?_
     with_reducible refine (impl_PutWord.calls _ _ t496 a0_11 t499 _ ?side1 ?side2 A71.out).mono ?_
     (case side1 => exact qC ((Kd.R_reads' HO498.out).2.2))
     (case side2 => exact (Kd.R_reads' HO498.out).2.1)
     rintro e w87 ⟨v500, rfl, ho0, hb⟩
     refine ⟨_, rfl, ?_⟩
     have HO501 := am_ (Kd.R_lower (Kd.R_new' (Kd.R_new' (Kd.R_new' (Kd.R_new' ho0 (Kd.R_lt (qR HO_3))) (Kd.R_lt (qR HO492))) (Kd.R_lt (qR HO495))) (Kd.R_lt (qR HO498))) (below_size (qB HB)))
     replace HO_3 := eA_ HO_3 ho0 hb
     replace HO492 := eA_ HO492 ho0 hb
     replace HO495 := eA_ HO495 ho0 hb
     replace HO498 := eA_ HO498 ho0 hb
     replace BK452 := bK_ BK452 hb
     replace HB := bS_ HB hb
     (try clear hb ho0)
     obtain ⟨Ao88, co88, eo88⟩ := Kd.R_slice HO501.out
     (first | subst eo88 | (injection eo88 with f1_ f2_ f3_; have f4_ := f1_.symm; have f5_ := f3_.symm; clear f1_ f2_ f3_; subst f4_; subst f5_))
     refine hK.out _ _ (cz16 BK452.out) (fun hHeld => ?_)
     clear hK K
     refine norm_ (a' := ?_) ?_ ?_
     rotate_left
     ·
      show Act.put _ (some 106) _ = _
      exact ap_
     refine one_ (i := 8) (N := some 110) #[ii,ii,ii,ii,ii,ii,ii,ii,ii,oo] rfl rfl (one_of HT_.out (by kernel_rfl)) (by decide) (fun K hK => ?_)
     refine goes_ Try.func68 (by kernel_rfl) rfl #[.slice Ao88 t499.length co88, .int .i64 a0_13] (by rfl) rfl rfl la_ ?_
     with_reducible refine (impl_putSince.calls _ _ t499 a0_13 t502 _ ?side1 ?side2 A72.out).mono ?_
     (case side1 => exact qC ((Kd.R_reads' HO501.out).2.2))
     (case side2 => exact (Kd.R_reads' HO501.out).2.1)
     rintro e w89 ⟨v503, rfl, ho0, hb⟩
     refine ⟨_, rfl, ?_⟩
     have HO504 := am_ (Kd.R_lower (Kd.R_new' (Kd.R_new' (Kd.R_new' (Kd.R_new' (Kd.R_new' ho0 (Kd.R_lt (qR HO_3))) (Kd.R_lt (qR HO492))) (Kd.R_lt (qR HO495))) (Kd.R_lt (qR HO498))) (Kd.R_lt (qR HO501))) (below_size (qB HB)))
     replace HO_3 := eA_ HO_3 ho0 hb
     replace HO492 := eA_ HO492 ho0 hb
     replace HO495 := eA_ HO495 ho0 hb
     replace HO498 := eA_ HO498 ho0 hb
     replace HO501 := eA_ HO501 ho0 hb
     replace BK452 := bK_ BK452 hb
     replace HB := bS_ HB hb
     (try clear hb ho0)
     refine hK.out _ _ (cz16 BK452.out) (fun hHeld => ?_)
     clear hK K
     refine norm_ (a' := ?_) ?_ ?_
     rotate_left
     ·
      show Act.put _ (some 110) _ = _
      exact ap_
     refine pz_ (i := 9) (N := some 3) HT_ #[ii,ii,ii,ii,ii,ii,ii,ii,ii,ii] rfl rfl ?_
     refine done_ (done_of HT_.out (by kernel_rfl)) ?_
     try go_wp2
     replace HO_3 := am_ (Kd.R_drew HO_3.out)
     replace HO492 := am_ (Kd.R_drew HO492.out)
     replace HO495 := am_ (Kd.R_drew HO495.out)
     replace HO498 := am_ (Kd.R_drew HO498.out)
     replace HO501 := am_ (Kd.R_drew HO501.out)
     replace HO504 := am_ (Kd.R_drew HO504.out)
     replace BK452 := am_ (blk_drew BK452.out)
     replace HB := am_ (below_drew1 HB.out)
     obtain ⟨Ao91, co91, eo91⟩ := Kd.R_slice HO504.out
     (first | subst eo91 | (injection eo91 with f1_ f2_ f3_; have f4_ := f1_.symm; have f5_ := f3_.symm; clear f1_ f2_ f3_; subst f4_; subst f5_))
     refine start_ (n := 10) (S := fun w' => w'.cell? ⟨gb452, 0, none⟩ = some (.int .i64 a0_0) ∧ w'.cell? ⟨gb452, 1, none⟩ = some (.int .i64 a0_1) ∧ w'.cell? ⟨gb452, 2, none⟩ = some (.string a0_2) ∧ w'.cell? ⟨gb452, 3, none⟩ = some (.int .i64 a0_3) ∧ w'.cell? ⟨gb452, 4, none⟩ = some (.int .i64 a0_4) ∧ w'.cell? ⟨gb452, 5, none⟩ = some (.int .i64 a0_5) ∧ w'.cell? ⟨gb452, 6, none⟩ = some (.string a0_6) ∧ w'.cell? ⟨gb452, 7, none⟩ = some (.int .i64 a0_7) ∧ w'.cell? ⟨gb452, 8, none⟩ = some (.int .i64 a0_8) ∧ w'.cell? ⟨gb452, 9, none⟩ = some (.int .i64 a0_9) ∧ w'.cell? ⟨gb452, 10, none⟩ = some (.string a0_10) ∧ w'.cell? ⟨gb452, 11, none⟩ = some (.int .i64 a0_11) ∧ w'.cell? ⟨gb452, 12, none⟩ = some (.int .i64 a0_12) ∧ w'.cell? ⟨gb452, 13, none⟩ = some (.int .i64 a0_13) ∧ w'.cell? ⟨gb452, 14, none⟩ = some (.int .i64 a0_14) ∧ w'.cell? ⟨gb452, 15, none⟩ = some (.int .i64 a0_15)) (ds := []) #[oo,oo,oo,oo,oo,oo,oo,oo,oo,oo] (by kernel_rfl) rfl rfl (cz16 BK452.out) (fun hHeld => ?_); refine with_tabW impl_PutItem.tab9 impl_PutItem.bits9 (fun HT_ HW_ => ?_)
     generalize w89.drew = w90 at HO_3 HO492 HO495 HO498 HO501 HO504 BK452 HB hHeld ⊢
     refine pz_ (i := 0) (N := some 111) HT_ #[ii,oo,oo,oo,oo,oo,oo,oo,oo,oo] rfl rfl ?_
     refine pz_ (i := 1) (N := some 112) HT_ #[ii,ii,oo,oo,oo,oo,oo,oo,oo,oo] rfl rfl ?_
     refine pz_ (i := 2) (N := some 113) HT_ #[ii,ii,ii,oo,oo,oo,oo,oo,oo,oo] rfl rfl ?_
     refine pz_ (i := 5) (N := some 116) HT_ #[ii,ii,ii,oo,oo,ii,oo,oo,oo,oo] rfl rfl ?_
     refine pz_ (i := 6) (N := some 117) HT_ #[ii,ii,ii,oo,oo,ii,ii,oo,oo,oo] rfl rfl ?_
     refine tz_ (i := 3) (N := some 114) HT_ HW_ #[ii,ii,ii,ii,oo,ii,ii,oo,oo,oo] rfl rfl hHeld ?_
     refine tz_ (i := 7) (N := some 118) HT_ HW_ #[ii,ii,ii,ii,oo,ii,ii,ii,oo,oo] rfl rfl hHeld ?_
     refine one_ (i := 4) (N := some 115) #[ii,ii,ii,ii,ii,ii,ii,ii,oo,oo] rfl rfl (one_of HT_.out (by kernel_rfl)) (by decide) (fun K hK => ?_)
     refine goes_ Try.func67 (by kernel_rfl) rfl #[.slice Ao91 t502.length co91, .int .i64 a0_14] (by rfl) rfl rfl la_ ?_
     with_reducible refine (impl_PutWord.calls _ _ t502 a0_14 t505 _ ?side1 ?side2 A73.out).mono ?_
     (case side1 => exact qC ((Kd.R_reads' HO504.out).2.2))
     (case side2 => exact (Kd.R_reads' HO504.out).2.1)
     rintro e w92 ⟨v506, rfl, ho0, hb⟩
     refine ⟨_, rfl, ?_⟩
     have HO507 := am_ (Kd.R_lower (Kd.R_new' (Kd.R_new' (Kd.R_new' (Kd.R_new' (Kd.R_new' (Kd.R_new' ho0 (Kd.R_lt (qR HO_3))) (Kd.R_lt (qR HO492))) (Kd.R_lt (qR HO495))) (Kd.R_lt (qR HO498))) (Kd.R_lt (qR HO501))) (Kd.R_lt (qR HO504))) (below_size (qB HB)))
     replace HO_3 := eA_ HO_3 ho0 hb
     replace HO492 := eA_ HO492 ho0 hb
     replace HO495 := eA_ HO495 ho0 hb
     replace HO498 := eA_ HO498 ho0 hb
     replace HO501 := eA_ HO501 ho0 hb
     replace HO504 := eA_ HO504 ho0 hb
     replace BK452 := bK_ BK452 hb
     replace HB := bS_ HB hb
     (try clear hb ho0)
     obtain ⟨Ao93, co93, eo93⟩ := Kd.R_slice HO507.out
     (first | subst eo93 | (injection eo93 with f1_ f2_ f3_; have f4_ := f1_.symm; have f5_ := f3_.symm; clear f1_ f2_ f3_; subst f4_; subst f5_))
     refine hK.out _ _ (cz16 BK452.out) (fun hHeld => ?_)
     clear hK K
     refine norm_ (a' := ?_) ?_ ?_
     rotate_left
     ·
      show Act.put _ (some 115) _ = _
      exact ap_
     refine one_ (i := 8) (N := some 119) #[ii,ii,ii,ii,ii,ii,ii,ii,ii,oo] rfl rfl (one_of HT_.out (by kernel_rfl)) (by decide) (fun K hK => ?_)
     refine goes_ Try.func67 (by kernel_rfl) rfl #[.slice Ao93 t505.length co93, .int .i64 a0_15] (by rfl) rfl rfl la_ ?_
     with_reducible refine (impl_PutWord.calls _ _ t505 a0_15 t508 _ ?side1 ?side2 A74.out).mono ?_
     (case side1 => exact qC ((Kd.R_reads' HO507.out).2.2))
     (case side2 => exact (Kd.R_reads' HO507.out).2.1)
     rintro e w94 ⟨v509, rfl, ho0, hb⟩
     refine ⟨_, rfl, ?_⟩
     have HO510 := am_ (Kd.R_lower (Kd.R_new' (Kd.R_new' (Kd.R_new' (Kd.R_new' (Kd.R_new' (Kd.R_new' (Kd.R_new' ho0 (Kd.R_lt (qR HO_3))) (Kd.R_lt (qR HO492))) (Kd.R_lt (qR HO495))) (Kd.R_lt (qR HO498))) (Kd.R_lt (qR HO501))) (Kd.R_lt (qR HO504))) (Kd.R_lt (qR HO507))) (below_size (qB HB)))
     replace HO_3 := eA_ HO_3 ho0 hb
     replace HO492 := eA_ HO492 ho0 hb
     replace HO495 := eA_ HO495 ho0 hb
     replace HO498 := eA_ HO498 ho0 hb
     replace HO501 := eA_ HO501 ho0 hb
     replace HO504 := eA_ HO504 ho0 hb
     replace HO507 := eA_ HO507 ho0 hb
     replace BK452 := bK_ BK452 hb
     replace HB := bS_ HB hb
     (try clear hb ho0)
     refine hK.out _ _ (cz16 BK452.out) (fun hHeld => ?_)
     clear hK K
     refine norm_ (a' := ?_) ?_ ?_
     rotate_left
     ·
      show Act.put _ (some 119) _ = _
      exact ap_
     refine pz_ (i := 9) (N := some 2) HT_ #[ii,ii,ii,ii,ii,ii,ii,ii,ii,ii] rfl rfl ?_
     refine done_ (done_of HT_.out (by kernel_rfl)) ?_
     try go_wp2
     go_ret
     exact ⟨_, er_, by (with_reducible repeat (first | apply Kd.R_alloc | apply Kd.R_drewN | apply Kd.R_drew)); exact Kd.R_mono HO510.out (fun _ hk => trivial), qB HB⟩

end Go.Proofs.Ytiffahfpfgnjnaa.PFnItems
