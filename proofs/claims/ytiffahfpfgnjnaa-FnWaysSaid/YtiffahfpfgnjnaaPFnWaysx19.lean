-- Written by a program of this session (myprint.py, over the kit's print): contracts of FnWays
import Derived.Test.YtiffahfpfgnjnaaPFnWaysx0
import Derived.Test.YtiffahfpfgnjnaaPFnWaysx1
import Derived.Test.YtiffahfpfgnjnaaPFnWaysx2
import Derived.Test.YtiffahfpfgnjnaaPFnWaysx15
import Derived.Test.YtiffahfpfgnjnaaPFnWaysx17
import Derived.Test.YtiffahfpfgnjnaaPFnWaysx18
namespace Go.Proofs.Ytiffahfpfgnjnaa.PFnWays
open Go.RowKit Go.Proofs.YtiffahfpfgnjnaaW.PrintWords Go.Proofs.YtiffahfpfgnjnaaW.PrintLast Go.Proofs.YtiffahfpfgnjnaaW.PrintMore Go.Proofs.YtiffahfpfgnjnaaV
attribute [local go_sem] max2_int min2_int max_two min_two max_three min_three max_four min_four   -- for this text's walks alone
set_option linter.unusedVariables false
set_option linter.unusedSimpArgs false

attribute [local go_sem high] eqA25 eqA27
/-! ### impl_PutItem: function 9 -/
mutual
def impl_PutItem.j0 : Nat → List Int → Bool → Int → Int → ByteArray → Int → Int → Int → ByteArray → Int → Int → Int → ByteArray → Int → Int → Int → Int → Int → Option (List Int)
 | 0, _, _, _, _, _, _, _, _, _, _, _, _, _, _, _, _, _, _ => none
 | k + 1, x3, x8, x840000, x840001, x840002, x840003, x840004, x840005, x840006, x840007, x840008, x840009, x840010, x840011, x840012, x840013, x840014, x840015 => if x8 = true then ((impl_PutWord.f x3 x840001).bind fun t845 => ((some (([(x840003) % 256] : List Int) : List Int)).bind fun y848 => (if t845.length + y848.length < 140737488355328 then ((impl_PutText.f k (t845 ++ y848) x840002).bind fun t854 => ((impl_PutWord.f t854 x840004).bind fun t857 => ((impl_putSince.f t857 x840005).bind fun t860 => ((impl_PutText.f k t860 x840006).bind fun t863 => ((impl_PutWord.f t863 x840007).bind fun t866 => ((impl_PutWord.f t866 x840008).bind fun t869 => (some t869))))))) else (none)))) else (if x840000 = 2 then ((impl_LineOk.f k x840009 x840010 x840011 x840012 x840013 x840014 x840015).bind fun t872 => (if t872 = true then (if (x840001 == 0 && (x840002.toList == ([] : List UInt8) && (x840003 == 0 && (x840004 == 0 && (x840005 == 0 && (x840006.toList == ([] : List UInt8) && (x840007 == 0 && (x840008 == 0)))))))) = true then ((impl_wordOk.f x840015).bind fun t873 => (impl_PutItem.j1 k x3 t873 x840000 x840001 x840002 x840003 x840004 x840005 x840006 x840007 x840008 x840009 x840010 x840011 x840012 x840013 x840014 x840015)) else (impl_PutItem.j1 k x3 false x840000 x840001 x840002 x840003 x840004 x840005 x840006 x840007 x840008 x840009 x840010 x840011 x840012 x840013 x840014 x840015)) else (impl_PutItem.j1 k x3 false x840000 x840001 x840002 x840003 x840004 x840005 x840006 x840007 x840008 x840009 x840010 x840011 x840012 x840013 x840014 x840015))) else (impl_PutItem.j1 k x3 false x840000 x840001 x840002 x840003 x840004 x840005 x840006 x840007 x840008 x840009 x840010 x840011 x840012 x840013 x840014 x840015))
def impl_PutItem.j1 : Nat → List Int → Bool → Int → Int → ByteArray → Int → Int → Int → ByteArray → Int → Int → Int → ByteArray → Int → Int → Int → Int → Int → Option (List Int)
 | 0, _, _, _, _, _, _, _, _, _, _, _, _, _, _, _, _, _, _ => none
 | k + 1, x3, x66, x840000, x840001, x840002, x840003, x840004, x840005, x840006, x840007, x840008, x840009, x840010, x840011, x840012, x840013, x840014, x840015 => if x66 = true then ((impl_PutWord.f x3 x840009).bind fun t874 => ((some (([(x840012) % 256] : List Int) : List Int)).bind fun y877 => (if t874.length + y877.length < 140737488355328 then ((impl_PutText.f k (t874 ++ y877) x840010).bind fun t883 => ((impl_PutWord.f t883 x840011).bind fun t886 => ((impl_putSince.f t886 x840013).bind fun t889 => ((impl_PutWord.f t889 x840014).bind fun t892 => ((impl_PutWord.f t892 x840015).bind fun t895 => (some t895)))))) else (none)))) else (some (([] : List Int)))
end
def impl_PutItem.f (k : Nat) (a0_0 : Int) (a0_1 : Int) (a0_2 : ByteArray) (a0_3 : Int) (a0_4 : Int) (a0_5 : Int) (a0_6 : ByteArray) (a0_7 : Int) (a0_8 : Int) (a0_9 : Int) (a0_10 : ByteArray) (a0_11 : Int) (a0_12 : Int) (a0_13 : Int) (a0_14 : Int) (a0_15 : Int) : Option (List Int) := (some (([(a0_0) % 256] : List Int) : List Int)).bind fun y840 => (if a0_0 = 1 then ((impl_AskerOk.f k a0_1 a0_2 a0_3 a0_4 a0_5 a0_6 a0_7 a0_8).bind fun t843 => (if t843 = true then (if (a0_9 == 0 && (a0_10.toList == ([] : List UInt8) && (a0_11 == 0 && (a0_12 == 0 && (a0_13 == 0 && (a0_14 == 0 && (a0_15 == 0))))))) = true then ((impl_wordOk.f a0_8).bind fun t844 => (impl_PutItem.j0 k y840 t844 a0_0 a0_1 a0_2 a0_3 a0_4 a0_5 a0_6 a0_7 a0_8 a0_9 a0_10 a0_11 a0_12 a0_13 a0_14 a0_15)) else (impl_PutItem.j0 k y840 false a0_0 a0_1 a0_2 a0_3 a0_4 a0_5 a0_6 a0_7 a0_8 a0_9 a0_10 a0_11 a0_12 a0_13 a0_14 a0_15)) else (impl_PutItem.j0 k y840 false a0_0 a0_1 a0_2 a0_3 a0_4 a0_5 a0_6 a0_7 a0_8 a0_9 a0_10 a0_11 a0_12 a0_13 a0_14 a0_15))) else (impl_PutItem.j0 k y840 false a0_0 a0_1 a0_2 a0_3 a0_4 a0_5 a0_6 a0_7 a0_8 a0_9 a0_10 a0_11 a0_12 a0_13 a0_14 a0_15))
theorem impl_PutItem.mono_l : ∀ k, (∀ y0 y1 y2 y3 y4 y5 y6 y7 y8 y9 y10 y11 y12 y13 y14 y15 y16 y17, LeO (impl_PutItem.j0 k y0 y1 y2 y3 y4 y5 y6 y7 y8 y9 y10 y11 y12 y13 y14 y15 y16 y17) (impl_PutItem.j0 (k + 1) y0 y1 y2 y3 y4 y5 y6 y7 y8 y9 y10 y11 y12 y13 y14 y15 y16 y17)) ∧ (∀ y0 y1 y2 y3 y4 y5 y6 y7 y8 y9 y10 y11 y12 y13 y14 y15 y16 y17, LeO (impl_PutItem.j1 k y0 y1 y2 y3 y4 y5 y6 y7 y8 y9 y10 y11 y12 y13 y14 y15 y16 y17) (impl_PutItem.j1 (k + 1) y0 y1 y2 y3 y4 y5 y6 y7 y8 y9 y10 y11 y12 y13 y14 y15 y16 y17))
 | 0 => ⟨fun _ _ _ _ _ _ _ _ _ _ _ _ _ _ _ _ _ _ r h => by simp [impl_PutItem.j0] at h, fun _ _ _ _ _ _ _ _ _ _ _ _ _ _ _ _ _ _ r h => by simp [impl_PutItem.j1] at h⟩
 | k + 1 => by
  obtain ⟨ih0, ih1⟩ := impl_PutItem.mono_l k
  refine ⟨?_, ?_⟩
  ·
   intro y0 y1 y2 y3 y4 y5 y6 y7 y8 y9 y10 y11 y12 y13 y14 y15 y16 y17
   unfold impl_PutItem.j0
   have m0 := @impl_AskerOk.mono; have m1 := @impl_LineOk.mono; have m2 := @impl_PutText.mono; exact mo_
  ·
   intro y0 y1 y2 y3 y4 y5 y6 y7 y8 y9 y10 y11 y12 y13 y14 y15 y16 y17
   unfold impl_PutItem.j1
   have m0 := @impl_AskerOk.mono; have m1 := @impl_LineOk.mono; have m2 := @impl_PutText.mono; exact mo_
theorem impl_PutItem.mono : ∀ a0 a1 a2 a3 a4 a5 a6 a7 a8 a9 a10 a11 a12 a13 a14 a15 k, LeO (impl_PutItem.f k a0 a1 a2 a3 a4 a5 a6 a7 a8 a9 a10 a11 a12 a13 a14 a15) (impl_PutItem.f (k + 1) a0 a1 a2 a3 a4 a5 a6 a7 a8 a9 a10 a11 a12 a13 a14 a15) := by
 intro a0 a1 a2 a3 a4 a5 a6 a7 a8 a9 a10 a11 a12 a13 a14 a15 k
 obtain ⟨ih0, ih1⟩ := impl_PutItem.mono_l k
 unfold impl_PutItem.f
 have m0 := @impl_AskerOk.mono; have m1 := @impl_LineOk.mono; have m2 := @impl_PutText.mono; exact mo_
def impl_PutItem.T3 : Bool × List (List Nat × List Nat) := (true, [([], []), ([], []), ([1], [1]), ([2], [2]), ([0, 3], [0, 3]), ([], []), ([5], [5]), ([6], [6]), ([7], [7]), ([8], [8]), ([4, 9, 4], [4, 9]), ([], []), ([11], [11]), ([12], [12]), ([10, 13, 10], [10, 13]), ([14, 14, 0, 1, 2, 3, 4, 5, 6, 7, 8, 9, 10, 11, 12, 13, 14], [0, 14])])
def impl_PutItem.B3 : List Nat := [0, 0, 2, 6, 15, 0, 32, 96, 224, 480, 1023, 0, 2048, 6144, 16383, 32767]
theorem impl_PutItem.tab3 : rtab .any (opsOf Try.f9 3) = impl_PutItem.T3 := by kernel_rfl
theorem impl_PutItem.bits3 : waitsOk impl_PutItem.T3.2 impl_PutItem.B3 = true := by kernel_rfl
def impl_PutItem.T4 : Bool × List (List Nat × List Nat) := (true, [([], []), ([], []), ([1], [1]), ([2], [2]), ([0, 3], [0, 3]), ([], []), ([5], [5]), ([6], [6]), ([4, 7, 4], [4, 7]), ([], []), ([9], [9]), ([10], [10]), ([8, 11, 8], [8, 11]), ([12, 12, 0, 1, 2, 3, 4, 5, 6, 7, 8, 9, 10, 11, 12], [0, 12])])
def impl_PutItem.B4 : List Nat := [0, 0, 2, 6, 15, 0, 32, 96, 255, 0, 512, 1536, 4095, 8191]
theorem impl_PutItem.tab4 : rtab .any (opsOf Try.f9 4) = impl_PutItem.T4 := by kernel_rfl
theorem impl_PutItem.bits4 : waitsOk impl_PutItem.T4.2 impl_PutItem.B4 = true := by kernel_rfl
def impl_PutItem.T5 : Bool × List (List Nat × List Nat) := (true, [([], []), ([], []), ([1], [1]), ([2], [2]), ([0, 3], [0, 3]), ([], []), ([5], [5]), ([6], [6]), ([4, 7, 4], [4, 7]), ([8, 8, 0, 1, 2, 3, 4, 5, 6, 7, 8], [8])])
def impl_PutItem.B5 : List Nat := [0, 0, 2, 6, 15, 0, 32, 96, 255, 511]
theorem impl_PutItem.tab5 : rtab .any (opsOf Try.f9 5) = impl_PutItem.T5 := by kernel_rfl
theorem impl_PutItem.bits5 : waitsOk impl_PutItem.T5.2 impl_PutItem.B5 = true := by kernel_rfl
def impl_PutItem.T7 : Bool × List (List Nat × List Nat) := (true, [([], []), ([], []), ([1], [1]), ([2], [2]), ([0, 3], [0, 3]), ([], []), ([5], [5]), ([6], [6]), ([7], [7]), ([8], [8]), ([4, 9, 4], [4, 9]), ([], []), ([11], [11]), ([12], [12]), ([10, 13, 10], [10, 13]), ([14, 14, 0, 1, 2, 3, 4, 5, 6, 7, 8, 9, 10, 11, 12, 13, 14], [0, 14])])
def impl_PutItem.B7 : List Nat := [0, 0, 2, 6, 15, 0, 32, 96, 224, 480, 1023, 0, 2048, 6144, 16383, 32767]
theorem impl_PutItem.tab7 : rtab .any (opsOf Try.f9 7) = impl_PutItem.T7 := by kernel_rfl
theorem impl_PutItem.bits7 : waitsOk impl_PutItem.T7.2 impl_PutItem.B7 = true := by kernel_rfl
def impl_PutItem.T8 : Bool × List (List Nat × List Nat) := (true, [([], []), ([], []), ([1], [1]), ([2], [2]), ([0, 3], [0, 3]), ([], []), ([5], [5]), ([6], [6]), ([4, 7, 4], [4, 7]), ([8, 8, 0, 1, 2, 3, 4, 5, 6, 7, 8], [0, 8])])
def impl_PutItem.B8 : List Nat := [0, 0, 2, 6, 15, 0, 32, 96, 255, 511]
theorem impl_PutItem.tab8 : rtab .any (opsOf Try.f9 8) = impl_PutItem.T8 := by kernel_rfl
theorem impl_PutItem.bits8 : waitsOk impl_PutItem.T8.2 impl_PutItem.B8 = true := by kernel_rfl
def impl_PutItem.T9 : Bool × List (List Nat × List Nat) := (true, [([], []), ([], []), ([1], [1]), ([2], [2]), ([0, 3], [0, 3]), ([], []), ([5], [5]), ([6], [6]), ([4, 7, 4], [4, 7]), ([8, 8, 0, 1, 2, 3, 4, 5, 6, 7, 8], [8])])
def impl_PutItem.B9 : List Nat := [0, 0, 2, 6, 15, 0, 32, 96, 255, 511]
theorem impl_PutItem.tab9 : rtab .any (opsOf Try.f9 9) = impl_PutItem.T9 := by kernel_rfl
theorem impl_PutItem.bits9 : waitsOk impl_PutItem.T9.2 impl_PutItem.B9 = true := by kernel_rfl
set_option maxHeartbeats 8000000 in
set_option maxRecDepth 100000 in
theorem impl_PutItem.calls (k : Nat) (a0_0 : Int) (a0_1 : Int) (a0_2 : ByteArray) (a0_3 : Int) (a0_4 : Int) (a0_5 : Int) (a0_6 : ByteArray) (a0_7 : Int) (a0_8 : Int) (a0_9 : Int) (a0_10 : ByteArray) (a0_11 : Int) (a0_12 : Int) (a0_13 : Int) (a0_14 : Int) (a0_15 : Int) (r : List Int) (w : World) (h : impl_PutItem.f k a0_0 a0_1 a0_2 a0_3 a0_4 a0_5 a0_6 a0_7 a0_8 a0_9 a0_10 a0_11 a0_12 a0_13 a0_14 a0_15 = some r) :
  Calls Try.prog 9 #[.agg #[.int .i64 a0_0, .int .i64 a0_1, .string a0_2, .int .i64 a0_3, .int .i64 a0_4, .int .i64 a0_5, .string a0_6, .int .i64 a0_7, .int .i64 a0_8, .int .i64 a0_9, .string a0_10, .int .i64 a0_11, .int .i64 a0_12, .int .i64 a0_13, .int .i64 a0_14, .int .i64 a0_15]] w fun e w' => ∃ v0_ : Value, e = .returned (v0_) ∧ Kd.R (Kd.int .u8) 5 w' w.heap.size (fun _ => True) v0_ r ∧ Below w.heap.size w w' := by
 have hu29 := Try.underlying29
 have hu25 := Try.underlying25
 have hu27 := Try.underlying27
 have HB := Aside0.mk (Below.refl w.heap.size w)
 have H := h
 unfold impl_PutItem.f at H
 clear h
 obtain ⟨y840, hy840⟩ : ∃ y_ : List Int, y_ = (([(a0_0) % 256] : List Int)) := ⟨_, rfl⟩
 replace H := mk_ H hy840
 (try dsimp only at H)
 have Ny840 := Aside0.mk hy840
 clear hy840
 have HC2 := Aside0.mk H
 clear H
 go_enter Try.func9, Try.ntmps9
 go_upto_region 2 with (first | ((with_reducible refine gate_dst (N := 1) rfl ?_); refine bx_ (N := 1) (cs := #[.int .i64 a0_0, .int .i64 a0_1, .string a0_2, .int .i64 a0_3, .int .i64 a0_4, .int .i64 a0_5, .string a0_6, .int .i64 a0_7, .int .i64 a0_8, .int .i64 a0_9, .string a0_10, .int .i64 a0_11, .int .i64 a0_12, .int .i64 a0_13, .int .i64 a0_14, .int .i64 a0_15]) (t := 29) ?_; intro gb839 hg w3 hbox hb; have BK839 := am_ (hbox); have GW839 := gA_ hg HB; have GE839 := GW839; have IGE839 := gI_ GE839; replace HB := bS_ HB hb; clear hb hbox hg; (try clear zK839); have zK839 := cz16 BK839.out; (try clear fK839); have fK839 := fz16 BK839.out) | ((with_reducible refine gate_dst (N := 7) rfl ?_); refine Kd.R_lit (Kd.int .u8) _ 5 ?hg (N := 7) ?hd (xs := ([(a0_0) % 256] : List Int)) (inner := [.int .u8 ((a0_0) % 256)]) (ok := fun _ => True) (okp := fun _ => True) ?hr ?hp (fun _ hk => hk) trivial (Below.refl _ _) (Nat.le_refl _) (by simp) ?_; (case hd => rfl); (case hg => rfl); (case hr => first | (go_simp; done) | (go_simp; rfl)); (case hp => exact (Reps.one (show Kd.M (Kd.int .u8) _ _ _ ((a0_0) % 256) [.int .u8 ((a0_0) % 256)] from rfl) (Reps.none _ _))); intro v841 w5 ho6 hb hg_ hnew_; clear hg_ hnew_; (first | rw [← Ny840.out] at ho6 | (simp only [Int.reduceToNat] at ho6; rw [← Ny840.out] at ho6)); have HO842 := am_ (Kd.R_lower ho6 (below_size (qB HB))); replace BK839 := bK_ BK839 hb; replace HB := bS_ HB hb; clear hb ho6))
 (try simp only [Act.put, List.setIfInBounds_toArray, List.set_cons_zero, List.set_cons_succ])
 go_cut [8] (fun v8 wc => ∃ (kq : Nat) (x8_1 : Bool), v8 = .bool x8_1 ∧ Aside0 (impl_PutItem.j0 kq y840 x8_1 a0_0 a0_1 a0_2 a0_3 a0_4 a0_5 a0_6 a0_7 a0_8 a0_9 a0_10 a0_11 a0_12 a0_13 a0_14 a0_15 = some r) ∧ Aside0 (kq ≤ k) ∧ Aside0 (Kd.R (Kd.int .u8) 5 wc w.heap.size (fun _ => True) v841 y840) ∧ Aside0 (wc.heap[gb839]? = some (.cells #[.int .i64 a0_0, .int .i64 a0_1, .string a0_2, .int .i64 a0_3, .int .i64 a0_4, .int .i64 a0_5, .string a0_6, .int .i64 a0_7, .int .i64 a0_8, .int .i64 a0_9, .string a0_10, .int .i64 a0_11, .int .i64 a0_12, .int .i64 a0_13, .int .i64 a0_14, .int .i64 a0_15] 29 (0, 0))) ∧ Aside0 (Below w.heap.size w wc))
 case first =>
  have H := HC2.out
  clear HC2
  by_cases c7 : a0_0 = 1
  rotate_left
  ·
   rw [if_neg c7] at H
   have c7b0 : (a0_0 == 1) = false := beq_eq_false_iff_ne.mpr c7
   have c7b1 : (a0_0 != 1) = true := bne_iff_ne.mpr c7
   (first | rw [c7b0] | rw [c7b1] | (simp only [i64_w, i32_w]; rw [c7b0]) | skip)
   have H' := Aside0.mk H
   clear H
   (try clear zK839)
   have zK839 := cz16 BK839.out
   (try clear fK839)
   have fK839 := fz16 BK839.out
   go_wp2
   go_meet
   case rel => exact ⟨_, (false), eqq_, H', ⟨by first | omega | exact Nat.le_refl _⟩, ⟨qR HO842⟩, ⟨qK BK839⟩, ⟨qB HB⟩⟩
  rw [if_pos c7] at H
  have c7b0 : (a0_0 == 1) = true := beq_iff_eq.mpr c7
  have c7b1 : (a0_0 != 1) = false := bne_eq_false_iff_eq.mpr c7
  clear c7
  (first | rw [c7b0] | rw [c7b1] | (simp only [i64_w, i32_w]; rw [c7b0]) | skip)
  replace H := bd_ H
  obtain ⟨t843, A8, H⟩ := H
  by_cases c9 : t843 = true
  rotate_left
  ·
   replace c9 := Bool.eq_false_iff.mpr c9
   subst c9
   rw [if_neg (show ¬ (false = true) by decide)] at H
   have H' := Aside0.mk H
   clear H
   (try clear zK839)
   have zK839 := cz16 BK839.out
   (try clear fK839)
   have fK839 := fz16 BK839.out
   go_wp2_with (first | (go_at_call 16; (with_reducible refine (impl_AskerOk.calls k a0_1 a0_2 a0_3 a0_4 a0_5 a0_6 a0_7 a0_8 false _ A8.out).mono ?_); rintro e w19 ⟨rfl, hb⟩; replace HO842 := rB_ HO842 hb; replace BK839 := bK_ BK839 hb; replace HB := bS_ HB hb; (try clear hb)))
   go_meet
   case rel => exact ⟨_, (false), eqq_, H', ⟨by first | omega | exact Nat.le_refl _⟩, ⟨qR HO842⟩, ⟨qK BK839⟩, ⟨qB HB⟩⟩
  subst c9
  rw [if_pos rfl] at H
  by_cases c10 : (a0_9 == 0 && (a0_10.toList == ([] : List UInt8) && (a0_11 == 0 && (a0_12 == 0 && (a0_13 == 0 && (a0_14 == 0 && (a0_15 == 0))))))) = true
  ·
   rw [if_pos c10] at H
   have c10b0 : (a0_9 == 0 && (a0_10.toList == ([] : List UInt8) && (a0_11 == 0 && (a0_12 == 0 && (a0_13 == 0 && (a0_14 == 0 && (a0_15 == 0))))))) = true := c10
   (try (have c10b0e := c10b0; simp only [beq_nil, bne_nil] at c10b0e))
   (try (have c10b1 : decide (a0_9 = 0 && (a0_10.toList == ([] : List UInt8) && (a0_11 == 0 && (a0_12 == 0 && (a0_13 == 0 && (a0_14 == 0 && (a0_15 == 0))))))) = true := by simpa using c10))
   (try (have c10b1e := c10b1; simp only [beq_nil, bne_nil] at c10b1e))
   (try (have c10b2 : (a0_9 == 0 && (a0_10.toList == ([] : List UInt8) && (a0_11 == 0 && (a0_12 == 0 && (a0_13 == 0 && (a0_14 == 0 && (a0_15 == 0))))))) = true := by simpa using c10))
   (try (have c10b2e := c10b2; simp only [beq_nil, bne_nil] at c10b2e))
   clear c10
   replace H := bd_ H
   obtain ⟨t844, A11, H⟩ := H
   have H' := Aside0.mk H
   clear H
   (try clear zK839)
   have zK839 := cz16 BK839.out
   (try clear fK839)
   have fK839 := fz16 BK839.out
   go_wp2_with (first | (go_at_call 16; (with_reducible refine (impl_AskerOk.calls k a0_1 a0_2 a0_3 a0_4 a0_5 a0_6 a0_7 a0_8 true _ A8.out).mono ?_); rintro e w13 ⟨rfl, hb⟩; replace HO842 := rB_ HO842 hb; replace BK839 := bK_ BK839 hb; replace HB := bS_ HB hb; (try clear hb); (try clear zK839); have zK839 := cz16 BK839.out; (try clear fK839); have fK839 := fz16 BK839.out) | (go_at_call 65; (with_reducible refine (impl_wordOk.calls a0_8 t844 _ A11.out).mono ?_); rintro e w' ⟨rfl, ⟨nd, rfl⟩⟩))
   go_meet
   case rel => exact ⟨_, (t844), eqq_, H', ⟨by first | omega | exact Nat.le_refl _⟩, ⟨qR HO842⟩, ⟨qK BK839⟩, ⟨qB HB⟩⟩
  rw [if_neg c10] at H
  have c10b0 : (a0_9 == 0 && (a0_10.toList == ([] : List UInt8) && (a0_11 == 0 && (a0_12 == 0 && (a0_13 == 0 && (a0_14 == 0 && (a0_15 == 0))))))) = false := by simpa using c10
  (try (have c10b0e := c10b0; simp only [beq_nil, bne_nil] at c10b0e))
  (try (have c10b1 : decide (a0_9 = 0 && (a0_10.toList == ([] : List UInt8) && (a0_11 == 0 && (a0_12 == 0 && (a0_13 == 0 && (a0_14 == 0 && (a0_15 == 0))))))) = false := by simpa using c10))
  (try (have c10b1e := c10b1; simp only [beq_nil, bne_nil] at c10b1e))
  (try (have c10b2 : (a0_9 == 0 && (a0_10.toList == ([] : List UInt8) && (a0_11 == 0 && (a0_12 == 0 && (a0_13 == 0 && (a0_14 == 0 && (a0_15 == 0))))))) = false := by simpa using c10))
  (try (have c10b2e := c10b2; simp only [beq_nil, bne_nil] at c10b2e))
  (try (have c10b3 : ¬ (a0_9 = 0 && (a0_10.toList == ([] : List UInt8) && (a0_11 == 0 && (a0_12 == 0 && (a0_13 == 0 && (a0_14 == 0 && (a0_15 == 0))))))) := by simpa using c10))
  (try (have c10b3e := c10b3; simp only [beq_nil, bne_nil] at c10b3e))
  clear c10
  have H' := Aside0.mk H
  clear H
  (try clear zK839)
  have zK839 := cz16 BK839.out
  (try clear fK839)
  have fK839 := fz16 BK839.out
  go_wp2_with (first | (go_at_call 16; (with_reducible refine (impl_AskerOk.calls k a0_1 a0_2 a0_3 a0_4 a0_5 a0_6 a0_7 a0_8 true _ A8.out).mono ?_); rintro e w16 ⟨rfl, hb⟩; replace HO842 := rB_ HO842 hb; replace BK839 := bK_ BK839 hb; replace HB := bS_ HB hb; (try clear hb); (try clear zK839); have zK839 := cz16 BK839.out; (try clear fK839); have fK839 := fz16 BK839.out))
  go_meet
  case rel => exact ⟨_, (false), eqq_, H', ⟨by first | omega | exact Nat.le_refl _⟩, ⟨qR HO842⟩, ⟨qK BK839⟩, ⟨qB HB⟩⟩
 case rest =>
  clear HC2
  try clear c1
  try clear p2
  try clear c7
  try clear c7b0
  try clear c7b1
  try clear c9
  try clear c10
  try clear c10b0
  try clear c10b1
  try clear c10b2
  (try clear zK839)
  (try clear zK839)
  (try clear zK839)
  (try clear zK839)
  (try clear zK839)
  (try clear zK839)
  (try clear zK839)
  (try clear fK839)
  (try clear fK839)
  (try clear fK839)
  (try clear fK839)
  (try clear fK839)
  (try clear fK839)
  (try clear fK839)
  obtain ⟨kq, x8_1, rfl, HA, HJ1, HO_3, BK839, HB⟩ := hcut
  cases kq with
  | zero => exact absurd HA.out (by simp [impl_PutItem.j0])
  | succ kj1 =>
   have H := HA.out
   clear HA
   simp only [impl_PutItem.j0] at H
   by_cases c21 : x8_1 = true
   ·
    subst c21
    rw [if_pos rfl] at H
    replace H := bd_ H
    obtain ⟨t845, A22, H⟩ := H
    obtain ⟨y848, hy848⟩ : ∃ y_ : List Int, y_ = (([(a0_3) % 256] : List Int)) := ⟨_, rfl⟩
    replace H := mk_ H hy848
    (try dsimp only at H)
    have Ny848 := Aside0.mk hy848
    clear hy848
    by_cases c23 : t845.length + y848.length < 140737488355328
    case neg => exact nn_ c23 H
    rw [if_pos c23] at H
    have LMc23 := Aside0.mk c23
    clear c23
    obtain ⟨y851, hy851⟩ : ∃ y_ : List Int, y_ = (t845 ++ y848) := ⟨_, rfl⟩
    replace H : ((impl_PutText.f kj1 y851 a0_2).bind fun t854 => ((impl_PutWord.f t854 a0_4).bind fun t857 => ((impl_putSince.f t857 a0_5).bind fun t860 => ((impl_PutText.f kj1 t860 a0_6).bind fun t863 => ((impl_PutWord.f t863 a0_7).bind fun t866 => ((impl_PutWord.f t866 a0_8).bind fun t869 => (some t869))))))) = some r := by first | (rw [hy851]; with_reducible exact H) | (have H2_ := (Option.bind_some _ _).symm.trans H; rw [hy851]; with_reducible exact H2_) | (have H2_ := (Option.bind_some _ _).symm.trans H; with_reducible exact H2_) | with_reducible exact H | (rw [hy851]; exact H) | exact H
    have Ny851 := Aside0.mk hy851
    clear hy851
    replace H := bd_ H
    obtain ⟨t854, A24, H⟩ := H
    replace H := bd_ H
    obtain ⟨t857, A25, H⟩ := H
    replace H := bd_ H
    obtain ⟨t860, A26, H⟩ := H
    replace H := bd_ H
    obtain ⟨t863, A27, H⟩ := H
    replace H := bd_ H
    obtain ⟨t866, A28, H⟩ := H
    replace H := bd_ H
    obtain ⟨t869, A29, H⟩ := H
    obtain rfl := Option.some.inj H
    obtain ⟨Ao30, co30, eo30⟩ := Kd.R_slice HO_3.out
    subst eo30
    try go_wp2
    replace HO_3 := am_ (Kd.R_drew HO_3.out)
    replace BK839 := am_ (blk_drew BK839.out)
    replace HB := am_ (below_drew1 HB.out)
    refine start_ (n := 16) (S := fun w' => w'.cell? ⟨gb839, 0, none⟩ = some (.int .i64 a0_0) ∧ w'.cell? ⟨gb839, 1, none⟩ = some (.int .i64 a0_1) ∧ w'.cell? ⟨gb839, 2, none⟩ = some (.string a0_2) ∧ w'.cell? ⟨gb839, 3, none⟩ = some (.int .i64 a0_3) ∧ w'.cell? ⟨gb839, 4, none⟩ = some (.int .i64 a0_4) ∧ w'.cell? ⟨gb839, 5, none⟩ = some (.int .i64 a0_5) ∧ w'.cell? ⟨gb839, 6, none⟩ = some (.string a0_6) ∧ w'.cell? ⟨gb839, 7, none⟩ = some (.int .i64 a0_7) ∧ w'.cell? ⟨gb839, 8, none⟩ = some (.int .i64 a0_8) ∧ w'.cell? ⟨gb839, 9, none⟩ = some (.int .i64 a0_9) ∧ w'.cell? ⟨gb839, 10, none⟩ = some (.string a0_10) ∧ w'.cell? ⟨gb839, 11, none⟩ = some (.int .i64 a0_11) ∧ w'.cell? ⟨gb839, 12, none⟩ = some (.int .i64 a0_12) ∧ w'.cell? ⟨gb839, 13, none⟩ = some (.int .i64 a0_13) ∧ w'.cell? ⟨gb839, 14, none⟩ = some (.int .i64 a0_14) ∧ w'.cell? ⟨gb839, 15, none⟩ = some (.int .i64 a0_15)) (ds := []) (rl [0,16]) (by kernel_rfl) rfl rfl (cz16 BK839.out) (fun hHeld => ?_); refine with_tabW impl_PutItem.tab3 impl_PutItem.bits3 (fun HT_ HW_ => ?_)
    generalize wc.drew = w31 at HO_3 BK839 HB hHeld ⊢
    refine pz_ (i := 0) (N := some 29) HT_ (rl [1,15]) rfl rfl ?_
    refine pz_ (i := 1) (N := some 30) HT_ (rl [2,14]) rfl rfl ?_
    refine pz_ (i := 2) (N := some 31) HT_ (rl [3,13]) rfl rfl ?_
    refine pz_ (i := 5) (N := some 34) HT_ (rl [3,2,1,10]) rfl rfl ?_
    refine pz_ (i := 6) (N := some 35) HT_ (rl [3,2,2,9]) rfl rfl ?_
    refine pz_ (i := 11) (N := some 40) HT_ (rl [3,2,2,4,1,4]) rfl rfl ?_
    refine pz_ (i := 12) (N := some 41) HT_ (rl [3,2,2,4,2,3]) rfl rfl ?_
    refine tz_ (i := 3) (N := some 32) HT_ HW_ (rl [4,1,2,4,2,3]) rfl rfl hHeld ?_
    refine tz_ (i := 7) (N := some 36) HT_ HW_ (rl [4,1,3,3,2,3]) rfl rfl hHeld ?_
    refine pz_ (i := 8) (N := some 37) HT_ (rl [4,1,4,2,2,3]) rfl rfl ?_
    refine tz_ (i := 13) (N := some 42) HT_ HW_ (rl [4,1,4,2,3,2]) rfl rfl hHeld ?_
    refine join_ (σ := Value × Value) 3 (rl [10,1,3,2]) (fun s_ => [(33, s_.1), (38, s_.2)]) (fun s_ w' => (w'.cell? ⟨gb839, 0, none⟩ = some (.int .i64 a0_0) ∧ w'.cell? ⟨gb839, 1, none⟩ = some (.int .i64 a0_1) ∧ w'.cell? ⟨gb839, 2, none⟩ = some (.string a0_2) ∧ w'.cell? ⟨gb839, 3, none⟩ = some (.int .i64 a0_3) ∧ w'.cell? ⟨gb839, 4, none⟩ = some (.int .i64 a0_4) ∧ w'.cell? ⟨gb839, 5, none⟩ = some (.int .i64 a0_5) ∧ w'.cell? ⟨gb839, 6, none⟩ = some (.string a0_6) ∧ w'.cell? ⟨gb839, 7, none⟩ = some (.int .i64 a0_7) ∧ w'.cell? ⟨gb839, 8, none⟩ = some (.int .i64 a0_8) ∧ w'.cell? ⟨gb839, 9, none⟩ = some (.int .i64 a0_9) ∧ w'.cell? ⟨gb839, 10, none⟩ = some (.string a0_10) ∧ w'.cell? ⟨gb839, 11, none⟩ = some (.int .i64 a0_11) ∧ w'.cell? ⟨gb839, 12, none⟩ = some (.int .i64 a0_12) ∧ w'.cell? ⟨gb839, 13, none⟩ = some (.int .i64 a0_13) ∧ w'.cell? ⟨gb839, 14, none⟩ = some (.int .i64 a0_14) ∧ w'.cell? ⟨gb839, 15, none⟩ = some (.int .i64 a0_15)) ∧ (Kd.R (Kd.int .u8) 5 w' w.heap.size (fun k_ => some k_ ≠ (s_.2 : Value).ownBlock ∧ some k_ ≠ (.slice Ao30 y840.length co30 : Value).ownBlock) s_.1 t845) ∧ (Kd.R (Kd.int .u8) 5 w' w.heap.size (fun k_ => some k_ ≠ (s_.1 : Value).ownBlock ∧ some k_ ≠ (.slice Ao30 y840.length co30 : Value).ownBlock) s_.2 y848) ∧ (Kd.R (Kd.int .u8) 5 w' w.heap.size (fun k_ => some k_ ≠ (s_.1 : Value).ownBlock ∧ some k_ ≠ (s_.2 : Value).ownBlock) (.slice Ao30 y840.length co30) y840) ∧ (w'.heap[gb839]? = some (.cells #[.int .i64 a0_0, .int .i64 a0_1, .string a0_2, .int .i64 a0_3, .int .i64 a0_4, .int .i64 a0_5, .string a0_6, .int .i64 a0_7, .int .i64 a0_8, .int .i64 a0_9, .string a0_10, .int .i64 a0_11, .int .i64 a0_12, .int .i64 a0_13, .int .i64 a0_14, .int .i64 a0_15] 29 (0, 0))) ∧ (Below w.heap.size w w')) ?_ ?_
    rotate_left
    ·
     intro hCont
     refine two_ (i := 4) (j := 9) (Ni := some 33) (Nj := some 38) (rl [9,2,3,2]) (rl [4,1,5,1,3,2]) rfl rfl rfl rfl (two_of HT_.out (by kernel_rfl)) (by decide) (by decide) (fun K hK => ?_) (fun K hK => ?_)
     ·
      skip
      refine goes_ Try.func67 (by kernel_rfl) rfl #[.slice Ao30 y840.length co30, .int .i64 a0_1] (by rfl) rfl rfl la_ ?_
      with_reducible refine (impl_PutWord.calls _ _ y840 a0_1 t845 _ ?side1 ?side2 A22.out).mono ?_
      (case side1 => exact qC ((Kd.R_reads' HO_3.out).2.2))
      (case side2 => exact (Kd.R_reads' HO_3.out).2.1)
      rintro e w32 ⟨v846, rfl, ho0, hb⟩
      refine ⟨_, rfl, ?_⟩
      have HO847 := am_ (Kd.R_lower (Kd.R_new' ho0 (Kd.R_lt (qR HO_3))) (below_size (qB HB)))
      replace HO_3 := eA_ HO_3 ho0 hb
      replace BK839 := bK_ BK839 hb
      replace HB := bS_ HB hb
      (try clear hb ho0)
      refine hK.out _ _ (cz16 BK839.out) (fun hHeld => ?_)
      clear hK K
      refine norm_ (a' := ?_) ?_ ?_
      rotate_left
      ·
       show Act.put _ (some 33) _ = _
       exact ap_
      refine one_ (i := 9) (N := some 38) (rl [10,1,3,2]) rfl rfl (one_of HT_.out (by kernel_rfl)) (by decide) (fun K hK => ?_)
      refine Kd.R_lit_step (Kd.int .u8) _ 5 ?hg (N := 38) ?hd (xs := ([(a0_3) % 256] : List Int)) (inner := [.int .u8 ((a0_3) % 256)]) (ok := fun _ => True) (okp := fun _ => True) ?hr ?hp (fun _ hk => hk) trivial (Below.refl _ _) (Nat.le_refl _) (by simp) ?_; (case hd => rfl); (case hg => rfl); (case hr => first | (go_simp; done) | (go_simp; rfl)); (case hp => exact (Reps.one (show Kd.M (Kd.int .u8) _ _ _ ((a0_3) % 256) [.int .u8 ((a0_3) % 256)] from rfl) (Reps.none _ _)))
      intro v849 w33 ho34 hb hg_ hnew_
      clear hg_ hnew_
      (first | rw [← Ny848.out] at ho34 | (simp only [Int.reduceToNat] at ho34; rw [← Ny848.out] at ho34))
      have HO850 := am_ (Kd.R_lower (Kd.R_new' (Kd.R_new' ho34 (Kd.R_lt (qR HO_3))) (Kd.R_lt (qR HO847))) (below_size (qB HB)))
      replace HO_3 := eA_ HO_3 ho34 hb
      replace HO847 := eA_ HO847 ho34 hb
      replace BK839 := bK_ BK839 hb
      replace HB := bS_ HB hb
      clear hb ho34
      refine hK.out _ _ (cz16 BK839.out) (fun hHeld => ?_)
      clear hK K
      refine norm_ (a' := ?_) ?_ ?_
      rotate_left
      ·
       show Act.put _ (some 38) _ = _
       exact ap_
      exact norm_ (by simp only [putAll, Act.put, List.setIfInBounds_toArray, List.set_cons_zero, List.set_cons_succ]) (hCont (v846, v849) _ ⟨hHeld, (tR (Kd.R_mono HO847.out (fun _ hk => ⟨hk.2, hk.1.2⟩))), (tR (Kd.R_mono HO850.out (fun _ hk => ⟨hk.2, hk.1.2⟩))), (tR (Kd.R_mono HO_3.out (fun _ hk => ⟨hk.1.2, hk.2⟩))), (qK BK839), (qB HB)⟩)
     ·
      skip
      refine Kd.R_lit_step (Kd.int .u8) _ 5 ?hg (N := 38) ?hd (xs := ([(a0_3) % 256] : List Int)) (inner := [.int .u8 ((a0_3) % 256)]) (ok := fun _ => True) (okp := fun _ => True) ?hr ?hp (fun _ hk => hk) trivial (Below.refl _ _) (Nat.le_refl _) (by simp) ?_; (case hd => rfl); (case hg => rfl); (case hr => first | (go_simp; done) | (go_simp; rfl)); (case hp => exact (Reps.one (show Kd.M (Kd.int .u8) _ _ _ ((a0_3) % 256) [.int .u8 ((a0_3) % 256)] from rfl) (Reps.none _ _)))
      intro v849 w32 ho33 hb hg_ hnew_
      clear hg_ hnew_
      (first | rw [← Ny848.out] at ho33 | (simp only [Int.reduceToNat] at ho33; rw [← Ny848.out] at ho33))
      have HO850 := am_ (Kd.R_lower (Kd.R_new' ho33 (Kd.R_lt (qR HO_3))) (below_size (qB HB)))
      replace HO_3 := eA_ HO_3 ho33 hb
      replace BK839 := bK_ BK839 hb
      replace HB := bS_ HB hb
      clear hb ho33
      refine hK.out _ _ (cz16 BK839.out) (fun hHeld => ?_)
      clear hK K
      refine norm_ (a' := ?_) ?_ ?_
      rotate_left
      ·
       show Act.put _ (some 38) _ = _
       exact ap_
      refine one_ (i := 4) (N := some 33) (rl [10,1,3,2]) rfl rfl (one_of HT_.out (by kernel_rfl)) (by decide) (fun K hK => ?_)
      refine goes_ Try.func67 (by kernel_rfl) rfl #[.slice Ao30 y840.length co30, .int .i64 a0_1] (by rfl) rfl rfl la_ ?_
      with_reducible refine (impl_PutWord.calls _ _ y840 a0_1 t845 _ ?side1 ?side2 A22.out).mono ?_
      (case side1 => exact qC ((Kd.R_reads' HO_3.out).2.2))
      (case side2 => exact (Kd.R_reads' HO_3.out).2.1)
      rintro e w34 ⟨v846, rfl, ho0, hb⟩
      refine ⟨_, rfl, ?_⟩
      have HO847 := am_ (Kd.R_lower (Kd.R_new' (Kd.R_new' ho0 (Kd.R_lt (qR HO_3))) (Kd.R_lt (qR HO850))) (below_size (qB HB)))
      replace HO_3 := eA_ HO_3 ho0 hb
      replace HO850 := eA_ HO850 ho0 hb
      replace BK839 := bK_ BK839 hb
      replace HB := bS_ HB hb
      (try clear hb ho0)
      refine hK.out _ _ (cz16 BK839.out) (fun hHeld => ?_)
      clear hK K
      refine norm_ (a' := ?_) ?_ ?_
      rotate_left
      ·
       show Act.put _ (some 33) _ = _
       exact ap_
      exact norm_ (by simp only [putAll, Act.put, List.setIfInBounds_toArray, List.set_cons_zero, List.set_cons_succ]) (hCont (v846, v849) _ ⟨hHeld, (tR (Kd.R_mono HO847.out (fun _ hk => ⟨hk.2, hk.1.2⟩))), (tR (Kd.R_mono HO850.out (fun _ hk => ⟨hk.2, hk.1.2⟩))), (tR (Kd.R_mono HO_3.out (fun _ hk => ⟨hk.2, hk.1.2⟩))), (qK BK839), (qB HB)⟩)
    rintro ⟨v846, v849⟩ w35 ⟨hS_, h0_, h1_, h2_, h3_, h4_⟩
    have n0_ : Aside0 (Kd.R (Kd.int .u8) 5 w35 w.heap.size (fun k_ => some k_ ≠ (v849 : Value).ownBlock ∧ some k_ ≠ (.slice Ao30 y840.length co30 : Value).ownBlock) v846 t845) := ⟨h0_⟩
    have n1_ : Aside0 (Kd.R (Kd.int .u8) 5 w35 w.heap.size (fun k_ => some k_ ≠ (v846 : Value).ownBlock ∧ some k_ ≠ (.slice Ao30 y840.length co30 : Value).ownBlock) v849 y848) := ⟨h1_⟩
    have n2_ : Aside0 (Kd.R (Kd.int .u8) 5 w35 w.heap.size (fun k_ => some k_ ≠ (v846 : Value).ownBlock ∧ some k_ ≠ (v849 : Value).ownBlock) (.slice Ao30 y840.length co30) y840) := ⟨h2_⟩
    have n3_ : Aside0 (w35.heap[gb839]? = some (.cells #[.int .i64 a0_0, .int .i64 a0_1, .string a0_2, .int .i64 a0_3, .int .i64 a0_4, .int .i64 a0_5, .string a0_6, .int .i64 a0_7, .int .i64 a0_8, .int .i64 a0_9, .string a0_10, .int .i64 a0_11, .int .i64 a0_12, .int .i64 a0_13, .int .i64 a0_14, .int .i64 a0_15] 29 (0, 0))) := ⟨h3_⟩
    have n4_ : Aside0 (Below w.heap.size w w35) := ⟨h4_⟩
    clear HO_3
    clear BK839
    clear HB
    clear h0_ h1_ h2_ h3_ h4_
    have HO847 := n0_
    have HO850 := n1_
    have HO_3 := n2_
    have BK839 := n3_
    have HB := n4_
    clear n0_ n1_ n2_ n3_ n4_
    have hHeld : w35.cell? ⟨gb839, 0, none⟩ = some (.int .i64 a0_0) ∧ w35.cell? ⟨gb839, 1, none⟩ = some (.int .i64 a0_1) ∧ w35.cell? ⟨gb839, 2, none⟩ = some (.string a0_2) ∧ w35.cell? ⟨gb839, 3, none⟩ = some (.int .i64 a0_3) ∧ w35.cell? ⟨gb839, 4, none⟩ = some (.int .i64 a0_4) ∧ w35.cell? ⟨gb839, 5, none⟩ = some (.int .i64 a0_5) ∧ w35.cell? ⟨gb839, 6, none⟩ = some (.string a0_6) ∧ w35.cell? ⟨gb839, 7, none⟩ = some (.int .i64 a0_7) ∧ w35.cell? ⟨gb839, 8, none⟩ = some (.int .i64 a0_8) ∧ w35.cell? ⟨gb839, 9, none⟩ = some (.int .i64 a0_9) ∧ w35.cell? ⟨gb839, 10, none⟩ = some (.string a0_10) ∧ w35.cell? ⟨gb839, 11, none⟩ = some (.int .i64 a0_11) ∧ w35.cell? ⟨gb839, 12, none⟩ = some (.int .i64 a0_12) ∧ w35.cell? ⟨gb839, 13, none⟩ = some (.int .i64 a0_13) ∧ w35.cell? ⟨gb839, 14, none⟩ = some (.int .i64 a0_14) ∧ w35.cell? ⟨gb839, 15, none⟩ = some (.int .i64 a0_15) := hS_
    obtain ⟨Ao37, co37, eo37⟩ := Kd.R_slice HO850.out
    (first | subst eo37 | (injection eo37 with f1_ f2_ f3_; have f4_ := f1_.symm; have f5_ := f3_.symm; clear f1_ f2_ f3_; subst f4_; subst f5_))
    refine norm_ (a' := ?_) ?_ ?_
    rotate_left
    ·
     simp only [putAll, Act.put, List.setIfInBounds_toArray, List.set_cons_zero, List.set_cons_succ]
     rfl
    refine one_ (i := 10) (N := some 39) (rl [14,2]) rfl rfl (one_of HT_.out (by kernel_rfl)) (by decide) (fun K hK => ?_)
    refine Kd.R_append_rows_step (Kd.int .u8) (w0 := w) w.heap.size (by rfl) (.tmp 33) (.tmp 38) 22 5 (.int .u8 0) 1 rfl Try.underlying22 info5 rfl (by decide) (by omega) v846 t845 y848 _ _ _ (fun k_ => some k_ ≠ (.slice Ao30 y840.length co30 : Value).ownBlock ∧ some k_ ≠ (.slice Ao37 y848.length co37 : Value).ownBlock) (fun _ => False) rfl rfl ?aO ?aR (fun _ _ h => h) (fun _ h => h.elim) ?aF ?aB ?aS ?aL ?_
    (case aR => exact qC ((Kd.R_reads' HO850.out).2.2))
    (case aB => exact (qB HB))
    (case aF => exact (fun k_ hk => ⟨Kd.fresh' (Kd.R_lt (qR HO_3)) k_ hk, Kd.fresh' (Kd.R_lt (qR HO850)) k_ hk⟩))
    (case aO => exact (tR (Kd.R_mono HO847.out (fun _ hk => ⟨hk.2, hk.1⟩))))
    (case aS => exact (below_size (qB HB)))
    (case aL => have := LMc23.out; omega)
    intro v852 w36 ho hb hg hat
    rw [← Ny851.out] at ho
    replace HO_3 := am_ (Kd.R_after (ok := (fun k_ => some k_ ≠ (.slice Ao37 y848.length co37 : Value).ownBlock)) (tR (Kd.R_mono HO_3.out (fun _ hk => ⟨hk.2, hk.1⟩))) hg hat)
    replace BK839 := am_ (blk_grown (qK BK839) hg (Kd.R_ne HO847.out BK839.out (by decide)))
    replace HO850 := am_ (Kd.R_after (ok := (fun k_ => some k_ ≠ (.slice Ao30 y840.length co30 : Value).ownBlock)) (tR (Kd.R_mono HO850.out (fun _ hk => ⟨hk.2, hk.1⟩))) hg hat)
    replace HB := am_ (hb)
    have HO853 := am_ (ho)
    clear HO847
    clear ho hb hg hat
    obtain ⟨Ao38, co38, eo38⟩ := Kd.R_slice HO853.out
    (first | subst eo38 | (injection eo38 with f1_ f2_ f3_; have f4_ := f1_.symm; have f5_ := f3_.symm; clear f1_ f2_ f3_; subst f4_; subst f5_))
    refine hK.out _ _ (cz16 BK839.out) (fun hHeld => ?_)
    clear hK K
    refine norm_ (a' := ?_) ?_ ?_
    rotate_left
    ·
     show Act.put _ (some 39) _ = _
     exact ap_
    refine one_ (i := 14) (N := some 43) (rl [15,1]) rfl rfl (one_of HT_.out (by kernel_rfl)) (by decide) (fun K hK => ?_)
    refine goes_ Try.func66 (by kernel_rfl) rfl #[.slice Ao38 y851.length co38, .string a0_2] (by rfl) rfl rfl la_ ?_
    with_reducible refine (impl_PutText.calls kj1 _ _ y851 a0_2 t854 _ ?side1 ?side2 A24.out).mono ?_
    (case side1 => exact qC ((Kd.R_reads' HO853.out).2.2))
    (case side2 => exact (Kd.R_reads' HO853.out).2.1)
    rintro e w39 ⟨v855, rfl, ho0, hb⟩
    refine ⟨_, rfl, ?_⟩
    have HO856 := am_ (Kd.R_lower (Kd.R_new' (Kd.R_new' (Kd.R_new' ho0 (Kd.R_lt (qR HO_3))) (Kd.R_lt (qR HO850))) (Kd.R_lt (qR HO853))) (below_size (qB HB)))
    replace HO_3 := eA_ HO_3 ho0 hb
    replace HO850 := eA_ HO850 ho0 hb
    replace HO853 := eA_ HO853 ho0 hb
    replace BK839 := bK_ BK839 hb
    replace HB := bS_ HB hb
    (try clear hb ho0)
    refine hK.out _ _ (cz16 BK839.out) (fun hHeld => ?_)
    clear hK K
    refine norm_ (a' := ?_) ?_ ?_
    rotate_left
    ·
     show Act.put _ (some 43) _ = _
     exact ap_
    refine pz_ (i := 15) (N := some 3) HT_ (rl [16]) rfl rfl ?_
    refine done_ (done_of HT_.out (by kernel_rfl)) ?_
    try go_wp2
    replace HO_3 := am_ (Kd.R_drew HO_3.out)
    replace HO850 := am_ (Kd.R_drew HO850.out)
    replace HO853 := am_ (Kd.R_drew HO853.out)
    replace HO856 := am_ (Kd.R_drew HO856.out)
    replace BK839 := am_ (blk_drew BK839.out)
    replace HB := am_ (below_drew1 HB.out)
    obtain ⟨Ao41, co41, eo41⟩ := Kd.R_slice HO856.out
    (first | subst eo41 | (injection eo41 with f1_ f2_ f3_; have f4_ := f1_.symm; have f5_ := f3_.symm; clear f1_ f2_ f3_; subst f4_; subst f5_))
    refine start_ (n := 14) (S := fun w' => w'.cell? ⟨gb839, 0, none⟩ = some (.int .i64 a0_0) ∧ w'.cell? ⟨gb839, 1, none⟩ = some (.int .i64 a0_1) ∧ w'.cell? ⟨gb839, 2, none⟩ = some (.string a0_2) ∧ w'.cell? ⟨gb839, 3, none⟩ = some (.int .i64 a0_3) ∧ w'.cell? ⟨gb839, 4, none⟩ = some (.int .i64 a0_4) ∧ w'.cell? ⟨gb839, 5, none⟩ = some (.int .i64 a0_5) ∧ w'.cell? ⟨gb839, 6, none⟩ = some (.string a0_6) ∧ w'.cell? ⟨gb839, 7, none⟩ = some (.int .i64 a0_7) ∧ w'.cell? ⟨gb839, 8, none⟩ = some (.int .i64 a0_8) ∧ w'.cell? ⟨gb839, 9, none⟩ = some (.int .i64 a0_9) ∧ w'.cell? ⟨gb839, 10, none⟩ = some (.string a0_10) ∧ w'.cell? ⟨gb839, 11, none⟩ = some (.int .i64 a0_11) ∧ w'.cell? ⟨gb839, 12, none⟩ = some (.int .i64 a0_12) ∧ w'.cell? ⟨gb839, 13, none⟩ = some (.int .i64 a0_13) ∧ w'.cell? ⟨gb839, 14, none⟩ = some (.int .i64 a0_14) ∧ w'.cell? ⟨gb839, 15, none⟩ = some (.int .i64 a0_15)) (ds := []) (rl [0,14]) (by kernel_rfl) rfl rfl (cz16 BK839.out) (fun hHeld => ?_); refine with_tabW impl_PutItem.tab4 impl_PutItem.bits4 (fun HT_ HW_ => ?_)
    generalize w39.drew = w40 at HO_3 HO850 HO853 HO856 BK839 HB hHeld ⊢
    refine pz_ (i := 0) (N := some 44) HT_ (rl [1,13]) rfl rfl ?_
    refine pz_ (i := 1) (N := some 45) HT_ (rl [2,12]) rfl rfl ?_
    refine pz_ (i := 2) (N := some 46) HT_ (rl [3,11]) rfl rfl ?_
    refine pz_ (i := 5) (N := some 49) HT_ (rl [3,2,1,8]) rfl rfl ?_
    refine pz_ (i := 6) (N := some 50) HT_ (rl [3,2,2,7]) rfl rfl ?_
    refine pz_ (i := 9) (N := some 53) HT_ (rl [3,2,2,2,1,4]) rfl rfl ?_
    refine pz_ (i := 10) (N := some 54) HT_ (rl [3,2,2,2,2,3]) rfl rfl ?_
    refine tz_ (i := 3) (N := some 47) HT_ HW_ (rl [4,1,2,2,2,3]) rfl rfl hHeld ?_
    refine tz_ (i := 7) (N := some 51) HT_ HW_ (rl [4,1,3,1,2,3]) rfl rfl hHeld ?_
    refine tz_ (i := 11) (N := some 55) HT_ HW_ (rl [4,1,3,1,3,2]) rfl rfl hHeld ?_
    refine one_ (i := 4) (N := some 48) (rl [8,1,3,2]) rfl rfl (one_of HT_.out (by kernel_rfl)) (by decide) (fun K hK => ?_)
    refine goes_ Try.func67 (by kernel_rfl) rfl #[.slice Ao41 t854.length co41, .int .i64 a0_4] (by rfl) rfl rfl la_ ?_
    with_reducible refine (impl_PutWord.calls _ _ t854 a0_4 t857 _ ?side1 ?side2 A25.out).mono ?_
    (case side1 => exact qC ((Kd.R_reads' HO856.out).2.2))
    (case side2 => exact (Kd.R_reads' HO856.out).2.1)
    rintro e w42 ⟨v858, rfl, ho0, hb⟩
    refine ⟨_, rfl, ?_⟩
    have HO859 := am_ (Kd.R_lower (Kd.R_new' (Kd.R_new' (Kd.R_new' (Kd.R_new' ho0 (Kd.R_lt (qR HO_3))) (Kd.R_lt (qR HO850))) (Kd.R_lt (qR HO853))) (Kd.R_lt (qR HO856))) (below_size (qB HB)))
    replace HO_3 := eA_ HO_3 ho0 hb
    replace HO850 := eA_ HO850 ho0 hb
    replace HO853 := eA_ HO853 ho0 hb
    replace HO856 := eA_ HO856 ho0 hb
    replace BK839 := bK_ BK839 hb
    replace HB := bS_ HB hb
    (try clear hb ho0)
    obtain ⟨Ao43, co43, eo43⟩ := Kd.R_slice HO859.out
    (first | subst eo43 | (injection eo43 with f1_ f2_ f3_; have f4_ := f1_.symm; have f5_ := f3_.symm; clear f1_ f2_ f3_; subst f4_; subst f5_))
    refine hK.out _ _ (cz16 BK839.out) (fun hHeld => ?_)
    clear hK K
    refine norm_ (a' := ?_) ?_ ?_
    rotate_left
    ·
     show Act.put _ (some 48) _ = _
     exact ap_
    refine one_ (i := 8) (N := some 52) (rl [12,2]) rfl rfl (one_of HT_.out (by kernel_rfl)) (by decide) (fun K hK => ?_)
    refine goes_ Try.func68 (by kernel_rfl) rfl #[.slice Ao43 t857.length co43, .int .i64 a0_5] (by rfl) rfl rfl la_ ?_
    with_reducible refine (impl_putSince.calls _ _ t857 a0_5 t860 _ ?side1 ?side2 A26.out).mono ?_
    (case side1 => exact qC ((Kd.R_reads' HO859.out).2.2))
    (case side2 => exact (Kd.R_reads' HO859.out).2.1)
    rintro e w44 ⟨v861, rfl, ho0, hb⟩
    refine ⟨_, rfl, ?_⟩
    have HO862 := am_ (Kd.R_lower (Kd.R_new' (Kd.R_new' (Kd.R_new' (Kd.R_new' (Kd.R_new' ho0 (Kd.R_lt (qR HO_3))) (Kd.R_lt (qR HO850))) (Kd.R_lt (qR HO853))) (Kd.R_lt (qR HO856))) (Kd.R_lt (qR HO859))) (below_size (qB HB)))
    replace HO_3 := eA_ HO_3 ho0 hb
    replace HO850 := eA_ HO850 ho0 hb
    replace HO853 := eA_ HO853 ho0 hb
    replace HO856 := eA_ HO856 ho0 hb
    replace HO859 := eA_ HO859 ho0 hb
    replace BK839 := bK_ BK839 hb
    replace HB := bS_ HB hb
    (try clear hb ho0)
    obtain ⟨Ao45, co45, eo45⟩ := Kd.R_slice HO862.out
    (first | subst eo45 | (injection eo45 with f1_ f2_ f3_; have f4_ := f1_.symm; have f5_ := f3_.symm; clear f1_ f2_ f3_; subst f4_; subst f5_))
    refine hK.out _ _ (cz16 BK839.out) (fun hHeld => ?_)
    clear hK K
    refine norm_ (a' := ?_) ?_ ?_
    rotate_left
    ·
     show Act.put _ (some 52) _ = _
     exact ap_
    refine one_ (i := 12) (N := some 56) (rl [13,1]) rfl rfl (one_of HT_.out (by kernel_rfl)) (by decide) (fun K hK => ?_)
    refine goes_ Try.func66 (by kernel_rfl) rfl #[.slice Ao45 t860.length co45, .string a0_6] (by rfl) rfl rfl la_ ?_
    with_reducible refine (impl_PutText.calls kj1 _ _ t860 a0_6 t863 _ ?side1 ?side2 A27.out).mono ?_
    (case side1 => exact qC ((Kd.R_reads' HO862.out).2.2))
    (case side2 => exact (Kd.R_reads' HO862.out).2.1)
    rintro e w46 ⟨v864, rfl, ho0, hb⟩
    refine ⟨_, rfl, ?_⟩
    have HO865 := am_ (Kd.R_lower (Kd.R_new' (Kd.R_new' (Kd.R_new' (Kd.R_new' (Kd.R_new' (Kd.R_new' ho0 (Kd.R_lt (qR HO_3))) (Kd.R_lt (qR HO850))) (Kd.R_lt (qR HO853))) (Kd.R_lt (qR HO856))) (Kd.R_lt (qR HO859))) (Kd.R_lt (qR HO862))) (below_size (qB HB)))
    replace HO_3 := eA_ HO_3 ho0 hb
    replace HO850 := eA_ HO850 ho0 hb
    replace HO853 := eA_ HO853 ho0 hb
    replace HO856 := eA_ HO856 ho0 hb
    replace HO859 := eA_ HO859 ho0 hb
    replace HO862 := eA_ HO862 ho0 hb
    replace BK839 := bK_ BK839 hb
    replace HB := bS_ HB hb
    (try clear hb ho0)
    refine hK.out _ _ (cz16 BK839.out) (fun hHeld => ?_)
    clear hK K
    refine norm_ (a' := ?_) ?_ ?_
    rotate_left
    ·
     show Act.put _ (some 56) _ = _
     exact ap_
    refine pz_ (i := 13) (N := some 3) HT_ (rl [14]) rfl rfl ?_
    refine done_ (done_of HT_.out (by kernel_rfl)) ?_
    try go_wp2
    replace HO_3 := am_ (Kd.R_drew HO_3.out)
    replace HO850 := am_ (Kd.R_drew HO850.out)
    replace HO853 := am_ (Kd.R_drew HO853.out)
    replace HO856 := am_ (Kd.R_drew HO856.out)
    replace HO859 := am_ (Kd.R_drew HO859.out)
    replace HO862 := am_ (Kd.R_drew HO862.out)
    replace HO865 := am_ (Kd.R_drew HO865.out)
    replace BK839 := am_ (blk_drew BK839.out)
    replace HB := am_ (below_drew1 HB.out)
    obtain ⟨Ao48, co48, eo48⟩ := Kd.R_slice HO865.out
    (first | subst eo48 | (injection eo48 with f1_ f2_ f3_; have f4_ := f1_.symm; have f5_ := f3_.symm; clear f1_ f2_ f3_; subst f4_; subst f5_))
    refine start_ (n := 10) (S := fun w' => w'.cell? ⟨gb839, 0, none⟩ = some (.int .i64 a0_0) ∧ w'.cell? ⟨gb839, 1, none⟩ = some (.int .i64 a0_1) ∧ w'.cell? ⟨gb839, 2, none⟩ = some (.string a0_2) ∧ w'.cell? ⟨gb839, 3, none⟩ = some (.int .i64 a0_3) ∧ w'.cell? ⟨gb839, 4, none⟩ = some (.int .i64 a0_4) ∧ w'.cell? ⟨gb839, 5, none⟩ = some (.int .i64 a0_5) ∧ w'.cell? ⟨gb839, 6, none⟩ = some (.string a0_6) ∧ w'.cell? ⟨gb839, 7, none⟩ = some (.int .i64 a0_7) ∧ w'.cell? ⟨gb839, 8, none⟩ = some (.int .i64 a0_8) ∧ w'.cell? ⟨gb839, 9, none⟩ = some (.int .i64 a0_9) ∧ w'.cell? ⟨gb839, 10, none⟩ = some (.string a0_10) ∧ w'.cell? ⟨gb839, 11, none⟩ = some (.int .i64 a0_11) ∧ w'.cell? ⟨gb839, 12, none⟩ = some (.int .i64 a0_12) ∧ w'.cell? ⟨gb839, 13, none⟩ = some (.int .i64 a0_13) ∧ w'.cell? ⟨gb839, 14, none⟩ = some (.int .i64 a0_14) ∧ w'.cell? ⟨gb839, 15, none⟩ = some (.int .i64 a0_15)) (ds := []) #[oo,oo,oo,oo,oo,oo,oo,oo,oo,oo] (by kernel_rfl) rfl rfl (cz16 BK839.out) (fun hHeld => ?_); refine with_tabW impl_PutItem.tab5 impl_PutItem.bits5 (fun HT_ HW_ => ?_)
    generalize w46.drew = w47 at HO_3 HO850 HO853 HO856 HO859 HO862 HO865 BK839 HB hHeld ⊢
    refine pz_ (i := 0) (N := some 57) HT_ #[ii,oo,oo,oo,oo,oo,oo,oo,oo,oo] rfl rfl ?_
    refine pz_ (i := 1) (N := some 58) HT_ #[ii,ii,oo,oo,oo,oo,oo,oo,oo,oo] rfl rfl ?_
    refine pz_ (i := 2) (N := some 59) HT_ #[ii,ii,ii,oo,oo,oo,oo,oo,oo,oo] rfl rfl ?_
    refine pz_ (i := 5) (N := some 62) HT_ #[ii,ii,ii,oo,oo,ii,oo,oo,oo,oo] rfl rfl ?_
    refine pz_ (i := 6) (N := some 63) HT_ #[ii,ii,ii,oo,oo,ii,ii,oo,oo,oo] rfl rfl ?_
    refine tz_ (i := 3) (N := some 60) HT_ HW_ #[ii,ii,ii,ii,oo,ii,ii,oo,oo,oo] rfl rfl hHeld ?_
    refine tz_ (i := 7) (N := some 64) HT_ HW_ #[ii,ii,ii,ii,oo,ii,ii,ii,oo,oo] rfl rfl hHeld ?_
    refine one_ (i := 4) (N := some 61) #[ii,ii,ii,ii,ii,ii,ii,ii,oo,oo] rfl rfl (one_of HT_.out (by kernel_rfl)) (by decide) (fun K hK => ?_)
    refine goes_ Try.func67 (by kernel_rfl) rfl #[.slice Ao48 t863.length co48, .int .i64 a0_7] (by rfl) rfl rfl la_ ?_
    with_reducible refine (impl_PutWord.calls _ _ t863 a0_7 t866 _ ?side1 ?side2 A28.out).mono ?_
    (case side1 => exact qC ((Kd.R_reads' HO865.out).2.2))
    (case side2 => exact (Kd.R_reads' HO865.out).2.1)
    rintro e w49 ⟨v867, rfl, ho0, hb⟩
    refine ⟨_, rfl, ?_⟩
    have HO868 := am_ (Kd.R_lower (Kd.R_new' (Kd.R_new' (Kd.R_new' (Kd.R_new' (Kd.R_new' (Kd.R_new' (Kd.R_new' ho0 (Kd.R_lt (qR HO_3))) (Kd.R_lt (qR HO850))) (Kd.R_lt (qR HO853))) (Kd.R_lt (qR HO856))) (Kd.R_lt (qR HO859))) (Kd.R_lt (qR HO862))) (Kd.R_lt (qR HO865))) (below_size (qB HB)))
    replace HO_3 := eA_ HO_3 ho0 hb
    replace HO850 := eA_ HO850 ho0 hb
    replace HO853 := eA_ HO853 ho0 hb
    replace HO856 := eA_ HO856 ho0 hb
    replace HO859 := eA_ HO859 ho0 hb
    replace HO862 := eA_ HO862 ho0 hb
    replace HO865 := eA_ HO865 ho0 hb
    replace BK839 := bK_ BK839 hb
    replace HB := bS_ HB hb
    (try clear hb ho0)
    obtain ⟨Ao50, co50, eo50⟩ := Kd.R_slice HO868.out
    (first | subst eo50 | (injection eo50 with f1_ f2_ f3_; have f4_ := f1_.symm; have f5_ := f3_.symm; clear f1_ f2_ f3_; subst f4_; subst f5_))
    refine hK.out _ _ (cz16 BK839.out) (fun hHeld => ?_)
    clear hK K
    refine norm_ (a' := ?_) ?_ ?_
    rotate_left
    ·
     show Act.put _ (some 61) _ = _
     exact ap_
    refine one_ (i := 8) (N := some 65) #[ii,ii,ii,ii,ii,ii,ii,ii,ii,oo] rfl rfl (one_of HT_.out (by kernel_rfl)) (by decide) (fun K hK => ?_)
    refine goes_ Try.func67 (by kernel_rfl) rfl #[.slice Ao50 t866.length co50, .int .i64 a0_8] (by rfl) rfl rfl la_ ?_
    with_reducible refine (impl_PutWord.calls _ _ t866 a0_8 t869 _ ?side1 ?side2 A29.out).mono ?_
    (case side1 => exact qC ((Kd.R_reads' HO868.out).2.2))
    (case side2 => exact (Kd.R_reads' HO868.out).2.1)
    rintro e w51 ⟨v870, rfl, ho0, hb⟩
    refine ⟨_, rfl, ?_⟩
    have HO871 := am_ (Kd.R_lower (Kd.R_new' (Kd.R_new' (Kd.R_new' (Kd.R_new' (Kd.R_new' (Kd.R_new' (Kd.R_new' (Kd.R_new' ho0 (Kd.R_lt (qR HO_3))) (Kd.R_lt (qR HO850))) (Kd.R_lt (qR HO853))) (Kd.R_lt (qR HO856))) (Kd.R_lt (qR HO859))) (Kd.R_lt (qR HO862))) (Kd.R_lt (qR HO865))) (Kd.R_lt (qR HO868))) (below_size (qB HB)))
    replace HO_3 := eA_ HO_3 ho0 hb
    replace HO850 := eA_ HO850 ho0 hb
    replace HO853 := eA_ HO853 ho0 hb
    replace HO856 := eA_ HO856 ho0 hb
    replace HO859 := eA_ HO859 ho0 hb
    replace HO862 := eA_ HO862 ho0 hb
    replace HO865 := eA_ HO865 ho0 hb
    replace HO868 := eA_ HO868 ho0 hb
    replace BK839 := bK_ BK839 hb
    replace HB := bS_ HB hb
    (try clear hb ho0)
    refine hK.out _ _ (cz16 BK839.out) (fun hHeld => ?_)
    clear hK K
    refine norm_ (a' := ?_) ?_ ?_
    rotate_left
    ·
     show Act.put _ (some 65) _ = _
     exact ap_
    refine pz_ (i := 9) (N := some 2) HT_ #[ii,ii,ii,ii,ii,ii,ii,ii,ii,ii] rfl rfl ?_
    refine done_ (done_of HT_.out (by kernel_rfl)) ?_
    try go_wp2
    go_ret
    exact ⟨_, er_, by (with_reducible repeat (first | apply Kd.R_alloc | apply Kd.R_drewN | apply Kd.R_drew)); exact Kd.R_mono HO871.out (fun _ hk => trivial), qB HB⟩
   replace c21 := Bool.eq_false_iff.mpr c21
   subst c21
   rw [if_neg (show ¬ (false = true) by decide)] at H
   have HC52 := Aside0.mk H
   clear H
   go_upto_region 6 with (fail)
   go_cut [66] (fun v66 wc => ∃ (kq : Nat) (x66_51 : Bool), v66 = .bool x66_51 ∧ Aside0 (impl_PutItem.j1 kq y840 x66_51 a0_0 a0_1 a0_2 a0_3 a0_4 a0_5 a0_6 a0_7 a0_8 a0_9 a0_10 a0_11 a0_12 a0_13 a0_14 a0_15 = some r) ∧ Aside0 (kq ≤ kj1) ∧ Aside0 (Kd.R (Kd.int .u8) 5 wc w.heap.size (fun _ => True) v841 y840) ∧ Aside0 (wc.heap[gb839]? = some (.cells #[.int .i64 a0_0, .int .i64 a0_1, .string a0_2, .int .i64 a0_3, .int .i64 a0_4, .int .i64 a0_5, .string a0_6, .int .i64 a0_7, .int .i64 a0_8, .int .i64 a0_9, .string a0_10, .int .i64 a0_11, .int .i64 a0_12, .int .i64 a0_13, .int .i64 a0_14, .int .i64 a0_15] 29 (0, 0))) ∧ Aside0 (Below w.heap.size w wc))
   case first =>
    have H := HC52.out
    clear HC52
    by_cases c53 : a0_0 = 2
    rotate_left
    ·
     rw [if_neg c53] at H
     have c53b0 : (a0_0 == 2) = false := beq_eq_false_iff_ne.mpr c53
     have c53b1 : (a0_0 != 2) = true := bne_iff_ne.mpr c53
     (first | rw [c53b0] | rw [c53b1] | (simp only [i64_w, i32_w]; rw [c53b0]) | skip)
     have H' := Aside0.mk H
     clear H
     (try clear zK839)
     have zK839 := cz16 BK839.out
     (try clear fK839)
     have fK839 := fz16 BK839.out
     go_wp2
     go_meet
     case rel => exact ⟨_, (false), eqq_, H', ⟨by have := HJ1.out; first | omega | exact Nat.le_refl _⟩, ⟨qR HO_3⟩, ⟨qK BK839⟩, ⟨qB HB⟩⟩
    rw [if_pos c53] at H
    have c53b0 : (a0_0 == 2) = true := beq_iff_eq.mpr c53
    have c53b1 : (a0_0 != 2) = false := bne_eq_false_iff_eq.mpr c53
    clear c53
    (first | rw [c53b0] | rw [c53b1] | (simp only [i64_w, i32_w]; rw [c53b0]) | skip)
    replace H := bd_ H
    obtain ⟨t872, A54, H⟩ := H
    by_cases c55 : t872 = true
    rotate_left
    ·
     replace c55 := Bool.eq_false_iff.mpr c55
     subst c55
     rw [if_neg (show ¬ (false = true) by decide)] at H
     have H' := Aside0.mk H
     clear H
     (try clear zK839)
     have zK839 := cz16 BK839.out
     (try clear fK839)
     have fK839 := fz16 BK839.out
     go_wp2_with (first | (go_at_call 18; (with_reducible refine (impl_LineOk.calls kj1 a0_9 a0_10 a0_11 a0_12 a0_13 a0_14 a0_15 false _ A54.out).mono ?_); rintro e w65 ⟨rfl, hb⟩; replace HO_3 := rB_ HO_3 hb; replace BK839 := bK_ BK839 hb; replace HB := bS_ HB hb; (try clear hb)))
     go_meet
     case rel => exact ⟨_, (false), eqq_, H', ⟨by have := HJ1.out; first | omega | exact Nat.le_refl _⟩, ⟨qR HO_3⟩, ⟨qK BK839⟩, ⟨qB HB⟩⟩
    subst c55
    rw [if_pos rfl] at H
    by_cases c56 : (a0_1 == 0 && (a0_2.toList == ([] : List UInt8) && (a0_3 == 0 && (a0_4 == 0 && (a0_5 == 0 && (a0_6.toList == ([] : List UInt8) && (a0_7 == 0 && (a0_8 == 0)))))))) = true
    ·
     rw [if_pos c56] at H
     have c56b0 : (a0_1 == 0 && (a0_2.toList == ([] : List UInt8) && (a0_3 == 0 && (a0_4 == 0 && (a0_5 == 0 && (a0_6.toList == ([] : List UInt8) && (a0_7 == 0 && (a0_8 == 0)))))))) = true := c56
     (try (have c56b0e := c56b0; simp only [beq_nil, bne_nil] at c56b0e))
     (try (have c56b1 : decide (a0_1 = 0 && (a0_2.toList == ([] : List UInt8) && (a0_3 == 0 && (a0_4 == 0 && (a0_5 == 0 && (a0_6.toList == ([] : List UInt8) && (a0_7 == 0 && (a0_8 == 0)))))))) = true := by simpa using c56))
     (try (have c56b1e := c56b1; simp only [beq_nil, bne_nil] at c56b1e))
     (try (have c56b2 : (a0_1 == 0 && (a0_2.toList == ([] : List UInt8) && (a0_3 == 0 && (a0_4 == 0 && (a0_5 == 0 && (a0_6.toList == ([] : List UInt8) && (a0_7 == 0 && (a0_8 == 0)))))))) = true := by simpa using c56))
     (try (have c56b2e := c56b2; simp only [beq_nil, bne_nil] at c56b2e))
     clear c56
     replace H := bd_ H
     obtain ⟨t873, A57, H⟩ := H
     have H' := Aside0.mk H
     clear H
     (try clear zK839)
     have zK839 := cz16 BK839.out
     (try clear fK839)
     have fK839 := fz16 BK839.out
     go_wp2_with (first | (go_at_call 18; (with_reducible refine (impl_LineOk.calls kj1 a0_9 a0_10 a0_11 a0_12 a0_13 a0_14 a0_15 true _ A54.out).mono ?_); rintro e w59 ⟨rfl, hb⟩; replace HO_3 := rB_ HO_3 hb; replace BK839 := bK_ BK839 hb; replace HB := bS_ HB hb; (try clear hb); (try clear zK839); have zK839 := cz16 BK839.out; (try clear fK839); have fK839 := fz16 BK839.out) | (go_at_call 65; (with_reducible refine (impl_wordOk.calls a0_15 t873 _ A57.out).mono ?_); rintro e w' ⟨rfl, ⟨nd, rfl⟩⟩))
     go_meet
     case rel => exact ⟨_, (t873), eqq_, H', ⟨by have := HJ1.out; first | omega | exact Nat.le_refl _⟩, ⟨qR HO_3⟩, ⟨qK BK839⟩, ⟨qB HB⟩⟩
    rw [if_neg c56] at H
    have c56b0 : (a0_1 == 0 && (a0_2.toList == ([] : List UInt8) && (a0_3 == 0 && (a0_4 == 0 && (a0_5 == 0 && (a0_6.toList == ([] : List UInt8) && (a0_7 == 0 && (a0_8 == 0)))))))) = false := by simpa using c56
    (try (have c56b0e := c56b0; simp only [beq_nil, bne_nil] at c56b0e))
    (try (have c56b1 : decide (a0_1 = 0 && (a0_2.toList == ([] : List UInt8) && (a0_3 == 0 && (a0_4 == 0 && (a0_5 == 0 && (a0_6.toList == ([] : List UInt8) && (a0_7 == 0 && (a0_8 == 0)))))))) = false := by simpa using c56))
    (try (have c56b1e := c56b1; simp only [beq_nil, bne_nil] at c56b1e))
    (try (have c56b2 : (a0_1 == 0 && (a0_2.toList == ([] : List UInt8) && (a0_3 == 0 && (a0_4 == 0 && (a0_5 == 0 && (a0_6.toList == ([] : List UInt8) && (a0_7 == 0 && (a0_8 == 0)))))))) = false := by simpa using c56))
    (try (have c56b2e := c56b2; simp only [beq_nil, bne_nil] at c56b2e))
    (try (have c56b3 : ¬ (a0_1 = 0 && (a0_2.toList == ([] : List UInt8) && (a0_3 == 0 && (a0_4 == 0 && (a0_5 == 0 && (a0_6.toList == ([] : List UInt8) && (a0_7 == 0 && (a0_8 == 0)))))))) := by simpa using c56))
    (try (have c56b3e := c56b3; simp only [beq_nil, bne_nil] at c56b3e))
    clear c56
    have H' := Aside0.mk H
    clear H
    (try clear zK839)
    have zK839 := cz16 BK839.out
    (try clear fK839)
    have fK839 := fz16 BK839.out
    go_wp2_with (first | (go_at_call 18; (with_reducible refine (impl_LineOk.calls kj1 a0_9 a0_10 a0_11 a0_12 a0_13 a0_14 a0_15 true _ A54.out).mono ?_); rintro e w62 ⟨rfl, hb⟩; replace HO_3 := rB_ HO_3 hb; replace BK839 := bK_ BK839 hb; replace HB := bS_ HB hb; (try clear hb); (try clear zK839); have zK839 := cz16 BK839.out; (try clear fK839); have fK839 := fz16 BK839.out))
    go_meet
    case rel => exact ⟨_, (false), eqq_, H', ⟨by have := HJ1.out; first | omega | exact Nat.le_refl _⟩, ⟨qR HO_3⟩, ⟨qK BK839⟩, ⟨qB HB⟩⟩
   case rest =>
    clear HC52
    try clear c2
    try clear p2
    try clear c5
    try clear c6
    try clear c21
    try clear c23
    try clear c53
    try clear c53b0
    try clear c53b1
    try clear c55
    try clear c56
    try clear c56b0
    try clear c56b1
    try clear c56b2
    try clear c66
    (try clear zK839)
    (try clear zK839)
    (try clear zK839)
    (try clear zK839)
    (try clear zK839)
    (try clear zK839)
    (try clear fK839)
    (try clear fK839)
    (try clear fK839)
    (try clear fK839)
    (try clear fK839)
    (try clear fK839)
    obtain ⟨kq, x66_51, rfl, HA, HJ51, HO_3, BK839, HB⟩ := hcut
    cases kq with
    | zero => exact absurd HA.out (by simp [impl_PutItem.j1])
    | succ kj51 =>
     have H := HA.out
     clear HA
     simp only [impl_PutItem.j1] at H
     by_cases c67 : x66_51 = true
     rotate_left
     ·
      replace c67 := Bool.eq_false_iff.mpr c67
      subst c67
      rw [if_neg (show ¬ (false = true) by decide)] at H
      obtain ⟨y898, hy898⟩ : ∃ y_ : List Int, y_ = (([] : List Int)) := ⟨_, rfl⟩
      rw [← hy898] at H
      have Ny898 := Aside0.mk hy898
      clear hy898
      obtain rfl := Option.some.inj H
      go_wp2_with (first | ((with_reducible refine gate_dst (N := 120) rfl ?_); refine Kd.R_lit (Kd.int .u8) _ 5 ?hg (N := 120) ?hd (xs := ([] : List Int)) (inner := []) (ok := fun _ => True) (okp := fun _ => True) ?hr ?hp (fun _ hk => hk) trivial (Below.refl _ _) (Nat.le_refl _) (by simp) ?_; (case hd => rfl); (case hg => rfl); (case hr => first | (go_simp; done) | (go_simp; rfl)); (case hp => exact (Reps.none _ _)); intro v899 w95 ho96 hb hg_ hnew_; clear hg_ hnew_; (first | rw [← Ny898.out] at ho96 | (simp only [Int.reduceToNat] at ho96; rw [← Ny898.out] at ho96)); have HO900 := am_ (Kd.R_lower (Kd.R_new' ho96 (Kd.R_lt (qR HO_3))) (below_size (qB HB))); replace HO_3 := eA_ HO_3 ho96 hb; replace BK839 := bK_ BK839 hb; replace HB := bS_ HB hb; clear hb ho96))
      go_ret
      exact ⟨_, er_, by (with_reducible repeat (first | apply Kd.R_alloc | apply Kd.R_drewN | apply Kd.R_drew)); exact Kd.R_mono HO900.out (fun _ hk => trivial), qB HB⟩
     subst c67
     rw [if_pos rfl] at H
     replace H := bd_ H
     obtain ⟨t874, A68, H⟩ := H
     obtain ⟨y877, hy877⟩ : ∃ y_ : List Int, y_ = (([(a0_12) % 256] : List Int)) := ⟨_, rfl⟩
     replace H := mk_ H hy877
     (try dsimp only at H)
     have Ny877 := Aside0.mk hy877
     clear hy877
     by_cases c69 : t874.length + y877.length < 140737488355328
     case neg => exact nn_ c69 H
     rw [if_pos c69] at H
     have LMc69 := Aside0.mk c69
     clear c69
     obtain ⟨y880, hy880⟩ : ∃ y_ : List Int, y_ = (t874 ++ y877) := ⟨_, rfl⟩
     replace H : ((impl_PutText.f kj51 y880 a0_10).bind fun t883 => ((impl_PutWord.f t883 a0_11).bind fun t886 => ((impl_putSince.f t886 a0_13).bind fun t889 => ((impl_PutWord.f t889 a0_14).bind fun t892 => ((impl_PutWord.f t892 a0_15).bind fun t895 => (some t895)))))) = some r := by first | (rw [hy880]; with_reducible exact H) | (have H2_ := (Option.bind_some _ _).symm.trans H; rw [hy880]; with_reducible exact H2_) | (have H2_ := (Option.bind_some _ _).symm.trans H; with_reducible exact H2_) | with_reducible exact H | (rw [hy880]; exact H) | exact H
     have Ny880 := Aside0.mk hy880
     clear hy880
     replace H := bd_ H
     obtain ⟨t883, A70, H⟩ := H
     replace H := bd_ H
     obtain ⟨t886, A71, H⟩ := H
     replace H := bd_ H
     obtain ⟨t889, A72, H⟩ := H
     replace H := bd_ H
     obtain ⟨t892, A73, H⟩ := H
     replace H := bd_ H
     obtain ⟨t895, A74, H⟩ := H
     obtain rfl := Option.some.inj H
     obtain ⟨Ao75, co75, eo75⟩ := Kd.R_slice HO_3.out
     subst eo75
     try go_wp2
     replace HO_3 := am_ (Kd.R_drew HO_3.out)
     replace BK839 := am_ (blk_drew BK839.out)
     replace HB := am_ (below_drew1 HB.out)
     refine start_ (n := 16) (S := fun w' => w'.cell? ⟨gb839, 0, none⟩ = some (.int .i64 a0_0) ∧ w'.cell? ⟨gb839, 1, none⟩ = some (.int .i64 a0_1) ∧ w'.cell? ⟨gb839, 2, none⟩ = some (.string a0_2) ∧ w'.cell? ⟨gb839, 3, none⟩ = some (.int .i64 a0_3) ∧ w'.cell? ⟨gb839, 4, none⟩ = some (.int .i64 a0_4) ∧ w'.cell? ⟨gb839, 5, none⟩ = some (.int .i64 a0_5) ∧ w'.cell? ⟨gb839, 6, none⟩ = some (.string a0_6) ∧ w'.cell? ⟨gb839, 7, none⟩ = some (.int .i64 a0_7) ∧ w'.cell? ⟨gb839, 8, none⟩ = some (.int .i64 a0_8) ∧ w'.cell? ⟨gb839, 9, none⟩ = some (.int .i64 a0_9) ∧ w'.cell? ⟨gb839, 10, none⟩ = some (.string a0_10) ∧ w'.cell? ⟨gb839, 11, none⟩ = some (.int .i64 a0_11) ∧ w'.cell? ⟨gb839, 12, none⟩ = some (.int .i64 a0_12) ∧ w'.cell? ⟨gb839, 13, none⟩ = some (.int .i64 a0_13) ∧ w'.cell? ⟨gb839, 14, none⟩ = some (.int .i64 a0_14) ∧ w'.cell? ⟨gb839, 15, none⟩ = some (.int .i64 a0_15)) (ds := []) (rl [0,16]) (by kernel_rfl) rfl rfl (cz16 BK839.out) (fun hHeld => ?_); refine with_tabW impl_PutItem.tab7 impl_PutItem.bits7 (fun HT_ HW_ => ?_)
     generalize wc.drew = w76 at HO_3 BK839 HB hHeld ⊢
     refine pz_ (i := 0) (N := some 87) HT_ (rl [1,15]) rfl rfl ?_
     refine pz_ (i := 1) (N := some 88) HT_ (rl [2,14]) rfl rfl ?_
     refine pz_ (i := 2) (N := some 89) HT_ (rl [3,13]) rfl rfl ?_
     refine pz_ (i := 5) (N := some 92) HT_ (rl [3,2,1,10]) rfl rfl ?_
     refine pz_ (i := 6) (N := some 93) HT_ (rl [3,2,2,9]) rfl rfl ?_
     refine pz_ (i := 11) (N := some 98) HT_ (rl [3,2,2,4,1,4]) rfl rfl ?_
     refine pz_ (i := 12) (N := some 99) HT_ (rl [3,2,2,4,2,3]) rfl rfl ?_
     refine tz_ (i := 3) (N := some 90) HT_ HW_ (rl [4,1,2,4,2,3]) rfl rfl hHeld ?_
     refine tz_ (i := 7) (N := some 94) HT_ HW_ (rl [4,1,3,3,2,3]) rfl rfl hHeld ?_
     refine pz_ (i := 8) (N := some 95) HT_ (rl [4,1,4,2,2,3]) rfl rfl ?_
     refine tz_ (i := 13) (N := some 100) HT_ HW_ (rl [4,1,4,2,3,2]) rfl rfl hHeld ?_
     refine join_ (σ := Value × Value) 3 (rl [10,1,3,2]) (fun s_ => [(91, s_.1), (96, s_.2)]) (fun s_ w' => (w'.cell? ⟨gb839, 0, none⟩ = some (.int .i64 a0_0) ∧ w'.cell? ⟨gb839, 1, none⟩ = some (.int .i64 a0_1) ∧ w'.cell? ⟨gb839, 2, none⟩ = some (.string a0_2) ∧ w'.cell? ⟨gb839, 3, none⟩ = some (.int .i64 a0_3) ∧ w'.cell? ⟨gb839, 4, none⟩ = some (.int .i64 a0_4) ∧ w'.cell? ⟨gb839, 5, none⟩ = some (.int .i64 a0_5) ∧ w'.cell? ⟨gb839, 6, none⟩ = some (.string a0_6) ∧ w'.cell? ⟨gb839, 7, none⟩ = some (.int .i64 a0_7) ∧ w'.cell? ⟨gb839, 8, none⟩ = some (.int .i64 a0_8) ∧ w'.cell? ⟨gb839, 9, none⟩ = some (.int .i64 a0_9) ∧ w'.cell? ⟨gb839, 10, none⟩ = some (.string a0_10) ∧ w'.cell? ⟨gb839, 11, none⟩ = some (.int .i64 a0_11) ∧ w'.cell? ⟨gb839, 12, none⟩ = some (.int .i64 a0_12) ∧ w'.cell? ⟨gb839, 13, none⟩ = some (.int .i64 a0_13) ∧ w'.cell? ⟨gb839, 14, none⟩ = some (.int .i64 a0_14) ∧ w'.cell? ⟨gb839, 15, none⟩ = some (.int .i64 a0_15)) ∧ (Kd.R (Kd.int .u8) 5 w' w.heap.size (fun k_ => some k_ ≠ (s_.2 : Value).ownBlock ∧ some k_ ≠ (.slice Ao75 y840.length co75 : Value).ownBlock) s_.1 t874) ∧ (Kd.R (Kd.int .u8) 5 w' w.heap.size (fun k_ => some k_ ≠ (s_.1 : Value).ownBlock ∧ some k_ ≠ (.slice Ao75 y840.length co75 : Value).ownBlock) s_.2 y877) ∧ (Kd.R (Kd.int .u8) 5 w' w.heap.size (fun k_ => some k_ ≠ (s_.1 : Value).ownBlock ∧ some k_ ≠ (s_.2 : Value).ownBlock) (.slice Ao75 y840.length co75) y840) ∧ (w'.heap[gb839]? = some (.cells #[.int .i64 a0_0, .int .i64 a0_1, .string a0_2, .int .i64 a0_3, .int .i64 a0_4, .int .i64 a0_5, .string a0_6, .int .i64 a0_7, .int .i64 a0_8, .int .i64 a0_9, .string a0_10, .int .i64 a0_11, .int .i64 a0_12, .int .i64 a0_13, .int .i64 a0_14, .int .i64 a0_15] 29 (0, 0))) ∧ (Below w.heap.size w w')) ?_ ?_
     rotate_left
     ·
      intro hCont
      refine two_ (i := 4) (j := 9) (Ni := some 91) (Nj := some 96) (rl [9,2,3,2]) (rl [4,1,5,1,3,2]) rfl rfl rfl rfl (two_of HT_.out (by kernel_rfl)) (by decide) (by decide) (fun K hK => ?_) (fun K hK => ?_)
      ·
       skip
       refine goes_ Try.func67 (by kernel_rfl) rfl #[.slice Ao75 y840.length co75, .int .i64 a0_9] (by rfl) rfl rfl la_ ?_
       with_reducible refine (impl_PutWord.calls _ _ y840 a0_9 t874 _ ?side1 ?side2 A68.out).mono ?_
       (case side1 => exact qC ((Kd.R_reads' HO_3.out).2.2))
       (case side2 => exact (Kd.R_reads' HO_3.out).2.1)
       rintro e w77 ⟨v875, rfl, ho0, hb⟩
       refine ⟨_, rfl, ?_⟩
       have HO876 := am_ (Kd.R_lower (Kd.R_new' ho0 (Kd.R_lt (qR HO_3))) (below_size (qB HB)))
       replace HO_3 := eA_ HO_3 ho0 hb
       replace BK839 := bK_ BK839 hb
       replace HB := bS_ HB hb
       (try clear hb ho0)
       refine hK.out _ _ (cz16 BK839.out) (fun hHeld => ?_)
       clear hK K
       refine norm_ (a' := ?_) ?_ ?_
       rotate_left
       ·
        show Act.put _ (some 91) _ = _
        exact ap_
       refine one_ (i := 9) (N := some 96) (rl [10,1,3,2]) rfl rfl (one_of HT_.out (by kernel_rfl)) (by decide) (fun K hK => ?_)
       refine Kd.R_lit_step (Kd.int .u8) _ 5 ?hg (N := 96) ?hd (xs := ([(a0_12) % 256] : List Int)) (inner := [.int .u8 ((a0_12) % 256)]) (ok := fun _ => True) (okp := fun _ => True) ?hr ?hp (fun _ hk => hk) trivial (Below.refl _ _) (Nat.le_refl _) (by simp) ?_; (case hd => rfl); (case hg => rfl); (case hr => first | (go_simp; done) | (go_simp; rfl)); (case hp => exact (Reps.one (show Kd.M (Kd.int .u8) _ _ _ ((a0_12) % 256) [.int .u8 ((a0_12) % 256)] from rfl) (Reps.none _ _)))
       intro v878 w78 ho79 hb hg_ hnew_
       clear hg_ hnew_
       (first | rw [← Ny877.out] at ho79 | (simp only [Int.reduceToNat] at ho79; rw [← Ny877.out] at ho79))
       have HO879 := am_ (Kd.R_lower (Kd.R_new' (Kd.R_new' ho79 (Kd.R_lt (qR HO_3))) (Kd.R_lt (qR HO876))) (below_size (qB HB)))
       replace HO_3 := eA_ HO_3 ho79 hb
       replace HO876 := eA_ HO876 ho79 hb
       replace BK839 := bK_ BK839 hb
       replace HB := bS_ HB hb
       clear hb ho79
       refine hK.out _ _ (cz16 BK839.out) (fun hHeld => ?_)
       clear hK K
       refine norm_ (a' := ?_) ?_ ?_
       rotate_left
       ·
        show Act.put _ (some 96) _ = _
        exact ap_
       exact norm_ (by simp only [putAll, Act.put, List.setIfInBounds_toArray, List.set_cons_zero, List.set_cons_succ]) (hCont (v875, v878) _ ⟨hHeld, (tR (Kd.R_mono HO876.out (fun _ hk => ⟨hk.2, hk.1.2⟩))), (tR (Kd.R_mono HO879.out (fun _ hk => ⟨hk.2, hk.1.2⟩))), (tR (Kd.R_mono HO_3.out (fun _ hk => ⟨hk.1.2, hk.2⟩))), (qK BK839), (qB HB)⟩)
      ·
       skip
       refine Kd.R_lit_step (Kd.int .u8) _ 5 ?hg (N := 96) ?hd (xs := ([(a0_12) % 256] : List Int)) (inner := [.int .u8 ((a0_12) % 256)]) (ok := fun _ => True) (okp := fun _ => True) ?hr ?hp (fun _ hk => hk) trivial (Below.refl _ _) (Nat.le_refl _) (by simp) ?_; (case hd => rfl); (case hg => rfl); (case hr => first | (go_simp; done) | (go_simp; rfl)); (case hp => exact (Reps.one (show Kd.M (Kd.int .u8) _ _ _ ((a0_12) % 256) [.int .u8 ((a0_12) % 256)] from rfl) (Reps.none _ _)))
       intro v878 w77 ho78 hb hg_ hnew_
       clear hg_ hnew_
       (first | rw [← Ny877.out] at ho78 | (simp only [Int.reduceToNat] at ho78; rw [← Ny877.out] at ho78))
       have HO879 := am_ (Kd.R_lower (Kd.R_new' ho78 (Kd.R_lt (qR HO_3))) (below_size (qB HB)))
       replace HO_3 := eA_ HO_3 ho78 hb
       replace BK839 := bK_ BK839 hb
       replace HB := bS_ HB hb
       clear hb ho78
       refine hK.out _ _ (cz16 BK839.out) (fun hHeld => ?_)
       clear hK K
       refine norm_ (a' := ?_) ?_ ?_
       rotate_left
       ·
        show Act.put _ (some 96) _ = _
        exact ap_
       refine one_ (i := 4) (N := some 91) (rl [10,1,3,2]) rfl rfl (one_of HT_.out (by kernel_rfl)) (by decide) (fun K hK => ?_)
       refine goes_ Try.func67 (by kernel_rfl) rfl #[.slice Ao75 y840.length co75, .int .i64 a0_9] (by rfl) rfl rfl la_ ?_
       with_reducible refine (impl_PutWord.calls _ _ y840 a0_9 t874 _ ?side1 ?side2 A68.out).mono ?_
       (case side1 => exact qC ((Kd.R_reads' HO_3.out).2.2))
       (case side2 => exact (Kd.R_reads' HO_3.out).2.1)
       rintro e w79 ⟨v875, rfl, ho0, hb⟩
       refine ⟨_, rfl, ?_⟩
       have HO876 := am_ (Kd.R_lower (Kd.R_new' (Kd.R_new' ho0 (Kd.R_lt (qR HO_3))) (Kd.R_lt (qR HO879))) (below_size (qB HB)))
       replace HO_3 := eA_ HO_3 ho0 hb
       replace HO879 := eA_ HO879 ho0 hb
       replace BK839 := bK_ BK839 hb
       replace HB := bS_ HB hb
       (try clear hb ho0)
       refine hK.out _ _ (cz16 BK839.out) (fun hHeld => ?_)
       clear hK K
       refine norm_ (a' := ?_) ?_ ?_
       rotate_left
       ·
        show Act.put _ (some 91) _ = _
        exact ap_
       exact norm_ (by simp only [putAll, Act.put, List.setIfInBounds_toArray, List.set_cons_zero, List.set_cons_succ]) (hCont (v875, v878) _ ⟨hHeld, (tR (Kd.R_mono HO876.out (fun _ hk => ⟨hk.2, hk.1.2⟩))), (tR (Kd.R_mono HO879.out (fun _ hk => ⟨hk.2, hk.1.2⟩))), (tR (Kd.R_mono HO_3.out (fun _ hk => ⟨hk.2, hk.1.2⟩))), (qK BK839), (qB HB)⟩)
     rintro ⟨v875, v878⟩ w80 ⟨hS_, h0_, h1_, h2_, h3_, h4_⟩
     have n0_ : Aside0 (Kd.R (Kd.int .u8) 5 w80 w.heap.size (fun k_ => some k_ ≠ (v878 : Value).ownBlock ∧ some k_ ≠ (.slice Ao75 y840.length co75 : Value).ownBlock) v875 t874) := ⟨h0_⟩
     have n1_ : Aside0 (Kd.R (Kd.int .u8) 5 w80 w.heap.size (fun k_ => some k_ ≠ (v875 : Value).ownBlock ∧ some k_ ≠ (.slice Ao75 y840.length co75 : Value).ownBlock) v878 y877) := ⟨h1_⟩
     have n2_ : Aside0 (Kd.R (Kd.int .u8) 5 w80 w.heap.size (fun k_ => some k_ ≠ (v875 : Value).ownBlock ∧ some k_ ≠ (v878 : Value).ownBlock) (.slice Ao75 y840.length co75) y840) := ⟨h2_⟩
     have n3_ : Aside0 (w80.heap[gb839]? = some (.cells #[.int .i64 a0_0, .int .i64 a0_1, .string a0_2, .int .i64 a0_3, .int .i64 a0_4, .int .i64 a0_5, .string a0_6, .int .i64 a0_7, .int .i64 a0_8, .int .i64 a0_9, .string a0_10, .int .i64 a0_11, .int .i64 a0_12, .int .i64 a0_13, .int .i64 a0_14, .int .i64 a0_15] 29 (0, 0))) := ⟨h3_⟩
     have n4_ : Aside0 (Below w.heap.size w w80) := ⟨h4_⟩
     clear HO_3
     clear BK839
     clear HB
     clear h0_ h1_ h2_ h3_ h4_
     have HO876 := n0_
     have HO879 := n1_
     have HO_3 := n2_
     have BK839 := n3_
     have HB := n4_
     clear n0_ n1_ n2_ n3_ n4_
     have hHeld : w80.cell? ⟨gb839, 0, none⟩ = some (.int .i64 a0_0) ∧ w80.cell? ⟨gb839, 1, none⟩ = some (.int .i64 a0_1) ∧ w80.cell? ⟨gb839, 2, none⟩ = some (.string a0_2) ∧ w80.cell? ⟨gb839, 3, none⟩ = some (.int .i64 a0_3) ∧ w80.cell? ⟨gb839, 4, none⟩ = some (.int .i64 a0_4) ∧ w80.cell? ⟨gb839, 5, none⟩ = some (.int .i64 a0_5) ∧ w80.cell? ⟨gb839, 6, none⟩ = some (.string a0_6) ∧ w80.cell? ⟨gb839, 7, none⟩ = some (.int .i64 a0_7) ∧ w80.cell? ⟨gb839, 8, none⟩ = some (.int .i64 a0_8) ∧ w80.cell? ⟨gb839, 9, none⟩ = some (.int .i64 a0_9) ∧ w80.cell? ⟨gb839, 10, none⟩ = some (.string a0_10) ∧ w80.cell? ⟨gb839, 11, none⟩ = some (.int .i64 a0_11) ∧ w80.cell? ⟨gb839, 12, none⟩ = some (.int .i64 a0_12) ∧ w80.cell? ⟨gb839, 13, none⟩ = some (.int .i64 a0_13) ∧ w80.cell? ⟨gb839, 14, none⟩ = some (.int .i64 a0_14) ∧ w80.cell? ⟨gb839, 15, none⟩ = some (.int .i64 a0_15) := hS_
     obtain ⟨Ao82, co82, eo82⟩ := Kd.R_slice HO879.out
     (first | subst eo82 | (injection eo82 with f1_ f2_ f3_; have f4_ := f1_.symm; have f5_ := f3_.symm; clear f1_ f2_ f3_; subst f4_; subst f5_))
     refine norm_ (a' := ?_) ?_ ?_
     rotate_left
     ·
      simp only [putAll, Act.put, List.setIfInBounds_toArray, List.set_cons_zero, List.set_cons_succ]
      rfl
     refine one_ (i := 10) (N := some 97) (rl [14,2]) rfl rfl (one_of HT_.out (by kernel_rfl)) (by decide) (fun K hK => ?_)
     refine Kd.R_append_rows_step (Kd.int .u8) (w0 := w) w.heap.size (by rfl) (.tmp 91) (.tmp 96) 22 5 (.int .u8 0) 1 rfl Try.underlying22 info5 rfl (by decide) (by omega) v875 t874 y877 _ _ _ (fun k_ => some k_ ≠ (.slice Ao75 y840.length co75 : Value).ownBlock ∧ some k_ ≠ (.slice Ao82 y877.length co82 : Value).ownBlock) (fun _ => False) rfl rfl ?aO ?aR (fun _ _ h => h) (fun _ h => h.elim) ?aF ?aB ?aS ?aL ?_
     (case aR => exact qC ((Kd.R_reads' HO879.out).2.2))
     (case aB => exact (qB HB))
     (case aF => exact (fun k_ hk => ⟨Kd.fresh' (Kd.R_lt (qR HO_3)) k_ hk, Kd.fresh' (Kd.R_lt (qR HO879)) k_ hk⟩))
     (case aO => exact (tR (Kd.R_mono HO876.out (fun _ hk => ⟨hk.2, hk.1⟩))))
     (case aS => exact (below_size (qB HB)))
     (case aL => have := LMc69.out; omega)
     intro v881 w81 ho hb hg hat
     rw [← Ny880.out] at ho
     replace HO_3 := am_ (Kd.R_after (ok := (fun k_ => some k_ ≠ (.slice Ao82 y877.length co82 : Value).ownBlock)) (tR (Kd.R_mono HO_3.out (fun _ hk => ⟨hk.2, hk.1⟩))) hg hat)
     replace BK839 := am_ (blk_grown (qK BK839) hg (Kd.R_ne HO876.out BK839.out (by decide)))
     replace HO879 := am_ (Kd.R_after (ok := (fun k_ => some k_ ≠ (.slice Ao75 y840.length co75 : Value).ownBlock)) (tR (Kd.R_mono HO879.out (fun _ hk => ⟨hk.2, hk.1⟩))) hg hat)
     replace HB := am_ (hb)
     have HO882 := am_ (ho)
     clear HO876
     clear ho hb hg hat
     obtain ⟨Ao83, co83, eo83⟩ := Kd.R_slice HO882.out
     (first | subst eo83 | (injection eo83 with f1_ f2_ f3_; have f4_ := f1_.symm; have f5_ := f3_.symm; clear f1_ f2_ f3_; subst f4_; subst f5_))
     refine hK.out _ _ (cz16 BK839.out) (fun hHeld => ?_)
     clear hK K
     refine norm_ (a' := ?_) ?_ ?_
     rotate_left
     ·
      show Act.put _ (some 97) _ = _
      exact ap_
     refine one_ (i := 14) (N := some 101) (rl [15,1]) rfl rfl (one_of HT_.out (by kernel_rfl)) (by decide) (fun K hK => ?_)
     refine goes_ Try.func66 (by kernel_rfl) rfl #[.slice Ao83 y880.length co83, .string a0_10] (by rfl) rfl rfl la_ ?_
     with_reducible refine (impl_PutText.calls kj51 _ _ y880 a0_10 t883 _ ?side1 ?side2 A70.out).mono ?_
     (case side1 => exact qC ((Kd.R_reads' HO882.out).2.2))
     (case side2 => exact (Kd.R_reads' HO882.out).2.1)
     rintro e w84 ⟨v884, rfl, ho0, hb⟩
     refine ⟨_, rfl, ?_⟩
     have HO885 := am_ (Kd.R_lower (Kd.R_new' (Kd.R_new' (Kd.R_new' ho0 (Kd.R_lt (qR HO_3))) (Kd.R_lt (qR HO879))) (Kd.R_lt (qR HO882))) (below_size (qB HB)))
     replace HO_3 := eA_ HO_3 ho0 hb
     replace HO879 := eA_ HO879 ho0 hb
     replace HO882 := eA_ HO882 ho0 hb
     replace BK839 := bK_ BK839 hb
     replace HB := bS_ HB hb
     (try clear hb ho0)
     refine hK.out _ _ (cz16 BK839.out) (fun hHeld => ?_)
     clear hK K
     refine norm_ (a' := ?_) ?_ ?_
     rotate_left
     ·
      show Act.put _ (some 101) _ = _
      exact ap_
     refine pz_ (i := 15) (N := some 3) HT_ (rl [16]) rfl rfl ?_
     refine done_ (done_of HT_.out (by kernel_rfl)) ?_
     try go_wp2
     replace HO_3 := am_ (Kd.R_drew HO_3.out)
     replace HO879 := am_ (Kd.R_drew HO879.out)
     replace HO882 := am_ (Kd.R_drew HO882.out)
     replace HO885 := am_ (Kd.R_drew HO885.out)
     replace BK839 := am_ (blk_drew BK839.out)
     replace HB := am_ (below_drew1 HB.out)
     obtain ⟨Ao86, co86, eo86⟩ := Kd.R_slice HO885.out
     (first | subst eo86 | (injection eo86 with f1_ f2_ f3_; have f4_ := f1_.symm; have f5_ := f3_.symm; clear f1_ f2_ f3_; subst f4_; subst f5_))
     refine start_ (n := 10) (S := fun w' => w'.cell? ⟨gb839, 0, none⟩ = some (.int .i64 a0_0) ∧ w'.cell? ⟨gb839, 1, none⟩ = some (.int .i64 a0_1) ∧ w'.cell? ⟨gb839, 2, none⟩ = some (.string a0_2) ∧ w'.cell? ⟨gb839, 3, none⟩ = some (.int .i64 a0_3) ∧ w'.cell? ⟨gb839, 4, none⟩ = some (.int .i64 a0_4) ∧ w'.cell? ⟨gb839, 5, none⟩ = some (.int .i64 a0_5) ∧ w'.cell? ⟨gb839, 6, none⟩ = some (.string a0_6) ∧ w'.cell? ⟨gb839, 7, none⟩ = some (.int .i64 a0_7) ∧ w'.cell? ⟨gb839, 8, none⟩ = some (.int .i64 a0_8) ∧ w'.cell? ⟨gb839, 9, none⟩ = some (.int .i64 a0_9) ∧ w'.cell? ⟨gb839, 10, none⟩ = some (.string a0_10) ∧ w'.cell? ⟨gb839, 11, none⟩ = some (.int .i64 a0_11) ∧ w'.cell? ⟨gb839, 12, none⟩ = some (.int .i64 a0_12) ∧ w'.cell? ⟨gb839, 13, none⟩ = some (.int .i64 a0_13) ∧ w'.cell? ⟨gb839, 14, none⟩ = some (.int .i64 a0_14) ∧ w'.cell? ⟨gb839, 15, none⟩ = some (.int .i64 a0_15)) (ds := []) #[oo,oo,oo,oo,oo,oo,oo,oo,oo,oo] (by kernel_rfl) rfl rfl (cz16 BK839.out) (fun hHeld => ?_); refine with_tabW impl_PutItem.tab8 impl_PutItem.bits8 (fun HT_ HW_ => ?_)
     generalize w84.drew = w85 at HO_3 HO879 HO882 HO885 BK839 HB hHeld ⊢
     refine pz_ (i := 0) (N := some 102) HT_ #[ii,oo,oo,oo,oo,oo,oo,oo,oo,oo] rfl rfl ?_
     refine pz_ (i := 1) (N := some 103) HT_ #[ii,ii,oo,oo,oo,oo,oo,oo,oo,oo] rfl rfl ?_
     refine pz_ (i := 2) (N := some 104) HT_ #[ii,ii,ii,oo,oo,oo,oo,oo,oo,oo] rfl rfl ?_
     refine pz_ (i := 5) (N := some 107) HT_ #[ii,ii,ii,oo,oo,ii,oo,oo,oo,oo] rfl rfl ?_
     refine pz_ (i := 6) (N := some 108) HT_ #[ii,ii,ii,oo,oo,ii,ii,oo,oo,oo] rfl rfl ?_
     refine tz_ (i := 3) (N := some 105) HT_ HW_ #[ii,ii,ii,ii,oo,ii,ii,oo,oo,oo] rfl rfl hHeld ?_
     refine tz_ (i := 7) (N := some 109) HT_ HW_ #[ii,ii,ii,ii,oo,ii,ii,ii,oo,oo] rfl rfl hHeld ?_
     refine one_ (i := 4) (N := some 106) #[ii,ii,ii,ii,ii,ii,ii,ii,oo,oo] rfl rfl (one_of HT_.out (by kernel_rfl)) (by decide) (fun K hK => ?_)
     refine goes_ Try.func67 (by kernel_rfl) rfl #[.slice Ao86 t883.length co86, .int .i64 a0_11] (by rfl) rfl rfl la_ ?_
     with_reducible refine (impl_PutWord.calls _ _ t883 a0_11 t886 _ ?side1 ?side2 A71.out).mono ?_
     (case side1 => exact qC ((Kd.R_reads' HO885.out).2.2))
     (case side2 => exact (Kd.R_reads' HO885.out).2.1)
     rintro e w87 ⟨v887, rfl, ho0, hb⟩
     refine ⟨_, rfl, ?_⟩
     have HO888 := am_ (Kd.R_lower (Kd.R_new' (Kd.R_new' (Kd.R_new' (Kd.R_new' ho0 (Kd.R_lt (qR HO_3))) (Kd.R_lt (qR HO879))) (Kd.R_lt (qR HO882))) (Kd.R_lt (qR HO885))) (below_size (qB HB)))
     replace HO_3 := eA_ HO_3 ho0 hb
     replace HO879 := eA_ HO879 ho0 hb
     replace HO882 := eA_ HO882 ho0 hb
     replace HO885 := eA_ HO885 ho0 hb
     replace BK839 := bK_ BK839 hb
     replace HB := bS_ HB hb
     (try clear hb ho0)
     obtain ⟨Ao88, co88, eo88⟩ := Kd.R_slice HO888.out
     (first | subst eo88 | (injection eo88 with f1_ f2_ f3_; have f4_ := f1_.symm; have f5_ := f3_.symm; clear f1_ f2_ f3_; subst f4_; subst f5_))
     refine hK.out _ _ (cz16 BK839.out) (fun hHeld => ?_)
     clear hK K
     refine norm_ (a' := ?_) ?_ ?_
     rotate_left
     ·
      show Act.put _ (some 106) _ = _
      exact ap_
     refine one_ (i := 8) (N := some 110) #[ii,ii,ii,ii,ii,ii,ii,ii,ii,oo] rfl rfl (one_of HT_.out (by kernel_rfl)) (by decide) (fun K hK => ?_)
     refine goes_ Try.func68 (by kernel_rfl) rfl #[.slice Ao88 t886.length co88, .int .i64 a0_13] (by rfl) rfl rfl la_ ?_
     with_reducible refine (impl_putSince.calls _ _ t886 a0_13 t889 _ ?side1 ?side2 A72.out).mono ?_
     (case side1 => exact qC ((Kd.R_reads' HO888.out).2.2))
     (case side2 => exact (Kd.R_reads' HO888.out).2.1)
     rintro e w89 ⟨v890, rfl, ho0, hb⟩
     refine ⟨_, rfl, ?_⟩
     have HO891 := am_ (Kd.R_lower (Kd.R_new' (Kd.R_new' (Kd.R_new' (Kd.R_new' (Kd.R_new' ho0 (Kd.R_lt (qR HO_3))) (Kd.R_lt (qR HO879))) (Kd.R_lt (qR HO882))) (Kd.R_lt (qR HO885))) (Kd.R_lt (qR HO888))) (below_size (qB HB)))
     replace HO_3 := eA_ HO_3 ho0 hb
     replace HO879 := eA_ HO879 ho0 hb
     replace HO882 := eA_ HO882 ho0 hb
     replace HO885 := eA_ HO885 ho0 hb
     replace HO888 := eA_ HO888 ho0 hb
     replace BK839 := bK_ BK839 hb
     replace HB := bS_ HB hb
     (try clear hb ho0)
     refine hK.out _ _ (cz16 BK839.out) (fun hHeld => ?_)
     clear hK K
     refine norm_ (a' := ?_) ?_ ?_
     rotate_left
     ·
      show Act.put _ (some 110) _ = _
      exact ap_
     refine pz_ (i := 9) (N := some 3) HT_ #[ii,ii,ii,ii,ii,ii,ii,ii,ii,ii] rfl rfl ?_
     refine done_ (done_of HT_.out (by kernel_rfl)) ?_
     try go_wp2
     replace HO_3 := am_ (Kd.R_drew HO_3.out)
     replace HO879 := am_ (Kd.R_drew HO879.out)
     replace HO882 := am_ (Kd.R_drew HO882.out)
     replace HO885 := am_ (Kd.R_drew HO885.out)
     replace HO888 := am_ (Kd.R_drew HO888.out)
     replace HO891 := am_ (Kd.R_drew HO891.out)
     replace BK839 := am_ (blk_drew BK839.out)
     replace HB := am_ (below_drew1 HB.out)
     obtain ⟨Ao91, co91, eo91⟩ := Kd.R_slice HO891.out
     (first | subst eo91 | (injection eo91 with f1_ f2_ f3_; have f4_ := f1_.symm; have f5_ := f3_.symm; clear f1_ f2_ f3_; subst f4_; subst f5_))
     refine start_ (n := 10) (S := fun w' => w'.cell? ⟨gb839, 0, none⟩ = some (.int .i64 a0_0) ∧ w'.cell? ⟨gb839, 1, none⟩ = some (.int .i64 a0_1) ∧ w'.cell? ⟨gb839, 2, none⟩ = some (.string a0_2) ∧ w'.cell? ⟨gb839, 3, none⟩ = some (.int .i64 a0_3) ∧ w'.cell? ⟨gb839, 4, none⟩ = some (.int .i64 a0_4) ∧ w'.cell? ⟨gb839, 5, none⟩ = some (.int .i64 a0_5) ∧ w'.cell? ⟨gb839, 6, none⟩ = some (.string a0_6) ∧ w'.cell? ⟨gb839, 7, none⟩ = some (.int .i64 a0_7) ∧ w'.cell? ⟨gb839, 8, none⟩ = some (.int .i64 a0_8) ∧ w'.cell? ⟨gb839, 9, none⟩ = some (.int .i64 a0_9) ∧ w'.cell? ⟨gb839, 10, none⟩ = some (.string a0_10) ∧ w'.cell? ⟨gb839, 11, none⟩ = some (.int .i64 a0_11) ∧ w'.cell? ⟨gb839, 12, none⟩ = some (.int .i64 a0_12) ∧ w'.cell? ⟨gb839, 13, none⟩ = some (.int .i64 a0_13) ∧ w'.cell? ⟨gb839, 14, none⟩ = some (.int .i64 a0_14) ∧ w'.cell? ⟨gb839, 15, none⟩ = some (.int .i64 a0_15)) (ds := []) #[oo,oo,oo,oo,oo,oo,oo,oo,oo,oo] (by kernel_rfl) rfl rfl (cz16 BK839.out) (fun hHeld => ?_); refine with_tabW impl_PutItem.tab9 impl_PutItem.bits9 (fun HT_ HW_ => ?_)
     generalize w89.drew = w90 at HO_3 HO879 HO882 HO885 HO888 HO891 BK839 HB hHeld ⊢
     refine pz_ (i := 0) (N := some 111) HT_ #[ii,oo,oo,oo,oo,oo,oo,oo,oo,oo] rfl rfl ?_
     refine pz_ (i := 1) (N := some 112) HT_ #[ii,ii,oo,oo,oo,oo,oo,oo,oo,oo] rfl rfl ?_
     refine pz_ (i := 2) (N := some 113) HT_ #[ii,ii,ii,oo,oo,oo,oo,oo,oo,oo] rfl rfl ?_
     refine pz_ (i := 5) (N := some 116) HT_ #[ii,ii,ii,oo,oo,ii,oo,oo,oo,oo] rfl rfl ?_
     refine pz_ (i := 6) (N := some 117) HT_ #[ii,ii,ii,oo,oo,ii,ii,oo,oo,oo] rfl rfl ?_
     refine tz_ (i := 3) (N := some 114) HT_ HW_ #[ii,ii,ii,ii,oo,ii,ii,oo,oo,oo] rfl rfl hHeld ?_
     refine tz_ (i := 7) (N := some 118) HT_ HW_ #[ii,ii,ii,ii,oo,ii,ii,ii,oo,oo] rfl rfl hHeld ?_
     refine one_ (i := 4) (N := some 115) #[ii,ii,ii,ii,ii,ii,ii,ii,oo,oo] rfl rfl (one_of HT_.out (by kernel_rfl)) (by decide) (fun K hK => ?_)
     refine goes_ Try.func67 (by kernel_rfl) rfl #[.slice Ao91 t889.length co91, .int .i64 a0_14] (by rfl) rfl rfl la_ ?_
     with_reducible refine (impl_PutWord.calls _ _ t889 a0_14 t892 _ ?side1 ?side2 A73.out).mono ?_
     (case side1 => exact qC ((Kd.R_reads' HO891.out).2.2))
     (case side2 => exact (Kd.R_reads' HO891.out).2.1)
     rintro e w92 ⟨v893, rfl, ho0, hb⟩
     refine ⟨_, rfl, ?_⟩
     have HO894 := am_ (Kd.R_lower (Kd.R_new' (Kd.R_new' (Kd.R_new' (Kd.R_new' (Kd.R_new' (Kd.R_new' ho0 (Kd.R_lt (qR HO_3))) (Kd.R_lt (qR HO879))) (Kd.R_lt (qR HO882))) (Kd.R_lt (qR HO885))) (Kd.R_lt (qR HO888))) (Kd.R_lt (qR HO891))) (below_size (qB HB)))
     replace HO_3 := eA_ HO_3 ho0 hb
     replace HO879 := eA_ HO879 ho0 hb
     replace HO882 := eA_ HO882 ho0 hb
     replace HO885 := eA_ HO885 ho0 hb
     replace HO888 := eA_ HO888 ho0 hb
     replace HO891 := eA_ HO891 ho0 hb
     replace BK839 := bK_ BK839 hb
     replace HB := bS_ HB hb
     (try clear hb ho0)
     obtain ⟨Ao93, co93, eo93⟩ := Kd.R_slice HO894.out
     (first | subst eo93 | (injection eo93 with f1_ f2_ f3_; have f4_ := f1_.symm; have f5_ := f3_.symm; clear f1_ f2_ f3_; subst f4_; subst f5_))
     refine hK.out _ _ (cz16 BK839.out) (fun hHeld => ?_)
     clear hK K
     refine norm_ (a' := ?_) ?_ ?_
     rotate_left
     ·
      show Act.put _ (some 115) _ = _
      exact ap_
     refine one_ (i := 8) (N := some 119) #[ii,ii,ii,ii,ii,ii,ii,ii,ii,oo] rfl rfl (one_of HT_.out (by kernel_rfl)) (by decide) (fun K hK => ?_)
     refine goes_ Try.func67 (by kernel_rfl) rfl #[.slice Ao93 t892.length co93, .int .i64 a0_15] (by rfl) rfl rfl la_ ?_
     with_reducible refine (impl_PutWord.calls _ _ t892 a0_15 t895 _ ?side1 ?side2 A74.out).mono ?_
     (case side1 => exact qC ((Kd.R_reads' HO894.out).2.2))
     (case side2 => exact (Kd.R_reads' HO894.out).2.1)
     rintro e w94 ⟨v896, rfl, ho0, hb⟩
     refine ⟨_, rfl, ?_⟩
     have HO897 := am_ (Kd.R_lower (Kd.R_new' (Kd.R_new' (Kd.R_new' (Kd.R_new' (Kd.R_new' (Kd.R_new' (Kd.R_new' ho0 (Kd.R_lt (qR HO_3))) (Kd.R_lt (qR HO879))) (Kd.R_lt (qR HO882))) (Kd.R_lt (qR HO885))) (Kd.R_lt (qR HO888))) (Kd.R_lt (qR HO891))) (Kd.R_lt (qR HO894))) (below_size (qB HB)))
     replace HO_3 := eA_ HO_3 ho0 hb
     replace HO879 := eA_ HO879 ho0 hb
     replace HO882 := eA_ HO882 ho0 hb
     replace HO885 := eA_ HO885 ho0 hb
     replace HO888 := eA_ HO888 ho0 hb
     replace HO891 := eA_ HO891 ho0 hb
     replace HO894 := eA_ HO894 ho0 hb
     replace BK839 := bK_ BK839 hb
     replace HB := bS_ HB hb
     (try clear hb ho0)
     refine hK.out _ _ (cz16 BK839.out) (fun hHeld => ?_)
     clear hK K
     refine norm_ (a' := ?_) ?_ ?_
     rotate_left
     ·
      show Act.put _ (some 119) _ = _
      exact ap_
     refine pz_ (i := 9) (N := some 2) HT_ #[ii,ii,ii,ii,ii,ii,ii,ii,ii,ii] rfl rfl ?_
     refine done_ (done_of HT_.out (by kernel_rfl)) ?_
     try go_wp2
     go_ret
     exact ⟨_, er_, by (with_reducible repeat (first | apply Kd.R_alloc | apply Kd.R_drewN | apply Kd.R_drew)); exact Kd.R_mono HO897.out (fun _ hk => trivial), qB HB⟩

end Go.Proofs.Ytiffahfpfgnjnaa.PFnWays
