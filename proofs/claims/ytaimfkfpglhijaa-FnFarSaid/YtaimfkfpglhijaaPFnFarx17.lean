-- Written by a program of this session (myprint.py, over the kit's print): contracts of FnFar
import Derived.Test.YtaimfkfpglhijaaPFnFarx0
import Derived.Test.YtaimfkfpglhijaaPFnFarx2
import Derived.Test.YtaimfkfpglhijaaPFnFarx8
namespace Go.Proofs.Ytaimfkfpglhijaa.PFnFar
open Go.RowKit Go.Proofs.YtaimfkfpglhijaaW.PrintWords Go.Proofs.YtaimfkfpglhijaaW.PrintLast Go.Proofs.YtaimfkfpglhijaaW.PrintMore Go.Proofs.YtaimfkfpglhijaaV
attribute [local go_sem] max2_int min2_int max_two min_two max_three min_three max_four min_four   -- for this text's walks alone
set_option linter.unusedVariables false
set_option linter.unusedSimpArgs false

/-! ### laws_sameSock: function 27 -/
def laws_sameSock.f (a0_0 : Int) (a0_1 : Int) (a0_2 : Int) (a0_3 : Bool) (l0_4 : List Int) (l0_5 : List Int) (a0_6 : Int) (a0_7 : Int) (a1_0 : Int) (a1_1 : Int) (a1_2 : Int) (a1_3 : Bool) (l1_4 : List Int) (l1_5 : List Int) (a1_6 : Int) (a1_7 : Int) : Option (Bool) := if a0_0 = a1_0 then (if a0_1 = a1_1 then (if a0_2 = a1_2 then (if (a0_3 == a1_3) = true then ((laws_same.f l0_4 l1_4).bind fun t658 => (if t658 = true then ((laws_same.f l0_5 l1_5).bind fun t659 => (if t659 = true then (if a0_6 = a1_6 then (some (a0_7 == a1_7)) else (some false)) else (some false))) else (some false))) else (some false)) else (some false)) else (some false)) else (some false)
set_option maxHeartbeats 8000000 in
set_option maxRecDepth 100000 in
theorem laws_sameSock.calls (a0_0 : Int) (a0_1 : Int) (a0_2 : Int) (a0_3 : Bool) (A0_4 : Option Addr) (c0_4 : Nat) (l0_4 : List Int) (A0_5 : Option Addr) (c0_5 : Nat) (l0_5 : List Int) (a0_6 : Int) (a0_7 : Int) (a1_0 : Int) (a1_1 : Int) (a1_2 : Int) (a1_3 : Bool) (A1_4 : Option Addr) (c1_4 : Nat) (l1_4 : List Int) (A1_5 : Option Addr) (c1_5 : Nat) (l1_5 : List Int) (a1_6 : Int) (a1_7 : Int) (r : Bool) (w : World) (hr0_4 : Kd.C (Kd.int .u8) w A0_4 l0_4.length l0_4) (hc0_4 : l0_4.length ≤ c0_4) (hr0_5 : Kd.C (Kd.int .u8) w A0_5 l0_5.length l0_5) (hc0_5 : l0_5.length ≤ c0_5) (hr1_4 : Kd.C (Kd.int .u8) w A1_4 l1_4.length l1_4) (hc1_4 : l1_4.length ≤ c1_4) (hr1_5 : Kd.C (Kd.int .u8) w A1_5 l1_5.length l1_5) (hc1_5 : l1_5.length ≤ c1_5) (h : laws_sameSock.f a0_0 a0_1 a0_2 a0_3 l0_4 l0_5 a0_6 a0_7 a1_0 a1_1 a1_2 a1_3 l1_4 l1_5 a1_6 a1_7 = some r) :
  Calls Try.prog 27 #[.agg #[.int .i64 a0_0, .int .i64 a0_1, .int .i64 a0_2, .bool a0_3, .slice A0_4 l0_4.length c0_4, .slice A0_5 l0_5.length c0_5, .int .i64 a0_6, .int .i64 a0_7], .agg #[.int .i64 a1_0, .int .i64 a1_1, .int .i64 a1_2, .bool a1_3, .slice A1_4 l1_4.length c1_4, .slice A1_5 l1_5.length c1_5, .int .i64 a1_6, .int .i64 a1_7]] w fun e w' => e = .returned (.bool r) ∧ Below w.heap.size w w' := by
 have hu41 := Try.underlying41
 have HR0_4 := Aside0.mk hr0_4
 have HC0_4 := Aside0.mk hc0_4
 clear hr0_4 hc0_4
 have HR0_5 := Aside0.mk hr0_5
 have HC0_5 := Aside0.mk hc0_5
 clear hr0_5 hc0_5
 have HR1_4 := Aside0.mk hr1_4
 have HC1_4 := Aside0.mk hc1_4
 clear hr1_4 hc1_4
 have HR1_5 := Aside0.mk hr1_5
 have HC1_5 := Aside0.mk hc1_5
 clear hr1_5 hc1_5
 have HB := Aside0.mk (Below.refl w.heap.size w)
 have H : (if a0_0 = a1_0 then (if a0_1 = a1_1 then (if a0_2 = a1_2 then (if (a0_3 == a1_3) = true then ((laws_same.f l0_4 l1_4).bind fun t658 => (if t658 = true then ((laws_same.f l0_5 l1_5).bind fun t659 => (if t659 = true then (if a0_6 = a1_6 then (some (a0_7 == a1_7)) else (some false)) else (some false))) else (some false))) else (some false)) else (some false)) else (some false)) else (some false)) = some r := h
 clear h
 have HC3 := Aside0.mk H
 clear H
 go_enter Try.func27, Try.ntmps27
 go_upto_region 1 with (first | ((with_reducible refine gate_dst (N := 2) rfl ?_); refine box_event ?hg (N := 2) ?hd (cs := #[.int .i64 a0_0, .int .i64 a0_1, .int .i64 a0_2, .bool a0_3, .slice A0_4 l0_4.length c0_4, .slice A0_5 l0_5.length c0_5, .int .i64 a0_6, .int .i64 a0_7]) (t := 41) ?hr ?_; (case hd => rfl); (case hg => rfl); (case hr => first | (go_simp; done) | (go_simp; rfl)); intro gb656 hg w4 hbox hb; have BK656 := am_ (hbox); have GW656 := am_ ((gG_ hg (qB HB))); have IGW656 := gI_ GW656; have GE656 := am_ ((gG_ hg (qB HB))); have IGE656 := gI_ GE656; replace HB := am_ (below_step (qB HB) hb); clear hb hbox hg) | ((with_reducible refine gate_dst (N := 3) rfl ?_); refine box_event ?hg (N := 3) ?hd (cs := #[.int .i64 a1_0, .int .i64 a1_1, .int .i64 a1_2, .bool a1_3, .slice A1_4 l1_4.length c1_4, .slice A1_5 l1_5.length c1_5, .int .i64 a1_6, .int .i64 a1_7]) (t := 41) ?hr ?_; (case hd => rfl); (case hg => rfl); (case hr => first | (go_simp; done) | (go_simp; rfl)); intro gb657 hg w5 hbox hb; have BK657 := am_ (hbox); have GW657 := am_ ((gG_ hg (qB HB))); have IGW657 := gI_ GW657; have GE657 := am_ ((gG_ hg (qB HB))); have IGE657 := gI_ GE657; replace HB := am_ (below_step (qB HB) hb); have NB656_657 := am_ ((gN_ hg (qK BK656))); have NB657_656 := am_ ((gM_ hg (qK BK656))); replace BK656 := am_ (blk_below (qK BK656) hb); clear hb hbox hg))
 (try simp only [Act.put, List.setIfInBounds_toArray, List.set_cons_zero, List.set_cons_succ])
 have H := HC3.out
 clear HC3
 by_cases c6 : a0_0 = a1_0
 ·
  rw [if_pos c6] at H
  have c6b0 : (a0_0 == a1_0) = true := beq_iff_eq.mpr c6
  have c6b1 : (a0_0 != a1_0) = false := bne_eq_false_iff_eq.mpr c6
  clear c6
  by_cases c7 : a0_1 = a1_1
  ·
   rw [if_pos c7] at H
   have c7b0 : (a0_1 == a1_1) = true := beq_iff_eq.mpr c7
   have c7b1 : (a0_1 != a1_1) = false := bne_eq_false_iff_eq.mpr c7
   clear c7
   by_cases c8 : a0_2 = a1_2
   ·
    rw [if_pos c8] at H
    have c8b0 : (a0_2 == a1_2) = true := beq_iff_eq.mpr c8
    have c8b1 : (a0_2 != a1_2) = false := bne_eq_false_iff_eq.mpr c8
    clear c8
    by_cases c9 : (a0_3 == a1_3) = true
    ·
     rw [if_pos c9] at H
     have c9b0 : (a0_3 == a1_3) = true := c9
     (try (have c9b1 : decide (a0_3 = a1_3) = true := by simpa using c9))
     (try (have c9b2 : (a0_3 == a1_3) = true := by simpa using c9))
     clear c9
     obtain ⟨t658, A10, H⟩ := bd_ H
     by_cases c11 : t658 = true
     ·
      subst c11
      rw [if_pos rfl] at H
      obtain ⟨t659, A12, H⟩ := bd_ H
      by_cases c13 : t659 = true
      ·
       subst c13
       rw [if_pos rfl] at H
       by_cases c14 : a0_6 = a1_6
       ·
        rw [if_pos c14] at H
        have c14b0 : (a0_6 == a1_6) = true := beq_iff_eq.mpr c14
        have c14b1 : (a0_6 != a1_6) = false := bne_eq_false_iff_eq.mpr c14
        clear c14
        obtain rfl := Option.some.inj H
        have hnb15 := NB656_657.out
        have hnc15 := NB657_656.out
        obtain ⟨z16_0, z16_1, z16_2, z16_3, z16_4, z16_5, z16_6, z16_7⟩ := cz8 BK656.out
        obtain ⟨f16_0, f16_1, f16_2, f16_3, f16_4, f16_5, f16_6, f16_7⟩ := fz8 BK656.out
        obtain ⟨z17_0, z17_1, z17_2, z17_3, z17_4, z17_5, z17_6, z17_7⟩ := cz8 BK657.out
        obtain ⟨f17_0, f17_1, f17_2, f17_3, f17_4, f17_5, f17_6, f17_7⟩ := fz8 BK657.out
        go_wp2_with (first | (go_at_call 18; (with_reducible refine (laws_same.calls _ _ l0_4 _ _ l1_4 true _ ?side1 ?side2 ?side3 ?side4 A10.out).mono ?_); (case side1 => exact qC (Kd.C_below HR0_4.out HB.out)); (case side2 => exact HC0_4.out); (case side3 => exact qC (Kd.C_below HR1_4.out HB.out)); (case side4 => exact HC1_4.out); rintro e w' ⟨rfl, ⟨nd, rfl⟩⟩) | (go_at_call 18; (with_reducible refine (laws_same.calls _ _ l0_5 _ _ l1_5 true _ ?side1 ?side2 ?side3 ?side4 A12.out).mono ?_); (case side1 => repeat (first | exact (Kd.C_below HR0_5.out (qB HB)) | (with_reducible refine Kd.C_alloc ?_ _) | (with_reducible refine Kd.C_drewN ?_ _) | (with_reducible refine Kd.C_drew ?_))); (case side2 => exact HC0_5.out); (case side3 => repeat (first | exact (Kd.C_below HR1_5.out (qB HB)) | (with_reducible refine Kd.C_alloc ?_ _) | (with_reducible refine Kd.C_drewN ?_ _) | (with_reducible refine Kd.C_drew ?_))); (case side4 => exact HC1_5.out); rintro e w' ⟨rfl, ⟨nd, rfl⟩⟩))
        go_ret
        exact ⟨er_, qB HB⟩
       ·
        rw [if_neg c14] at H
        have c14b0 : (a0_6 == a1_6) = false := beq_eq_false_iff_ne.mpr c14
        have c14b1 : (a0_6 != a1_6) = true := bne_iff_ne.mpr c14
        obtain rfl := Option.some.inj H
        have hnb18 := NB656_657.out
        have hnc18 := NB657_656.out
        obtain ⟨z19_0, z19_1, z19_2, z19_3, z19_4, z19_5, z19_6, z19_7⟩ := cz8 BK656.out
        obtain ⟨f19_0, f19_1, f19_2, f19_3, f19_4, f19_5, f19_6, f19_7⟩ := fz8 BK656.out
        obtain ⟨z20_0, z20_1, z20_2, z20_3, z20_4, z20_5, z20_6, z20_7⟩ := cz8 BK657.out
        obtain ⟨f20_0, f20_1, f20_2, f20_3, f20_4, f20_5, f20_6, f20_7⟩ := fz8 BK657.out
        go_wp2_with (first | (go_at_call 18; (with_reducible refine (laws_same.calls _ _ l0_4 _ _ l1_4 true _ ?side1 ?side2 ?side3 ?side4 A10.out).mono ?_); (case side1 => exact qC (Kd.C_below HR0_4.out HB.out)); (case side2 => exact HC0_4.out); (case side3 => exact qC (Kd.C_below HR1_4.out HB.out)); (case side4 => exact HC1_4.out); rintro e w' ⟨rfl, ⟨nd, rfl⟩⟩) | (go_at_call 18; (with_reducible refine (laws_same.calls _ _ l0_5 _ _ l1_5 true _ ?side1 ?side2 ?side3 ?side4 A12.out).mono ?_); (case side1 => repeat (first | exact (Kd.C_below HR0_5.out (qB HB)) | (with_reducible refine Kd.C_alloc ?_ _) | (with_reducible refine Kd.C_drewN ?_ _) | (with_reducible refine Kd.C_drew ?_))); (case side2 => exact HC0_5.out); (case side3 => repeat (first | exact (Kd.C_below HR1_5.out (qB HB)) | (with_reducible refine Kd.C_alloc ?_ _) | (with_reducible refine Kd.C_drewN ?_ _) | (with_reducible refine Kd.C_drew ?_))); (case side4 => exact HC1_5.out); rintro e w' ⟨rfl, ⟨nd, rfl⟩⟩))
        go_ret
        exact ⟨er_, qB HB⟩
      ·
       replace c13 := Bool.eq_false_iff.mpr c13
       subst c13
       rw [if_neg (show ¬ (false = true) by decide)] at H
       obtain rfl := Option.some.inj H
       have hnb21 := NB656_657.out
       have hnc21 := NB657_656.out
       obtain ⟨z22_0, z22_1, z22_2, z22_3, z22_4, z22_5, z22_6, z22_7⟩ := cz8 BK656.out
       obtain ⟨f22_0, f22_1, f22_2, f22_3, f22_4, f22_5, f22_6, f22_7⟩ := fz8 BK656.out
       obtain ⟨z23_0, z23_1, z23_2, z23_3, z23_4, z23_5, z23_6, z23_7⟩ := cz8 BK657.out
       obtain ⟨f23_0, f23_1, f23_2, f23_3, f23_4, f23_5, f23_6, f23_7⟩ := fz8 BK657.out
       go_wp2_with (first | (go_at_call 18; (with_reducible refine (laws_same.calls _ _ l0_4 _ _ l1_4 true _ ?side1 ?side2 ?side3 ?side4 A10.out).mono ?_); (case side1 => exact qC (Kd.C_below HR0_4.out HB.out)); (case side2 => exact HC0_4.out); (case side3 => exact qC (Kd.C_below HR1_4.out HB.out)); (case side4 => exact HC1_4.out); rintro e w' ⟨rfl, ⟨nd, rfl⟩⟩) | (go_at_call 18; (with_reducible refine (laws_same.calls _ _ l0_5 _ _ l1_5 false _ ?side1 ?side2 ?side3 ?side4 A12.out).mono ?_); (case side1 => repeat (first | exact (Kd.C_below HR0_5.out (qB HB)) | (with_reducible refine Kd.C_alloc ?_ _) | (with_reducible refine Kd.C_drewN ?_ _) | (with_reducible refine Kd.C_drew ?_))); (case side2 => exact HC0_5.out); (case side3 => repeat (first | exact (Kd.C_below HR1_5.out (qB HB)) | (with_reducible refine Kd.C_alloc ?_ _) | (with_reducible refine Kd.C_drewN ?_ _) | (with_reducible refine Kd.C_drew ?_))); (case side4 => exact HC1_5.out); rintro e w' ⟨rfl, ⟨nd, rfl⟩⟩))
       go_ret
       exact ⟨er_, qB HB⟩
     ·
      replace c11 := Bool.eq_false_iff.mpr c11
      subst c11
      rw [if_neg (show ¬ (false = true) by decide)] at H
      obtain rfl := Option.some.inj H
      have hnb24 := NB656_657.out
      have hnc24 := NB657_656.out
      obtain ⟨z25_0, z25_1, z25_2, z25_3, z25_4, z25_5, z25_6, z25_7⟩ := cz8 BK656.out
      obtain ⟨f25_0, f25_1, f25_2, f25_3, f25_4, f25_5, f25_6, f25_7⟩ := fz8 BK656.out
      obtain ⟨z26_0, z26_1, z26_2, z26_3, z26_4, z26_5, z26_6, z26_7⟩ := cz8 BK657.out
      obtain ⟨f26_0, f26_1, f26_2, f26_3, f26_4, f26_5, f26_6, f26_7⟩ := fz8 BK657.out
      go_wp2_with (first | (go_at_call 18; (with_reducible refine (laws_same.calls _ _ l0_4 _ _ l1_4 false _ ?side1 ?side2 ?side3 ?side4 A10.out).mono ?_); (case side1 => exact qC (Kd.C_below HR0_4.out HB.out)); (case side2 => exact HC0_4.out); (case side3 => exact qC (Kd.C_below HR1_4.out HB.out)); (case side4 => exact HC1_4.out); rintro e w' ⟨rfl, ⟨nd, rfl⟩⟩))
      go_ret
      exact ⟨er_, qB HB⟩
    ·
     rw [if_neg c9] at H
     have c9b0 : (a0_3 == a1_3) = false := by simpa using c9
     (try (have c9b1 : decide (a0_3 = a1_3) = false := by simpa using c9))
     (try (have c9b2 : (a0_3 == a1_3) = false := by simpa using c9))
     (try (have c9b3 : ¬ (a0_3 = a1_3) := by simpa using c9))
     clear c9
     obtain rfl := Option.some.inj H
     have hnb27 := NB656_657.out
     have hnc27 := NB657_656.out
     obtain ⟨z28_0, z28_1, z28_2, z28_3, z28_4, z28_5, z28_6, z28_7⟩ := cz8 BK656.out
     obtain ⟨f28_0, f28_1, f28_2, f28_3, f28_4, f28_5, f28_6, f28_7⟩ := fz8 BK656.out
     obtain ⟨z29_0, z29_1, z29_2, z29_3, z29_4, z29_5, z29_6, z29_7⟩ := cz8 BK657.out
     obtain ⟨f29_0, f29_1, f29_2, f29_3, f29_4, f29_5, f29_6, f29_7⟩ := fz8 BK657.out
     go_wp2
     go_ret
     exact ⟨er_, qB HB⟩
   ·
    rw [if_neg c8] at H
    have c8b0 : (a0_2 == a1_2) = false := beq_eq_false_iff_ne.mpr c8
    have c8b1 : (a0_2 != a1_2) = true := bne_iff_ne.mpr c8
    obtain rfl := Option.some.inj H
    have hnb30 := NB656_657.out
    have hnc30 := NB657_656.out
    obtain ⟨z31_0, z31_1, z31_2, z31_3, z31_4, z31_5, z31_6, z31_7⟩ := cz8 BK656.out
    obtain ⟨f31_0, f31_1, f31_2, f31_3, f31_4, f31_5, f31_6, f31_7⟩ := fz8 BK656.out
    obtain ⟨z32_0, z32_1, z32_2, z32_3, z32_4, z32_5, z32_6, z32_7⟩ := cz8 BK657.out
    obtain ⟨f32_0, f32_1, f32_2, f32_3, f32_4, f32_5, f32_6, f32_7⟩ := fz8 BK657.out
    go_wp2
    go_ret
    exact ⟨er_, qB HB⟩
  ·
   rw [if_neg c7] at H
   have c7b0 : (a0_1 == a1_1) = false := beq_eq_false_iff_ne.mpr c7
   have c7b1 : (a0_1 != a1_1) = true := bne_iff_ne.mpr c7
   obtain rfl := Option.some.inj H
   have hnb33 := NB656_657.out
   have hnc33 := NB657_656.out
   obtain ⟨z34_0, z34_1, z34_2, z34_3, z34_4, z34_5, z34_6, z34_7⟩ := cz8 BK656.out
   obtain ⟨f34_0, f34_1, f34_2, f34_3, f34_4, f34_5, f34_6, f34_7⟩ := fz8 BK656.out
   obtain ⟨z35_0, z35_1, z35_2, z35_3, z35_4, z35_5, z35_6, z35_7⟩ := cz8 BK657.out
   obtain ⟨f35_0, f35_1, f35_2, f35_3, f35_4, f35_5, f35_6, f35_7⟩ := fz8 BK657.out
   go_wp2
   go_ret
   exact ⟨er_, qB HB⟩
 ·
  rw [if_neg c6] at H
  have c6b0 : (a0_0 == a1_0) = false := beq_eq_false_iff_ne.mpr c6
  have c6b1 : (a0_0 != a1_0) = true := bne_iff_ne.mpr c6
  obtain rfl := Option.some.inj H
  have hnb36 := NB656_657.out
  have hnc36 := NB657_656.out
  obtain ⟨z37_0, z37_1, z37_2, z37_3, z37_4, z37_5, z37_6, z37_7⟩ := cz8 BK656.out
  obtain ⟨f37_0, f37_1, f37_2, f37_3, f37_4, f37_5, f37_6, f37_7⟩ := fz8 BK656.out
  obtain ⟨z38_0, z38_1, z38_2, z38_3, z38_4, z38_5, z38_6, z38_7⟩ := cz8 BK657.out
  obtain ⟨f38_0, f38_1, f38_2, f38_3, f38_4, f38_5, f38_6, f38_7⟩ := fz8 BK657.out
  go_wp2
  go_ret
  exact ⟨er_, qB HB⟩

/-! ### impl_Frames: function 30 -/
def impl_Frames.l0 : Nat → List Int → List (S47) → Option ((List (S47)) × Int)
 | 0, _, _ => none
 | k + 1, x0, x4 => if (x0.length : Int) > 0 then ((impl_GetFrame.f k x0).bind fun bt663 => (if bt663.2.2.2.2 = 0 then (if x4.length < 4398046511104 then (if 0 ≤ bt663.2.2.2.1 then (if bt663.2.2.2.1 ≤ (x0.length : Int) then (impl_Frames.l0 k (x0.drop (bt663.2.2.2.1 : Int).toNat) (x4 ++ [(⟨bt663.1, bt663.2.1, bt663.2.2.1⟩ : S47)])) else (none)) else (none)) else (none)) else (some (x4, bt663.2.2.2.2)))) else (some (x4, 0))
def impl_Frames.f (k : Nat) (l0 : List Int) : Option ((List (S47)) × Int) := impl_Frames.l0 k l0 (([] : List (S47)))
theorem impl_Frames.mono_l : ∀ k, (∀ y0 y1, LeO (impl_Frames.l0 k y0 y1) (impl_Frames.l0 (k + 1) y0 y1))
 | 0 => fun _ _ r h => by simp [impl_Frames.l0] at h
 | k + 1 => by
  have ih0 := impl_Frames.mono_l k
  ·
   intro y0 y1
   unfold impl_Frames.l0
   repeat' first
   | (with_reducible exact ih0 _ _)
   | (with_reducible exact impl_GetFrame.mono _ _)
   | (with_reducible exact LeO.refl _)
   | (with_reducible exact LeO.none _)
   | (with_reducible refine LeO.ite ?_ ?_)
   | (with_reducible refine LeO.bind ?_ (fun _ => ?_))
   | exact ih0 _ _
   | exact impl_GetFrame.mono _ _
   | exact LeO.none _
   | refine LeO.ite ?_ ?_
   | refine LeO.bind ?_ (fun _ => ?_)
theorem impl_Frames.mono : ∀ a0 k, LeO (impl_Frames.f k a0) (impl_Frames.f (k + 1) a0) := by
 intro a0 k
 have ih0 := impl_Frames.mono_l k
 unfold impl_Frames.f
 repeat' first
   | (with_reducible exact ih0 _ _)
   | (with_reducible exact impl_GetFrame.mono _ _)
   | (with_reducible exact LeO.refl _)
   | (with_reducible exact LeO.none _)
   | (with_reducible refine LeO.ite ?_ ?_)
   | (with_reducible refine LeO.bind ?_ (fun _ => ?_))
   | exact ih0 _ _
   | exact impl_GetFrame.mono _ _
   | exact LeO.none _
   | refine LeO.ite ?_ ?_
   | refine LeO.bind ?_ (fun _ => ?_)
set_option maxHeartbeats 8000000 in
set_option maxRecDepth 100000 in
theorem impl_Frames.calls (k : Nat) (P0_ : Nat → Prop) (A0 : Option Addr) (c0 : Nat) (l0 : List Int) (r1 : List (S47)) (r2 : Int) (w : World) (hs0 : Kd.V (Kd.int .u8) 5 w w.heap.size (fun k_ => P0_ k_) (.slice A0 l0.length c0) l0) (h : impl_Frames.f k l0 = some (r1, r2)) :
  Calls Try.prog 30 #[.slice A0 l0.length c0] w fun e w' => ∃ v0_ : Value, e = .returned (.tuple #[v0_, .int .i64 r2]) ∧ Kd.R k47 47 w' w.heap.size (fun k_ => (w.heap.size ≤ k_)) v0_ r1 ∧ Below w.heap.size w w' := by
 have hu47 := Try.underlying47
 have HO0 := Aside0.mk (show Kd.V (Kd.int .u8) 5 w w.heap.size (fun k_ => (P0_ k_ ∨ w.heap.size ≤ k_)) (.slice A0 l0.length c0) l0 from Kd.V_mono hs0 (fun k_ hk => .inl hk))
 have HB := Aside0.mk (Below.refl w.heap.size w)
 have H : (impl_Frames.l0 k l0 (([] : List (S47)))) = some (r1, r2) := h
 clear h
 obtain ⟨y660, hy660⟩ : ∃ y_ : List (S47), y_ = (([] : List (S47))) := ⟨_, rfl⟩
 rw [← hy660] at H
 have Ny660 := Aside0.mk hy660
 clear hy660
 have H' := Aside0.mk H
 clear H
 go_enter Try.func30, Try.ntmps30
 go_wp2_with (first | ((with_reducible refine gate_dst (N := 8) rfl ?_); refine Kd.R_lit k47 _ 47 ?hg (N := 8) ?hd (xs := ([] : List (S47))) (inner := []) (ok := fun _ => True) (okp := fun _ => True) ?hr ?hp (fun _ hk => hk) trivial (Below.refl _ _) (Nat.le_refl _) (by simp) ?_; (case hd => rfl); (case hg => rfl); (case hr => first | (go_simp; done) | (go_simp; rfl)); (case hp => exact (Reps.none _ _)); intro v661 w2 ho3 hb hg_ hnew_; clear hg_ hnew_; (first | rw [← Ny660.out] at ho3 | (simp only [Int.reduceToNat] at ho3; rw [← Ny660.out] at ho3)); replace HO0 := am_ (Kd.V_elder' (qV HO0) (Kd.R_base ho3) hb); have HO662 := am_ (Kd.R_lower (Kd.R_newM (M := fun k_ => (w.heap.size ≤ k_)) ho3 (below_size (qB HB)) (fun k_ h_ => h_)) (below_size (qB HB))); replace HB := am_ (below_step (qB HB) hb); clear hb ho3))
 go_loopg [0, 4] k (fun kq v0 v4 w' => ∃ (x0_1 : List Int) (x4_1 : List (S47)), Aside0 (impl_Frames.l0 kq x0_1 x4_1 = some (r1, r2)) ∧ Aside0 (kq ≤ k) ∧ Aside0 (Kd.V (Kd.int .u8) 5 w' w.heap.size (fun k_ => (P0_ k_ ∨ w.heap.size ≤ k_) ∧ some k_ ≠ (v4 : Value).ownBlock) v0 x0_1) ∧ Aside0 (Kd.R k47 47 w' w.heap.size (fun k_ => (w.heap.size ≤ k_)) v4 x4_1) ∧ Aside0 (Below w.heap.size w w'))
 case atStart => exact ⟨(l0), (y660), H', ⟨Nat.le_refl _⟩, ⟨qV HO0⟩, ⟨by (with_reducible repeat (first | apply Kd.R_alloc | apply Kd.R_drewN | apply Kd.R_drew)); exact Kd.R_mono HO662.out (fun _ hk => hk.1)⟩, ⟨qB HB⟩⟩
 case round =>
  clear H'
  try clear p2
  try clear c3
  obtain ⟨x0_1, x4_1, HA, HK1, HO_0, HO_4, HB⟩ := hrel
  cases gk with
  | zero => exact absurd HA.out (by simp [impl_Frames.l0])
  | succ k1 =>
   have H := HA.out
   clear HA
   simp only [impl_Frames.l0] at H
   by_cases c4 : (x0_1.length : Int) > 0
   ·
    rw [if_pos c4] at H
    have c4b0 : decide (0 < (x0_1.length : Int)) = true := decide_eq_true c4
    have c4b1 : decide (0 < x0_1.length) = true := decide_eq_true (by omega)
    clear c4
    obtain ⟨⟨t663, t664, t665, t666, t667⟩, A5, H⟩ := bd_ H
    (try dsimp only at H)
    have HC6 := Aside0.mk H
    clear H
    obtain ⟨Ao7, co7, eo7⟩ := Kd.V_slice HO_0.out
    subst eo7
    go_upto_if 19 with (first | ((with_reducible refine gate_callee (f := 28) rfl ?_); refine goesL_ (some 14) rfl rfl Try.func28 (by kernel_rfl) rfl #[.slice Ao7 x0_1.length co7] rfl la_ ?_; (with_reducible refine (impl_GetFrame.calls k1 _ _ x0_1 t663 t664 t665 t666 t667 _ ?side1 ?side2 A5.out).mono ?_); (case side1 => exact qC ((Kd.V_reads' HO_0.out).2.2)); (case side2 => exact (Kd.V_reads' HO_0.out).2.1); rintro e w8 ⟨rfl, hb⟩; refine ⟨_, rfl, ?_⟩; replace HO_0 := am_ (Kd.V_below (qV HO_0) hb); replace HO_4 := am_ (Kd.R_below (qR HO_4) hb); replace HB := am_ (below_step (qB HB) hb); (try clear hb); (try clear hb2); (try clear hk); (try clear hi)) | ((with_reducible refine gate_dst (N := 5) rfl ?_); refine box_event ?hg (N := 5) ?hd (cs := #[.int .i64 0, .string (⟨#[]⟩ : ByteArray), .int .i64 0]) (t := 47) ?hr ?_; (case hd => rfl); (case hg => rfl); (case hr => first | (go_simp; done) | (go_simp; rfl)); intro gb668 hg w9 hbox hb; replace HO_0 := am_ (Kd.V_below (Kd.V_elderB (qV HO_0) gb668 (Nat.le_of_eq hg.symm)) hb); replace HO_4 := am_ (Kd.R_below (Kd.R_elderB (qR HO_4) gb668 (Nat.le_of_eq hg.symm)) hb); have BK668 := am_ (hbox); have GW668 := am_ ((gG_ hg (qB HB))); have IGW668 := gI_ GW668; have GE668 := am_ ((gG_ hg (qB HB))); have IGE668 := gI_ GE668; replace HB := am_ (below_step (qB HB) hb); clear hb hbox hg; obtain ⟨z10_0, z10_1, z10_2⟩ := cz3 BK668.out; obtain ⟨f10_0, f10_1, f10_2⟩ := fz3 BK668.out))
    (try simp only [Act.put, List.setIfInBounds_toArray, List.set_cons_zero, List.set_cons_succ])
    have H := HC6.out
    clear HC6
    by_cases c11 : t667 = 0
    ·
     rw [if_pos c11] at H
     have c11b0 : (t667 == 0) = true := beq_iff_eq.mpr c11
     have c11b1 : (t667 != 0) = false := bne_eq_false_iff_eq.mpr c11
     clear c11
     (first | rw [c11b0] | rw [c11b1] | (simp only [i64_w, i32_w]; rw [c11b0]) | skip)
     by_cases c12 : x4_1.length < 4398046511104
     case neg => exact nn_ c12 H
     rw [if_pos c12] at H
     have LMc12 := Aside0.mk c12
     clear c12
     obtain ⟨y669, hy669⟩ : ∃ y_ : List (S47), y_ = (x4_1 ++ [(⟨t663, t664, t665⟩ : S47)]) := ⟨_, rfl⟩
     rw [← hy669] at H
     have Ny669 := Aside0.mk hy669
     clear hy669
     by_cases c13 : 0 ≤ t666
     case neg => exact nn_ c13 H
     rw [if_pos c13] at H
     have c13b0 := eq_true c13
     have c13b1 : decide (0 ≤ t666) = true := decide_eq_true c13
     clear c13
     by_cases c14 : t666 ≤ (x0_1.length : Int)
     case neg => exact nn_ c14 H
     rw [if_pos c14] at H
     have c14b0 := eq_true c14
     have c14b1 : decide (t666 ≤ (x0_1.length : Int)) = true := decide_eq_true c14
     clear c14
     obtain ⟨y672, hy672⟩ : ∃ y_ : List Int, y_ = (x0_1.drop (t666 : Int).toNat) := ⟨_, rfl⟩
     rw [← hy672] at H
     have Ny672 := Aside0.mk hy672
     clear hy672
     have H' := Aside0.mk H
     clear H
     obtain ⟨z15_0, z15_1, z15_2⟩ := cz3 BK668.out
     obtain ⟨f15_0, f15_1, f15_2⟩ := fz3 BK668.out
     go_wp2_with (first | ((with_reducible refine gate_builtin (b := .append) (xs := #[.tmp 22, .tmp 24]) rfl ?_); at_builtin; refine Kd.R_append k47 (w0 := w) w.heap.size rfl (.tmp 22) (.tmp 24) 51 47 (.agg #[(.int .i64 0), (.string ⟨#[]⟩), (.int .i64 0)]) 32 rfl Try.underlying51 info47 rfl (by decide) (by omega) u4 x4_1 (⟨t663, t664, t665⟩ : S47) [.int .i64 t663, .string t664, .int .i64 t665] (fun k_ => (w.heap.size ≤ k_) ∧ k_ ≠ gb668) (fun _ => False) rfl (by first | (go_simp; done) | (go_simp; rfl)) ?aP (fun _ hk => hk.elim) ?aF ?aO ?aB ?aS ?aL ?_; (case aP => exact k47_mkM _ _ _ (⟨t663, t664, t665⟩ : S47)); (case aB => exact (qB HB)); (case aF => exact (fun k_ hk => ⟨(Nat.le_trans (below_size (qB HB)) hk), Kd.freshB (g := gb668) (o := .cells #[.int .i64 t663, .string t664, .int .i64 t665] 47 (0, 0)) (by (with_reducible repeat (first | refine blk_drewN ?_ _ | refine blk_drew ?_ | refine blk_alloc ?_ _)); refine Go.Proofs.YtaimfkfpglhijaaV.blk_all3 (show _ = some (Go.Obj.cells #[.int .i64 0, .string (⟨#[]⟩ : ByteArray), .int .i64 0] _ (0, 0)) from ?_); exact qK BK668) k_ hk⟩)); (case aO => exact (by (with_reducible repeat (first | apply Kd.R_alloc | apply Kd.R_drewN | apply Kd.R_drew)); exact Kd.R_mono (Go.Proofs.YtaimfkfpglhijaaV.R_far3 (g := gb668) (Kd.R_mono HO_4.out (fun k_ hk => (⟨hk, hk.2⟩ : _ ∧ k_ ≠ gb668))) (fun _ hk => hk.2)) (fun _ hk => ⟨hk.1.1, hk.1.2⟩))); (case aS => exact (below_size (qB HB))); (case aL => have := LMc12.out; omega); intro v670 w16 ho hb hg hat; rw [← Ny669.out] at ho; replace HO_0 := am_ (Kd.V_afterv (ok := (fun k_ => (P0_ k_ ∨ w.heap.size ≤ k_) ∧ k_ ≠ gb668)) (by (with_reducible repeat (first | apply Kd.V_alloc | apply Kd.V_drewN | apply Kd.V_drew)); exact Kd.V_mono (Kd.V_far (p := ⟨gb668, 2, none⟩) (Kd.V_far (p := ⟨gb668, 1, none⟩) (Kd.V_far (p := ⟨gb668, 0, none⟩) (Kd.V_mono HO_0.out (fun k_ hk => (⟨hk, hk.2⟩ : _ ∧ k_ ≠ gb668))) (fun _ hk => hk.2) (.int .i64 t663)) (fun _ hk => hk.2) (.string t664)) (fun _ hk => hk.2) (.int .i64 t665)) (fun _ hk => ⟨⟨hk.1.1.1, hk.1.2⟩, hk.1.1.2⟩)) hg hat); replace BK668 := am_ (blk_grown (g := gb668) (o := .cells #[.int .i64 t663, .string t664, .int .i64 t665] 47 (0, 0)) (by (with_reducible repeat (first | refine blk_drewN ?_ _ | refine blk_drew ?_ | refine blk_alloc ?_ _)); refine Go.Proofs.YtaimfkfpglhijaaV.blk_all3 (show _ = some (Go.Obj.cells #[.int .i64 0, .string (⟨#[]⟩ : ByteArray), .int .i64 0] _ (0, 0)) from ?_); exact qK BK668) hg (Kd.R_away HO_4.out (fun _ hk => hk.2))); replace HB := am_ (hb); have HO671 := am_ (ho); clear HO_4; clear ho hb hg hat; have q17 : (t666 : Int) ≤ ((x0_1.length : Int) : Int) := od_; obtain ⟨i017, hi017, _, hsz17, _⟩ := info_parts info5; have hroom17 : x0_1.length ≤ co7 := (Kd.V_reads' HO_0.out).2.1; have hC17 : Kd.F (Kd.int .u8) _ _ Ao7 x0_1.length x0_1 := (Kd.V_at (base := w.heap.size) HO_0.out).2.2; have q017 : (0 : Int) ≤ (t666 : Int) := od_; have hcut17 := cut_from (P := Try.prog) 22 5 .i64 Try.underlying22 hi017 1 hsz17 Ao7 x0_1.length co7 t666 q017 q17; have hr17 := Kd.F_cut (m := (t666 : Int).toNat) (c := co7) hC17 (by omega) hroom17; obtain ⟨A17, hA17⟩ : ∃ A1, A1 = (if co7 = (t666 : Int).toNat then Ao7 else (Ao7 : Option Addr).map (·.add ((t666 : Int).toNat * 1))) := ⟨_, rfl⟩; obtain ⟨c17, hc17⟩ : ∃ c1, c1 = co7 - (t666 : Int).toNat := ⟨_, rfl⟩; have hy17 : y672.length = x0_1.length - (t666 : Int).toNat := (by rw [Ny672.out, List.length_drop] <;> omega); rw [show (x0_1).drop (t666 : Int).toNat = y672 from Ny672.out.symm] at hr17; replace hr17 : Kd.F (Kd.int .u8) _ _ A17 y672.length y672 := (by rw [hA17]; exact hr17); rw [← hy17, ← hA17, ← hc17] at hcut17; have HO676 := Aside0.mk (show Kd.V (Kd.int .u8) 5 _ w.heap.size _ (.slice A17 y672.length c17) y672 from Kd.V_mk (by rw [hy17, hc17]; exact Nat.sub_le_sub_right hroom17 _) hr17); have HC676 := Aside0.mk (show y672.length ≤ c17 from by rw [hy17, hc17]; exact Nat.sub_le_sub_right hroom17 _); clear hr17 hC17 hroom17 hi017 hsz17 hc17; have KY17 := Aside0.mk hy17; have KA17 := Aside0.mk hA17; clear hy17 hA17; replace q17 := eq_true q17))
     go_roundg k1
     case measure => have := HK1.out; omega
     case rel => exact ⟨(y672), (y669), H', ⟨by have := HK1.out; omega⟩, ⟨by (with_reducible repeat (first | apply Kd.V_alloc | apply Kd.V_drewN | apply Kd.V_drew)); exact Kd.V_mono HO676.out (fun _ hk => ⟨hk.1.1, hk.2⟩)⟩, ⟨by (with_reducible repeat (first | apply Kd.R_alloc | apply Kd.R_drewN | apply Kd.R_drew)); exact Kd.R_mono HO671.out (fun _ hk => hk.1)⟩, ⟨qB HB⟩⟩
    ·
     rw [if_neg c11] at H
     have c11b0 : (t667 == 0) = false := beq_eq_false_iff_ne.mpr c11
     have c11b1 : (t667 != 0) = true := bne_iff_ne.mpr c11
     (first | rw [c11b0] | rw [c11b1] | (simp only [i64_w, i32_w]; rw [c11b0]) | skip)
     simp only [Option.some.injEq, Prod.mk.injEq] at H
     obtain ⟨rfl, rfl⟩ := H
     go_wp2
     go_ret2
     exact ⟨_, er_, by (with_reducible repeat (first | apply Kd.R_alloc | apply Kd.R_drewN | apply Kd.R_drew)); exact Kd.R_mono (Go.Proofs.YtaimfkfpglhijaaV.R_far3 (g := gb668) (Kd.R_mono HO_4.out (fun k_ hk => (⟨hk, hk.2⟩ : _ ∧ k_ ≠ gb668))) (fun _ hk => hk.2)) (fun _ hk => hk.1.1), qB HB⟩
   ·
    rw [if_neg c4] at H
    have c4b0 : decide (0 < (x0_1.length : Int)) = false := decide_eq_false c4
    have c4b1 : decide (0 < x0_1.length) = false := decide_eq_false (by omega)
    clear c4
    simp only [Option.some.injEq, Prod.mk.injEq] at H
    obtain ⟨rfl, rfl⟩ := H
    obtain ⟨Ao18, co18, eo18⟩ := Kd.V_slice HO_0.out
    subst eo18
    go_wp2
    go_ret2
    exact ⟨_, er_, qR HO_4, qB HB⟩

end Go.Proofs.Ytaimfkfpglhijaa.PFnFar
