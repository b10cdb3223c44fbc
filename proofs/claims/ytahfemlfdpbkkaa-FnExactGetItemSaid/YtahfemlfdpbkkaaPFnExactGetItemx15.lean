-- Written by a program of this session (myprint.py, over the kit's print): contracts of FnExactGetItem
import Derived.Test.YtahfemlfdpbkkaaPFnExactGetItemx0
namespace Go.Proofs.Ytahfemlfdpbkkaa.PFnExactGetItem
open Go.RowKit Go.Proofs.YtahfemlfdpbkkaaW.PrintWords Go.Proofs.YtahfemlfdpbkkaaW.PrintLast Go.Proofs.YtahfemlfdpbkkaaW.PrintMore Go.Proofs.YtahfemlfdpbkkaaV
attribute [local go_sem] max2_int min2_int max_two min_two max_three min_three max_four min_four   -- for this text's walks alone
set_option linter.unusedVariables false
set_option linter.unusedSimpArgs false

/-! ### laws_eqAsker: function 107 -/
def laws_eqAsker.f (a0_0 : Int) (a0_1 : ByteArray) (a0_2 : Int) (a0_3 : Int) (a0_4 : Int) (a0_5 : ByteArray) (a0_6 : Int) (a0_7 : Int) (a1_0 : Int) (a1_1 : ByteArray) (a1_2 : Int) (a1_3 : Int) (a1_4 : Int) (a1_5 : ByteArray) (a1_6 : Int) (a1_7 : Int) : Option (Bool) := if a0_0 = a1_0 then (if a0_1.toList = a1_1.toList then (if a0_2 = a1_2 then (if a0_3 = a1_3 then (if a0_4 = a1_4 then (if a0_5.toList = a1_5.toList then (if a0_6 = a1_6 then (if a0_7 = a1_7 then (some true) else (some false)) else (some false)) else (some false)) else (some false)) else (some false)) else (some false)) else (some false)) else (some false)
set_option maxHeartbeats 8000000 in
set_option maxRecDepth 100000 in
theorem laws_eqAsker.calls (a0_0 : Int) (a0_1 : ByteArray) (a0_2 : Int) (a0_3 : Int) (a0_4 : Int) (a0_5 : ByteArray) (a0_6 : Int) (a0_7 : Int) (a1_0 : Int) (a1_1 : ByteArray) (a1_2 : Int) (a1_3 : Int) (a1_4 : Int) (a1_5 : ByteArray) (a1_6 : Int) (a1_7 : Int) (r : Bool) (w : World) (h : laws_eqAsker.f a0_0 a0_1 a0_2 a0_3 a0_4 a0_5 a0_6 a0_7 a1_0 a1_1 a1_2 a1_3 a1_4 a1_5 a1_6 a1_7 = some r) :
  Calls Try.prog 107 #[.agg #[.int .i64 a0_0, .string a0_1, .int .i64 a0_2, .int .i64 a0_3, .int .i64 a0_4, .string a0_5, .int .i64 a0_6, .int .i64 a0_7], .agg #[.int .i64 a1_0, .string a1_1, .int .i64 a1_2, .int .i64 a1_3, .int .i64 a1_4, .string a1_5, .int .i64 a1_6, .int .i64 a1_7]] w fun e w' => e = .returned (.bool r) ∧ Below w.heap.size w w' := by
 have hu45 := Try.underlying45
 have HB := Aside0.mk (Below.refl w.heap.size w)
 have H : (if a0_0 = a1_0 then (if a0_1.toList = a1_1.toList then (if a0_2 = a1_2 then (if a0_3 = a1_3 then (if a0_4 = a1_4 then (if a0_5.toList = a1_5.toList then (if a0_6 = a1_6 then (if a0_7 = a1_7 then (some true) else (some false)) else (some false)) else (some false)) else (some false)) else (some false)) else (some false)) else (some false)) else (some false)) = some r := h
 clear h
 have HC3 := Aside0.mk H
 clear H
 go_enter Try.func107, Try.ntmps107
 go_upto_if 9 with (first | ((with_reducible refine gate_dst (N := 2) rfl ?_); refine box_event ?hg (N := 2) ?hd (cs := #[.int .i64 a0_0, .string a0_1, .int .i64 a0_2, .int .i64 a0_3, .int .i64 a0_4, .string a0_5, .int .i64 a0_6, .int .i64 a0_7]) (t := 45) ?hr ?_; (case hd => rfl); (case hg => rfl); (case hr => first | (go_simp; done) | (go_simp; rfl)); intro gb464 hg w4 hbox hb; have BK464 := am_ (hbox); have GW464 := am_ ((gG_ hg (qB HB))); have IGW464 := gI_ GW464; have GE464 := am_ ((gG_ hg (qB HB))); have IGE464 := gI_ GE464; replace HB := am_ (below_step (qB HB) hb); clear hb hbox hg) | ((with_reducible refine gate_dst (N := 3) rfl ?_); refine box_event ?hg (N := 3) ?hd (cs := #[.int .i64 a1_0, .string a1_1, .int .i64 a1_2, .int .i64 a1_3, .int .i64 a1_4, .string a1_5, .int .i64 a1_6, .int .i64 a1_7]) (t := 45) ?hr ?_; (case hd => rfl); (case hg => rfl); (case hr => first | (go_simp; done) | (go_simp; rfl)); intro gb465 hg w5 hbox hb; have BK465 := am_ (hbox); have GW465 := am_ ((gG_ hg (qB HB))); have IGW465 := gI_ GW465; have GE465 := am_ ((gG_ hg (qB HB))); have IGE465 := gI_ GE465; replace HB := am_ (below_step (qB HB) hb); have NB464_465 := am_ ((gN_ hg (qK BK464))); have NB465_464 := am_ ((gM_ hg (qK BK464))); replace BK464 := am_ (blk_below (qK BK464) hb); clear hb hbox hg; have hnb6 := NB464_465.out; have hnc6 := NB465_464.out; obtain ⟨z7_0, z7_1, z7_2, z7_3, z7_4, z7_5, z7_6, z7_7⟩ := cz8 BK464.out; obtain ⟨f7_0, f7_1, f7_2, f7_3, f7_4, f7_5, f7_6, f7_7⟩ := fz8 BK464.out; obtain ⟨z8_0, z8_1, z8_2, z8_3, z8_4, z8_5, z8_6, z8_7⟩ := cz8 BK465.out; obtain ⟨f8_0, f8_1, f8_2, f8_3, f8_4, f8_5, f8_6, f8_7⟩ := fz8 BK465.out))
 (try simp only [Act.put, List.setIfInBounds_toArray, List.set_cons_zero, List.set_cons_succ])
 have H := HC3.out
 clear HC3
 by_cases c9 : a0_0 = a1_0
 ·
  rw [if_pos c9] at H
  have c9b0 : (a0_0 == a1_0) = true := beq_iff_eq.mpr c9
  have c9b1 : (a0_0 != a1_0) = false := bne_eq_false_iff_eq.mpr c9
  clear c9
  (first | rw [c9b0] | rw [c9b1] | (simp only [i64_w, i32_w]; rw [c9b0]) | skip)
  by_cases c10 : a0_1.toList = a1_1.toList
  ·
   rw [if_pos c10] at H
   have c10b0 : (a0_1.toList == a1_1.toList) = true := beq_iff_eq.mpr c10
   have c10b1 : (a0_1.toList != a1_1.toList) = false := bne_eq_false_iff_eq.mpr c10
   clear c10
   by_cases c11 : a0_2 = a1_2
   ·
    rw [if_pos c11] at H
    have c11b0 : (a0_2 == a1_2) = true := beq_iff_eq.mpr c11
    have c11b1 : (a0_2 != a1_2) = false := bne_eq_false_iff_eq.mpr c11
    clear c11
    by_cases c12 : a0_3 = a1_3
    ·
     rw [if_pos c12] at H
     have c12b0 : (a0_3 == a1_3) = true := beq_iff_eq.mpr c12
     have c12b1 : (a0_3 != a1_3) = false := bne_eq_false_iff_eq.mpr c12
     clear c12
     by_cases c13 : a0_4 = a1_4
     ·
      rw [if_pos c13] at H
      have c13b0 : (a0_4 == a1_4) = true := beq_iff_eq.mpr c13
      have c13b1 : (a0_4 != a1_4) = false := bne_eq_false_iff_eq.mpr c13
      clear c13
      by_cases c14 : a0_5.toList = a1_5.toList
      ·
       rw [if_pos c14] at H
       have c14b0 : (a0_5.toList == a1_5.toList) = true := beq_iff_eq.mpr c14
       have c14b1 : (a0_5.toList != a1_5.toList) = false := bne_eq_false_iff_eq.mpr c14
       clear c14
       by_cases c15 : a0_6 = a1_6
       ·
        rw [if_pos c15] at H
        have c15b0 : (a0_6 == a1_6) = true := beq_iff_eq.mpr c15
        have c15b1 : (a0_6 != a1_6) = false := bne_eq_false_iff_eq.mpr c15
        clear c15
        by_cases c16 : a0_7 = a1_7
        ·
         rw [if_pos c16] at H
         have c16b0 : (a0_7 == a1_7) = true := beq_iff_eq.mpr c16
         have c16b1 : (a0_7 != a1_7) = false := bne_eq_false_iff_eq.mpr c16
         clear c16
         obtain rfl := Option.some.inj H
         have hnb17 := NB464_465.out
         have hnc17 := NB465_464.out
         obtain ⟨z18_0, z18_1, z18_2, z18_3, z18_4, z18_5, z18_6, z18_7⟩ := cz8 BK464.out
         obtain ⟨f18_0, f18_1, f18_2, f18_3, f18_4, f18_5, f18_6, f18_7⟩ := fz8 BK464.out
         obtain ⟨z19_0, z19_1, z19_2, z19_3, z19_4, z19_5, z19_6, z19_7⟩ := cz8 BK465.out
         obtain ⟨f19_0, f19_1, f19_2, f19_3, f19_4, f19_5, f19_6, f19_7⟩ := fz8 BK465.out
         go_wp2
         go_ret
         exact ⟨by first | rfl | (simp [errW_none, errW_some] <;> rfl) | (simp [*, errW_none, errW_some] <;> rfl), qB HB⟩
        ·
         rw [if_neg c16] at H
         have c16b0 : (a0_7 == a1_7) = false := beq_eq_false_iff_ne.mpr c16
         have c16b1 : (a0_7 != a1_7) = true := bne_iff_ne.mpr c16
         obtain rfl := Option.some.inj H
         have hnb20 := NB464_465.out
         have hnc20 := NB465_464.out
         obtain ⟨z21_0, z21_1, z21_2, z21_3, z21_4, z21_5, z21_6, z21_7⟩ := cz8 BK464.out
         obtain ⟨f21_0, f21_1, f21_2, f21_3, f21_4, f21_5, f21_6, f21_7⟩ := fz8 BK464.out
         obtain ⟨z22_0, z22_1, z22_2, z22_3, z22_4, z22_5, z22_6, z22_7⟩ := cz8 BK465.out
         obtain ⟨f22_0, f22_1, f22_2, f22_3, f22_4, f22_5, f22_6, f22_7⟩ := fz8 BK465.out
         go_wp2
         go_ret
         exact ⟨by first | rfl | (simp [errW_none, errW_some] <;> rfl) | (simp [*, errW_none, errW_some] <;> rfl), qB HB⟩
       ·
        rw [if_neg c15] at H
        have c15b0 : (a0_6 == a1_6) = false := beq_eq_false_iff_ne.mpr c15
        have c15b1 : (a0_6 != a1_6) = true := bne_iff_ne.mpr c15
        obtain rfl := Option.some.inj H
        have hnb23 := NB464_465.out
        have hnc23 := NB465_464.out
        obtain ⟨z24_0, z24_1, z24_2, z24_3, z24_4, z24_5, z24_6, z24_7⟩ := cz8 BK464.out
        obtain ⟨f24_0, f24_1, f24_2, f24_3, f24_4, f24_5, f24_6, f24_7⟩ := fz8 BK464.out
        obtain ⟨z25_0, z25_1, z25_2, z25_3, z25_4, z25_5, z25_6, z25_7⟩ := cz8 BK465.out
        obtain ⟨f25_0, f25_1, f25_2, f25_3, f25_4, f25_5, f25_6, f25_7⟩ := fz8 BK465.out
        go_wp2
        go_ret
        exact ⟨by first | rfl | (simp [errW_none, errW_some] <;> rfl) | (simp [*, errW_none, errW_some] <;> rfl), qB HB⟩
      ·
       rw [if_neg c14] at H
       have c14b0 : (a0_5.toList == a1_5.toList) = false := beq_eq_false_iff_ne.mpr c14
       have c14b1 : (a0_5.toList != a1_5.toList) = true := bne_iff_ne.mpr c14
       obtain rfl := Option.some.inj H
       have hnb26 := NB464_465.out
       have hnc26 := NB465_464.out
       obtain ⟨z27_0, z27_1, z27_2, z27_3, z27_4, z27_5, z27_6, z27_7⟩ := cz8 BK464.out
       obtain ⟨f27_0, f27_1, f27_2, f27_3, f27_4, f27_5, f27_6, f27_7⟩ := fz8 BK464.out
       obtain ⟨z28_0, z28_1, z28_2, z28_3, z28_4, z28_5, z28_6, z28_7⟩ := cz8 BK465.out
       obtain ⟨f28_0, f28_1, f28_2, f28_3, f28_4, f28_5, f28_6, f28_7⟩ := fz8 BK465.out
       go_wp2
       go_ret
       exact ⟨by first | rfl | (simp [errW_none, errW_some] <;> rfl) | (simp [*, errW_none, errW_some] <;> rfl), qB HB⟩
     ·
      rw [if_neg c13] at H
      have c13b0 : (a0_4 == a1_4) = false := beq_eq_false_iff_ne.mpr c13
      have c13b1 : (a0_4 != a1_4) = true := bne_iff_ne.mpr c13
      obtain rfl := Option.some.inj H
      have hnb29 := NB464_465.out
      have hnc29 := NB465_464.out
      obtain ⟨z30_0, z30_1, z30_2, z30_3, z30_4, z30_5, z30_6, z30_7⟩ := cz8 BK464.out
      obtain ⟨f30_0, f30_1, f30_2, f30_3, f30_4, f30_5, f30_6, f30_7⟩ := fz8 BK464.out
      obtain ⟨z31_0, z31_1, z31_2, z31_3, z31_4, z31_5, z31_6, z31_7⟩ := cz8 BK465.out
      obtain ⟨f31_0, f31_1, f31_2, f31_3, f31_4, f31_5, f31_6, f31_7⟩ := fz8 BK465.out
      go_wp2
      go_ret
      exact ⟨by first | rfl | (simp [errW_none, errW_some] <;> rfl) | (simp [*, errW_none, errW_some] <;> rfl), qB HB⟩
    ·
     rw [if_neg c12] at H
     have c12b0 : (a0_3 == a1_3) = false := beq_eq_false_iff_ne.mpr c12
     have c12b1 : (a0_3 != a1_3) = true := bne_iff_ne.mpr c12
     obtain rfl := Option.some.inj H
     have hnb32 := NB464_465.out
     have hnc32 := NB465_464.out
     obtain ⟨z33_0, z33_1, z33_2, z33_3, z33_4, z33_5, z33_6, z33_7⟩ := cz8 BK464.out
     obtain ⟨f33_0, f33_1, f33_2, f33_3, f33_4, f33_5, f33_6, f33_7⟩ := fz8 BK464.out
     obtain ⟨z34_0, z34_1, z34_2, z34_3, z34_4, z34_5, z34_6, z34_7⟩ := cz8 BK465.out
     obtain ⟨f34_0, f34_1, f34_2, f34_3, f34_4, f34_5, f34_6, f34_7⟩ := fz8 BK465.out
     go_wp2
     go_ret
     exact ⟨by first | rfl | (simp [errW_none, errW_some] <;> rfl) | (simp [*, errW_none, errW_some] <;> rfl), qB HB⟩
   ·
    rw [if_neg c11] at H
    have c11b0 : (a0_2 == a1_2) = false := beq_eq_false_iff_ne.mpr c11
    have c11b1 : (a0_2 != a1_2) = true := bne_iff_ne.mpr c11
    obtain rfl := Option.some.inj H
    have hnb35 := NB464_465.out
    have hnc35 := NB465_464.out
    obtain ⟨z36_0, z36_1, z36_2, z36_3, z36_4, z36_5, z36_6, z36_7⟩ := cz8 BK464.out
    obtain ⟨f36_0, f36_1, f36_2, f36_3, f36_4, f36_5, f36_6, f36_7⟩ := fz8 BK464.out
    obtain ⟨z37_0, z37_1, z37_2, z37_3, z37_4, z37_5, z37_6, z37_7⟩ := cz8 BK465.out
    obtain ⟨f37_0, f37_1, f37_2, f37_3, f37_4, f37_5, f37_6, f37_7⟩ := fz8 BK465.out
    go_wp2
    go_ret
    exact ⟨by first | rfl | (simp [errW_none, errW_some] <;> rfl) | (simp [*, errW_none, errW_some] <;> rfl), qB HB⟩
  ·
   rw [if_neg c10] at H
   have c10b0 : (a0_1.toList == a1_1.toList) = false := beq_eq_false_iff_ne.mpr c10
   have c10b1 : (a0_1.toList != a1_1.toList) = true := bne_iff_ne.mpr c10
   obtain rfl := Option.some.inj H
   have hnb38 := NB464_465.out
   have hnc38 := NB465_464.out
   obtain ⟨z39_0, z39_1, z39_2, z39_3, z39_4, z39_5, z39_6, z39_7⟩ := cz8 BK464.out
   obtain ⟨f39_0, f39_1, f39_2, f39_3, f39_4, f39_5, f39_6, f39_7⟩ := fz8 BK464.out
   obtain ⟨z40_0, z40_1, z40_2, z40_3, z40_4, z40_5, z40_6, z40_7⟩ := cz8 BK465.out
   obtain ⟨f40_0, f40_1, f40_2, f40_3, f40_4, f40_5, f40_6, f40_7⟩ := fz8 BK465.out
   go_wp2
   go_ret
   exact ⟨by first | rfl | (simp [errW_none, errW_some] <;> rfl) | (simp [*, errW_none, errW_some] <;> rfl), qB HB⟩
 ·
  rw [if_neg c9] at H
  have c9b0 : (a0_0 == a1_0) = false := beq_eq_false_iff_ne.mpr c9
  have c9b1 : (a0_0 != a1_0) = true := bne_iff_ne.mpr c9
  (first | rw [c9b0] | rw [c9b1] | (simp only [i64_w, i32_w]; rw [c9b0]) | skip)
  obtain rfl := Option.some.inj H
  go_wp2
  go_ret
  exact ⟨by first | rfl | (simp [errW_none, errW_some] <;> rfl) | (simp [*, errW_none, errW_some] <;> rfl), qB HB⟩

/-! ### laws_eqLine: function 108 -/
def laws_eqLine.f (a0_0 : Int) (a0_1 : ByteArray) (a0_2 : Int) (a0_3 : Int) (a0_4 : Int) (a0_5 : Int) (a0_6 : Int) (a1_0 : Int) (a1_1 : ByteArray) (a1_2 : Int) (a1_3 : Int) (a1_4 : Int) (a1_5 : Int) (a1_6 : Int) : Option (Bool) := if a0_0 = a1_0 then (if a0_1.toList = a1_1.toList then (if a0_2 = a1_2 then (if a0_3 = a1_3 then (if a0_4 = a1_4 then (if a0_5 = a1_5 then (if a0_6 = a1_6 then (some true) else (some false)) else (some false)) else (some false)) else (some false)) else (some false)) else (some false)) else (some false)
set_option maxHeartbeats 8000000 in
set_option maxRecDepth 100000 in
theorem laws_eqLine.calls (a0_0 : Int) (a0_1 : ByteArray) (a0_2 : Int) (a0_3 : Int) (a0_4 : Int) (a0_5 : Int) (a0_6 : Int) (a1_0 : Int) (a1_1 : ByteArray) (a1_2 : Int) (a1_3 : Int) (a1_4 : Int) (a1_5 : Int) (a1_6 : Int) (r : Bool) (w : World) (h : laws_eqLine.f a0_0 a0_1 a0_2 a0_3 a0_4 a0_5 a0_6 a1_0 a1_1 a1_2 a1_3 a1_4 a1_5 a1_6 = some r) :
  Calls Try.prog 108 #[.agg #[.int .i64 a0_0, .string a0_1, .int .i64 a0_2, .int .i64 a0_3, .int .i64 a0_4, .int .i64 a0_5, .int .i64 a0_6], .agg #[.int .i64 a1_0, .string a1_1, .int .i64 a1_2, .int .i64 a1_3, .int .i64 a1_4, .int .i64 a1_5, .int .i64 a1_6]] w fun e w' => e = .returned (.bool r) ∧ Below w.heap.size w w' := by
 have hu46 := Try.underlying46
 have HB := Aside0.mk (Below.refl w.heap.size w)
 have H : (if a0_0 = a1_0 then (if a0_1.toList = a1_1.toList then (if a0_2 = a1_2 then (if a0_3 = a1_3 then (if a0_4 = a1_4 then (if a0_5 = a1_5 then (if a0_6 = a1_6 then (some true) else (some false)) else (some false)) else (some false)) else (some false)) else (some false)) else (some false)) else (some false)) = some r := h
 clear h
 have HC3 := Aside0.mk H
 clear H
 go_enter Try.func108, Try.ntmps108
 go_upto_if 9 with (first | ((with_reducible refine gate_dst (N := 2) rfl ?_); refine box_event ?hg (N := 2) ?hd (cs := #[.int .i64 a0_0, .string a0_1, .int .i64 a0_2, .int .i64 a0_3, .int .i64 a0_4, .int .i64 a0_5, .int .i64 a0_6]) (t := 46) ?hr ?_; (case hd => rfl); (case hg => rfl); (case hr => first | (go_simp; done) | (go_simp; rfl)); intro gb466 hg w4 hbox hb; have BK466 := am_ (hbox); have GW466 := am_ ((gG_ hg (qB HB))); have IGW466 := gI_ GW466; have GE466 := am_ ((gG_ hg (qB HB))); have IGE466 := gI_ GE466; replace HB := am_ (below_step (qB HB) hb); clear hb hbox hg) | ((with_reducible refine gate_dst (N := 3) rfl ?_); refine box_event ?hg (N := 3) ?hd (cs := #[.int .i64 a1_0, .string a1_1, .int .i64 a1_2, .int .i64 a1_3, .int .i64 a1_4, .int .i64 a1_5, .int .i64 a1_6]) (t := 46) ?hr ?_; (case hd => rfl); (case hg => rfl); (case hr => first | (go_simp; done) | (go_simp; rfl)); intro gb467 hg w5 hbox hb; have BK467 := am_ (hbox); have GW467 := am_ ((gG_ hg (qB HB))); have IGW467 := gI_ GW467; have GE467 := am_ ((gG_ hg (qB HB))); have IGE467 := gI_ GE467; replace HB := am_ (below_step (qB HB) hb); have NB466_467 := am_ ((gN_ hg (qK BK466))); have NB467_466 := am_ ((gM_ hg (qK BK466))); replace BK466 := am_ (blk_below (qK BK466) hb); clear hb hbox hg; have hnb6 := NB466_467.out; have hnc6 := NB467_466.out; obtain ⟨z7_0, z7_1, z7_2, z7_3, z7_4, z7_5, z7_6⟩ := cz7 BK466.out; obtain ⟨f7_0, f7_1, f7_2, f7_3, f7_4, f7_5, f7_6⟩ := fz7 BK466.out; obtain ⟨z8_0, z8_1, z8_2, z8_3, z8_4, z8_5, z8_6⟩ := cz7 BK467.out; obtain ⟨f8_0, f8_1, f8_2, f8_3, f8_4, f8_5, f8_6⟩ := fz7 BK467.out))
 (try simp only [Act.put, List.setIfInBounds_toArray, List.set_cons_zero, List.set_cons_succ])
 have H := HC3.out
 clear HC3
 by_cases c9 : a0_0 = a1_0
 ·
  rw [if_pos c9] at H
  have c9b0 : (a0_0 == a1_0) = true := beq_iff_eq.mpr c9
  have c9b1 : (a0_0 != a1_0) = false := bne_eq_false_iff_eq.mpr c9
  clear c9
  (first | rw [c9b0] | rw [c9b1] | (simp only [i64_w, i32_w]; rw [c9b0]) | skip)
  by_cases c10 : a0_1.toList = a1_1.toList
  ·
   rw [if_pos c10] at H
   have c10b0 : (a0_1.toList == a1_1.toList) = true := beq_iff_eq.mpr c10
   have c10b1 : (a0_1.toList != a1_1.toList) = false := bne_eq_false_iff_eq.mpr c10
   clear c10
   by_cases c11 : a0_2 = a1_2
   ·
    rw [if_pos c11] at H
    have c11b0 : (a0_2 == a1_2) = true := beq_iff_eq.mpr c11
    have c11b1 : (a0_2 != a1_2) = false := bne_eq_false_iff_eq.mpr c11
    clear c11
    by_cases c12 : a0_3 = a1_3
    ·
     rw [if_pos c12] at H
     have c12b0 : (a0_3 == a1_3) = true := beq_iff_eq.mpr c12
     have c12b1 : (a0_3 != a1_3) = false := bne_eq_false_iff_eq.mpr c12
     clear c12
     by_cases c13 : a0_4 = a1_4
     ·
      rw [if_pos c13] at H
      have c13b0 : (a0_4 == a1_4) = true := beq_iff_eq.mpr c13
      have c13b1 : (a0_4 != a1_4) = false := bne_eq_false_iff_eq.mpr c13
      clear c13
      by_cases c14 : a0_5 = a1_5
      ·
       rw [if_pos c14] at H
       have c14b0 : (a0_5 == a1_5) = true := beq_iff_eq.mpr c14
       have c14b1 : (a0_5 != a1_5) = false := bne_eq_false_iff_eq.mpr c14
       clear c14
       by_cases c15 : a0_6 = a1_6
       ·
        rw [if_pos c15] at H
        have c15b0 : (a0_6 == a1_6) = true := beq_iff_eq.mpr c15
        have c15b1 : (a0_6 != a1_6) = false := bne_eq_false_iff_eq.mpr c15
        clear c15
        obtain rfl := Option.some.inj H
        have hnb16 := NB466_467.out
        have hnc16 := NB467_466.out
        obtain ⟨z17_0, z17_1, z17_2, z17_3, z17_4, z17_5, z17_6⟩ := cz7 BK466.out
        obtain ⟨f17_0, f17_1, f17_2, f17_3, f17_4, f17_5, f17_6⟩ := fz7 BK466.out
        obtain ⟨z18_0, z18_1, z18_2, z18_3, z18_4, z18_5, z18_6⟩ := cz7 BK467.out
        obtain ⟨f18_0, f18_1, f18_2, f18_3, f18_4, f18_5, f18_6⟩ := fz7 BK467.out
        go_wp2
        go_ret
        exact ⟨by first | rfl | (simp [errW_none, errW_some] <;> rfl) | (simp [*, errW_none, errW_some] <;> rfl), qB HB⟩
       ·
        rw [if_neg c15] at H
        have c15b0 : (a0_6 == a1_6) = false := beq_eq_false_iff_ne.mpr c15
        have c15b1 : (a0_6 != a1_6) = true := bne_iff_ne.mpr c15
        obtain rfl := Option.some.inj H
        have hnb19 := NB466_467.out
        have hnc19 := NB467_466.out
        obtain ⟨z20_0, z20_1, z20_2, z20_3, z20_4, z20_5, z20_6⟩ := cz7 BK466.out
        obtain ⟨f20_0, f20_1, f20_2, f20_3, f20_4, f20_5, f20_6⟩ := fz7 BK466.out
        obtain ⟨z21_0, z21_1, z21_2, z21_3, z21_4, z21_5, z21_6⟩ := cz7 BK467.out
        obtain ⟨f21_0, f21_1, f21_2, f21_3, f21_4, f21_5, f21_6⟩ := fz7 BK467.out
        go_wp2
        go_ret
        exact ⟨by first | rfl | (simp [errW_none, errW_some] <;> rfl) | (simp [*, errW_none, errW_some] <;> rfl), qB HB⟩
      ·
       rw [if_neg c14] at H
       have c14b0 : (a0_5 == a1_5) = false := beq_eq_false_iff_ne.mpr c14
       have c14b1 : (a0_5 != a1_5) = true := bne_iff_ne.mpr c14
       obtain rfl := Option.some.inj H
       have hnb22 := NB466_467.out
       have hnc22 := NB467_466.out
       obtain ⟨z23_0, z23_1, z23_2, z23_3, z23_4, z23_5, z23_6⟩ := cz7 BK466.out
       obtain ⟨f23_0, f23_1, f23_2, f23_3, f23_4, f23_5, f23_6⟩ := fz7 BK466.out
       obtain ⟨z24_0, z24_1, z24_2, z24_3, z24_4, z24_5, z24_6⟩ := cz7 BK467.out
       obtain ⟨f24_0, f24_1, f24_2, f24_3, f24_4, f24_5, f24_6⟩ := fz7 BK467.out
       go_wp2
       go_ret
       exact ⟨by first | rfl | (simp [errW_none, errW_some] <;> rfl) | (simp [*, errW_none, errW_some] <;> rfl), qB HB⟩
     ·
      rw [if_neg c13] at H
      have c13b0 : (a0_4 == a1_4) = false := beq_eq_false_iff_ne.mpr c13
      have c13b1 : (a0_4 != a1_4) = true := bne_iff_ne.mpr c13
      obtain rfl := Option.some.inj H
      have hnb25 := NB466_467.out
      have hnc25 := NB467_466.out
      obtain ⟨z26_0, z26_1, z26_2, z26_3, z26_4, z26_5, z26_6⟩ := cz7 BK466.out
      obtain ⟨f26_0, f26_1, f26_2, f26_3, f26_4, f26_5, f26_6⟩ := fz7 BK466.out
      obtain ⟨z27_0, z27_1, z27_2, z27_3, z27_4, z27_5, z27_6⟩ := cz7 BK467.out
      obtain ⟨f27_0, f27_1, f27_2, f27_3, f27_4, f27_5, f27_6⟩ := fz7 BK467.out
      go_wp2
      go_ret
      exact ⟨by first | rfl | (simp [errW_none, errW_some] <;> rfl) | (simp [*, errW_none, errW_some] <;> rfl), qB HB⟩
    ·
     rw [if_neg c12] at H
     have c12b0 : (a0_3 == a1_3) = false := beq_eq_false_iff_ne.mpr c12
     have c12b1 : (a0_3 != a1_3) = true := bne_iff_ne.mpr c12
     obtain rfl := Option.some.inj H
     have hnb28 := NB466_467.out
     have hnc28 := NB467_466.out
     obtain ⟨z29_0, z29_1, z29_2, z29_3, z29_4, z29_5, z29_6⟩ := cz7 BK466.out
     obtain ⟨f29_0, f29_1, f29_2, f29_3, f29_4, f29_5, f29_6⟩ := fz7 BK466.out
     obtain ⟨z30_0, z30_1, z30_2, z30_3, z30_4, z30_5, z30_6⟩ := cz7 BK467.out
     obtain ⟨f30_0, f30_1, f30_2, f30_3, f30_4, f30_5, f30_6⟩ := fz7 BK467.out
     go_wp2
     go_ret
     exact ⟨by first | rfl | (simp [errW_none, errW_some] <;> rfl) | (simp [*, errW_none, errW_some] <;> rfl), qB HB⟩
   ·
    rw [if_neg c11] at H
    have c11b0 : (a0_2 == a1_2) = false := beq_eq_false_iff_ne.mpr c11
    have c11b1 : (a0_2 != a1_2) = true := bne_iff_ne.mpr c11
    obtain rfl := Option.some.inj H
    have hnb31 := NB466_467.out
    have hnc31 := NB467_466.out
    obtain ⟨z32_0, z32_1, z32_2, z32_3, z32_4, z32_5, z32_6⟩ := cz7 BK466.out
    obtain ⟨f32_0, f32_1, f32_2, f32_3, f32_4, f32_5, f32_6⟩ := fz7 BK466.out
    obtain ⟨z33_0, z33_1, z33_2, z33_3, z33_4, z33_5, z33_6⟩ := cz7 BK467.out
    obtain ⟨f33_0, f33_1, f33_2, f33_3, f33_4, f33_5, f33_6⟩ := fz7 BK467.out
    go_wp2
    go_ret
    exact ⟨by first | rfl | (simp [errW_none, errW_some] <;> rfl) | (simp [*, errW_none, errW_some] <;> rfl), qB HB⟩
  ·
   rw [if_neg c10] at H
   have c10b0 : (a0_1.toList == a1_1.toList) = false := beq_eq_false_iff_ne.mpr c10
   have c10b1 : (a0_1.toList != a1_1.toList) = true := bne_iff_ne.mpr c10
   obtain rfl := Option.some.inj H
   have hnb34 := NB466_467.out
   have hnc34 := NB467_466.out
   obtain ⟨z35_0, z35_1, z35_2, z35_3, z35_4, z35_5, z35_6⟩ := cz7 BK466.out
   obtain ⟨f35_0, f35_1, f35_2, f35_3, f35_4, f35_5, f35_6⟩ := fz7 BK466.out
   obtain ⟨z36_0, z36_1, z36_2, z36_3, z36_4, z36_5, z36_6⟩ := cz7 BK467.out
   obtain ⟨f36_0, f36_1, f36_2, f36_3, f36_4, f36_5, f36_6⟩ := fz7 BK467.out
   go_wp2
   go_ret
   exact ⟨by first | rfl | (simp [errW_none, errW_some] <;> rfl) | (simp [*, errW_none, errW_some] <;> rfl), qB HB⟩
 ·
  rw [if_neg c9] at H
  have c9b0 : (a0_0 == a1_0) = false := beq_eq_false_iff_ne.mpr c9
  have c9b1 : (a0_0 != a1_0) = true := bne_iff_ne.mpr c9
  (first | rw [c9b0] | rw [c9b1] | (simp only [i64_w, i32_w]; rw [c9b0]) | skip)
  obtain rfl := Option.some.inj H
  go_wp2
  go_ret
  exact ⟨by first | rfl | (simp [errW_none, errW_some] <;> rfl) | (simp [*, errW_none, errW_some] <;> rfl), qB HB⟩

end Go.Proofs.Ytahfemlfdpbkkaa.PFnExactGetItem
