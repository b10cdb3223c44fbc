-- Written by a program of this session (myprint.py, over the kit's print): contracts of FnExactHouseOk
import Derived.Test.YtahfemlfdpbkkaaPFnExactHouseOkx0
namespace Go.Proofs.Ytahfemlfdpbkkaa.PFnExactHouseOk
open Go.RowKit Go.Proofs.YtahfemlfdpbkkaaW.PrintWords Go.Proofs.YtahfemlfdpbkkaaW.PrintLast Go.Proofs.YtahfemlfdpbkkaaW.PrintMore Go.Proofs.YtahfemlfdpbkkaaV
attribute [local go_sem] max2_int min2_int max_two min_two max_three min_three max_four min_four   -- for this text's walks alone
set_option linter.unusedVariables false
set_option linter.unusedSimpArgs false

/-! ### impl_leased: function 177 -/
def impl_leased.f (a0_0 : Int) (a0_1 : ByteArray) (a0_2 : Int) (a0_3 : Int) (a0_4 : Int) (a0_5 : ByteArray) (a0_6 : Int) (a0_7 : Int) (a1_0 : Int) (a1_1 : ByteArray) (a1_2 : Int) (a1_3 : Int) (a1_4 : Int) (a1_5 : Int) (a1_6 : Int) : Option (Bool) := if a0_2 = 3 then (if a1_3 = 1 then (if a0_6 = a1_0 then (if a1_5 = a0_0 then (if a0_7 = a1_6 then (some (a0_1.toList == a1_1.toList)) else (some false)) else (some false)) else (some false)) else (if a0_2 = 4 then (if a1_3 = 2 then (if a0_6 = a1_0 then (if a1_5 = a0_0 then (if a0_7 = a1_6 then (some (a0_1.toList == a1_1.toList)) else (some false)) else (some false)) else (some false)) else (some false)) else (some false))) else (if a0_2 = 4 then (if a1_3 = 2 then (if a0_6 = a1_0 then (if a1_5 = a0_0 then (if a0_7 = a1_6 then (some (a0_1.toList == a1_1.toList)) else (some false)) else (some false)) else (some false)) else (some false)) else (some false))
set_option maxHeartbeats 8000000 in
set_option maxRecDepth 100000 in
theorem impl_leased.calls (a0_0 : Int) (a0_1 : ByteArray) (a0_2 : Int) (a0_3 : Int) (a0_4 : Int) (a0_5 : ByteArray) (a0_6 : Int) (a0_7 : Int) (a1_0 : Int) (a1_1 : ByteArray) (a1_2 : Int) (a1_3 : Int) (a1_4 : Int) (a1_5 : Int) (a1_6 : Int) (r : Bool) (w : World) (h : impl_leased.f a0_0 a0_1 a0_2 a0_3 a0_4 a0_5 a0_6 a0_7 a1_0 a1_1 a1_2 a1_3 a1_4 a1_5 a1_6 = some r) :
  Calls Try.prog 177 #[.agg #[.int .i64 a0_0, .string a0_1, .int .i64 a0_2, .int .i64 a0_3, .int .i64 a0_4, .string a0_5, .int .i64 a0_6, .int .i64 a0_7], .agg #[.int .i64 a1_0, .string a1_1, .int .i64 a1_2, .int .i64 a1_3, .int .i64 a1_4, .int .i64 a1_5, .int .i64 a1_6]] w fun e w' => e = .returned (.bool r) ∧ Below w.heap.size w w' := by
 have hu45 := Try.underlying45
 have hu46 := Try.underlying46
 have HB := Aside0.mk (Below.refl w.heap.size w)
 have H : (if a0_2 = 3 then (if a1_3 = 1 then (if a0_6 = a1_0 then (if a1_5 = a0_0 then (if a0_7 = a1_6 then (some (a0_1.toList == a1_1.toList)) else (some false)) else (some false)) else (some false)) else (if a0_2 = 4 then (if a1_3 = 2 then (if a0_6 = a1_0 then (if a1_5 = a0_0 then (if a0_7 = a1_6 then (some (a0_1.toList == a1_1.toList)) else (some false)) else (some false)) else (some false)) else (some false)) else (some false))) else (if a0_2 = 4 then (if a1_3 = 2 then (if a0_6 = a1_0 then (if a1_5 = a0_0 then (if a0_7 = a1_6 then (some (a0_1.toList == a1_1.toList)) else (some false)) else (some false)) else (some false)) else (some false)) else (some false))) = some r := h
 clear h
 have HC3 := Aside0.mk H
 clear H
 go_enter Try.func177, Try.ntmps177
 go_upto_region 1 with (first | ((with_reducible refine gate_dst (N := 2) rfl ?_); refine box_event ?hg (N := 2) ?hd (cs := #[.int .i64 a0_0, .string a0_1, .int .i64 a0_2, .int .i64 a0_3, .int .i64 a0_4, .string a0_5, .int .i64 a0_6, .int .i64 a0_7]) (t := 45) ?hr ?_; (case hd => rfl); (case hg => rfl); (case hr => first | (go_simp; done) | (go_simp; rfl)); intro gb342 hg w4 hbox hb; have BK342 := am_ (hbox); have GW342 := am_ ((gG_ hg (qB HB))); have IGW342 := gI_ GW342; have GE342 := am_ ((gG_ hg (qB HB))); have IGE342 := gI_ GE342; replace HB := am_ (below_step (qB HB) hb); clear hb hbox hg) | ((with_reducible refine gate_dst (N := 3) rfl ?_); refine box_event ?hg (N := 3) ?hd (cs := #[.int .i64 a1_0, .string a1_1, .int .i64 a1_2, .int .i64 a1_3, .int .i64 a1_4, .int .i64 a1_5, .int .i64 a1_6]) (t := 46) ?hr ?_; (case hd => rfl); (case hg => rfl); (case hr => first | (go_simp; done) | (go_simp; rfl)); intro gb343 hg w5 hbox hb; have BK343 := am_ (hbox); have GW343 := am_ ((gG_ hg (qB HB))); have IGW343 := gI_ GW343; have GE343 := am_ ((gG_ hg (qB HB))); have IGE343 := gI_ GE343; replace HB := am_ (below_step (qB HB) hb); have NB342_343 := am_ ((gN_ hg (qK BK342))); have NB343_342 := am_ ((gM_ hg (qK BK342))); replace BK342 := am_ (blk_below (qK BK342) hb); clear hb hbox hg))
 (try simp only [Act.put, List.setIfInBounds_toArray, List.set_cons_zero, List.set_cons_succ])
 have H := HC3.out
 clear HC3
 by_cases c6 : a0_2 = 3
 ·
  rw [if_pos c6] at H
  have c6b0 : (a0_2 == 3) = true := beq_iff_eq.mpr c6
  have c6b1 : (a0_2 != 3) = false := bne_eq_false_iff_eq.mpr c6
  clear c6
  by_cases c7 : a1_3 = 1
  ·
   rw [if_pos c7] at H
   have c7b0 : (a1_3 == 1) = true := beq_iff_eq.mpr c7
   have c7b1 : (a1_3 != 1) = false := bne_eq_false_iff_eq.mpr c7
   clear c7
   by_cases c8 : a0_6 = a1_0
   ·
    rw [if_pos c8] at H
    have c8b0 : (a0_6 == a1_0) = true := beq_iff_eq.mpr c8
    have c8b1 : (a0_6 != a1_0) = false := bne_eq_false_iff_eq.mpr c8
    clear c8
    by_cases c9 : a1_5 = a0_0
    ·
     rw [if_pos c9] at H
     have c9b0 : (a1_5 == a0_0) = true := beq_iff_eq.mpr c9
     have c9b1 : (a1_5 != a0_0) = false := bne_eq_false_iff_eq.mpr c9
     clear c9
     by_cases c10 : a0_7 = a1_6
     ·
      rw [if_pos c10] at H
      have c10b0 : (a0_7 == a1_6) = true := beq_iff_eq.mpr c10
      have c10b1 : (a0_7 != a1_6) = false := bne_eq_false_iff_eq.mpr c10
      clear c10
      obtain rfl := Option.some.inj H
      have hnb11 := NB342_343.out
      have hnc11 := NB343_342.out
      obtain ⟨z12_0, z12_1, z12_2, z12_3, z12_4, z12_5, z12_6, z12_7⟩ := cz8 BK342.out
      obtain ⟨f12_0, f12_1, f12_2, f12_3, f12_4, f12_5, f12_6, f12_7⟩ := fz8 BK342.out
      obtain ⟨z13_0, z13_1, z13_2, z13_3, z13_4, z13_5, z13_6⟩ := cz7 BK343.out
      obtain ⟨f13_0, f13_1, f13_2, f13_3, f13_4, f13_5, f13_6⟩ := fz7 BK343.out
      go_wp2
      go_ret
      exact ⟨by first | rfl | (simp [errW_none, errW_some] <;> rfl) | (simp [*, errW_none, errW_some] <;> rfl), qB HB⟩
     ·
      rw [if_neg c10] at H
      have c10b0 : (a0_7 == a1_6) = false := beq_eq_false_iff_ne.mpr c10
      have c10b1 : (a0_7 != a1_6) = true := bne_iff_ne.mpr c10
      obtain rfl := Option.some.inj H
      have hnb14 := NB342_343.out
      have hnc14 := NB343_342.out
      obtain ⟨z15_0, z15_1, z15_2, z15_3, z15_4, z15_5, z15_6, z15_7⟩ := cz8 BK342.out
      obtain ⟨f15_0, f15_1, f15_2, f15_3, f15_4, f15_5, f15_6, f15_7⟩ := fz8 BK342.out
      obtain ⟨z16_0, z16_1, z16_2, z16_3, z16_4, z16_5, z16_6⟩ := cz7 BK343.out
      obtain ⟨f16_0, f16_1, f16_2, f16_3, f16_4, f16_5, f16_6⟩ := fz7 BK343.out
      go_wp2
      go_ret
      exact ⟨by first | rfl | (simp [errW_none, errW_some] <;> rfl) | (simp [*, errW_none, errW_some] <;> rfl), qB HB⟩
    ·
     rw [if_neg c9] at H
     have c9b0 : (a1_5 == a0_0) = false := beq_eq_false_iff_ne.mpr c9
     have c9b1 : (a1_5 != a0_0) = true := bne_iff_ne.mpr c9
     obtain rfl := Option.some.inj H
     have hnb17 := NB342_343.out
     have hnc17 := NB343_342.out
     obtain ⟨z18_0, z18_1, z18_2, z18_3, z18_4, z18_5, z18_6, z18_7⟩ := cz8 BK342.out
     obtain ⟨f18_0, f18_1, f18_2, f18_3, f18_4, f18_5, f18_6, f18_7⟩ := fz8 BK342.out
     obtain ⟨z19_0, z19_1, z19_2, z19_3, z19_4, z19_5, z19_6⟩ := cz7 BK343.out
     obtain ⟨f19_0, f19_1, f19_2, f19_3, f19_4, f19_5, f19_6⟩ := fz7 BK343.out
     go_wp2
     go_ret
     exact ⟨by first | rfl | (simp [errW_none, errW_some] <;> rfl) | (simp [*, errW_none, errW_some] <;> rfl), qB HB⟩
   ·
    rw [if_neg c8] at H
    have c8b0 : (a0_6 == a1_0) = false := beq_eq_false_iff_ne.mpr c8
    have c8b1 : (a0_6 != a1_0) = true := bne_iff_ne.mpr c8
    obtain rfl := Option.some.inj H
    have hnb20 := NB342_343.out
    have hnc20 := NB343_342.out
    obtain ⟨z21_0, z21_1, z21_2, z21_3, z21_4, z21_5, z21_6, z21_7⟩ := cz8 BK342.out
    obtain ⟨f21_0, f21_1, f21_2, f21_3, f21_4, f21_5, f21_6, f21_7⟩ := fz8 BK342.out
    obtain ⟨z22_0, z22_1, z22_2, z22_3, z22_4, z22_5, z22_6⟩ := cz7 BK343.out
    obtain ⟨f22_0, f22_1, f22_2, f22_3, f22_4, f22_5, f22_6⟩ := fz7 BK343.out
    go_wp2
    go_ret
    exact ⟨by first | rfl | (simp [errW_none, errW_some] <;> rfl) | (simp [*, errW_none, errW_some] <;> rfl), qB HB⟩
  ·
   rw [if_neg c7] at H
   have c7b0 : (a1_3 == 1) = false := beq_eq_false_iff_ne.mpr c7
   have c7b1 : (a1_3 != 1) = true := bne_iff_ne.mpr c7
   by_cases c23 : a0_2 = 4
   ·
    rw [if_pos c23] at H
    have c23b0 : (a0_2 == 4) = true := beq_iff_eq.mpr c23
    have c23b1 : (a0_2 != 4) = false := bne_eq_false_iff_eq.mpr c23
    clear c23
    by_cases c24 : a1_3 = 2
    ·
     rw [if_pos c24] at H
     have c24b0 : (a1_3 == 2) = true := beq_iff_eq.mpr c24
     have c24b1 : (a1_3 != 2) = false := bne_eq_false_iff_eq.mpr c24
     clear c24
     by_cases c25 : a0_6 = a1_0
     ·
      rw [if_pos c25] at H
      have c25b0 : (a0_6 == a1_0) = true := beq_iff_eq.mpr c25
      have c25b1 : (a0_6 != a1_0) = false := bne_eq_false_iff_eq.mpr c25
      clear c25
      by_cases c26 : a1_5 = a0_0
      ·
       rw [if_pos c26] at H
       have c26b0 : (a1_5 == a0_0) = true := beq_iff_eq.mpr c26
       have c26b1 : (a1_5 != a0_0) = false := bne_eq_false_iff_eq.mpr c26
       clear c26
       by_cases c27 : a0_7 = a1_6
       ·
        rw [if_pos c27] at H
        have c27b0 : (a0_7 == a1_6) = true := beq_iff_eq.mpr c27
        have c27b1 : (a0_7 != a1_6) = false := bne_eq_false_iff_eq.mpr c27
        clear c27
        obtain rfl := Option.some.inj H
        have hnb28 := NB342_343.out
        have hnc28 := NB343_342.out
        obtain ⟨z29_0, z29_1, z29_2, z29_3, z29_4, z29_5, z29_6, z29_7⟩ := cz8 BK342.out
        obtain ⟨f29_0, f29_1, f29_2, f29_3, f29_4, f29_5, f29_6, f29_7⟩ := fz8 BK342.out
        obtain ⟨z30_0, z30_1, z30_2, z30_3, z30_4, z30_5, z30_6⟩ := cz7 BK343.out
        obtain ⟨f30_0, f30_1, f30_2, f30_3, f30_4, f30_5, f30_6⟩ := fz7 BK343.out
        go_wp2
        go_ret
        exact ⟨by first | rfl | (simp [errW_none, errW_some] <;> rfl) | (simp [*, errW_none, errW_some] <;> rfl), qB HB⟩
       ·
        rw [if_neg c27] at H
        have c27b0 : (a0_7 == a1_6) = false := beq_eq_false_iff_ne.mpr c27
        have c27b1 : (a0_7 != a1_6) = true := bne_iff_ne.mpr c27
        obtain rfl := Option.some.inj H
        have hnb31 := NB342_343.out
        have hnc31 := NB343_342.out
        obtain ⟨z32_0, z32_1, z32_2, z32_3, z32_4, z32_5, z32_6, z32_7⟩ := cz8 BK342.out
        obtain ⟨f32_0, f32_1, f32_2, f32_3, f32_4, f32_5, f32_6, f32_7⟩ := fz8 BK342.out
        obtain ⟨z33_0, z33_1, z33_2, z33_3, z33_4, z33_5, z33_6⟩ := cz7 BK343.out
        obtain ⟨f33_0, f33_1, f33_2, f33_3, f33_4, f33_5, f33_6⟩ := fz7 BK343.out
        go_wp2
        go_ret
        exact ⟨by first | rfl | (simp [errW_none, errW_some] <;> rfl) | (simp [*, errW_none, errW_some] <;> rfl), qB HB⟩
      ·
       rw [if_neg c26] at H
       have c26b0 : (a1_5 == a0_0) = false := beq_eq_false_iff_ne.mpr c26
       have c26b1 : (a1_5 != a0_0) = true := bne_iff_ne.mpr c26
       obtain rfl := Option.some.inj H
       have hnb34 := NB342_343.out
       have hnc34 := NB343_342.out
       obtain ⟨z35_0, z35_1, z35_2, z35_3, z35_4, z35_5, z35_6, z35_7⟩ := cz8 BK342.out
       obtain ⟨f35_0, f35_1, f35_2, f35_3, f35_4, f35_5, f35_6, f35_7⟩ := fz8 BK342.out
       obtain ⟨z36_0, z36_1, z36_2, z36_3, z36_4, z36_5, z36_6⟩ := cz7 BK343.out
       obtain ⟨f36_0, f36_1, f36_2, f36_3, f36_4, f36_5, f36_6⟩ := fz7 BK343.out
       go_wp2
       go_ret
       exact ⟨by first | rfl | (simp [errW_none, errW_some] <;> rfl) | (simp [*, errW_none, errW_some] <;> rfl), qB HB⟩
     ·
      rw [if_neg c25] at H
      have c25b0 : (a0_6 == a1_0) = false := beq_eq_false_iff_ne.mpr c25
      have c25b1 : (a0_6 != a1_0) = true := bne_iff_ne.mpr c25
      obtain rfl := Option.some.inj H
      have hnb37 := NB342_343.out
      have hnc37 := NB343_342.out
      obtain ⟨z38_0, z38_1, z38_2, z38_3, z38_4, z38_5, z38_6, z38_7⟩ := cz8 BK342.out
      obtain ⟨f38_0, f38_1, f38_2, f38_3, f38_4, f38_5, f38_6, f38_7⟩ := fz8 BK342.out
      obtain ⟨z39_0, z39_1, z39_2, z39_3, z39_4, z39_5, z39_6⟩ := cz7 BK343.out
      obtain ⟨f39_0, f39_1, f39_2, f39_3, f39_4, f39_5, f39_6⟩ := fz7 BK343.out
      go_wp2
      go_ret
      exact ⟨by first | rfl | (simp [errW_none, errW_some] <;> rfl) | (simp [*, errW_none, errW_some] <;> rfl), qB HB⟩
    ·
     rw [if_neg c24] at H
     have c24b0 : (a1_3 == 2) = false := beq_eq_false_iff_ne.mpr c24
     have c24b1 : (a1_3 != 2) = true := bne_iff_ne.mpr c24
     obtain rfl := Option.some.inj H
     have hnb40 := NB342_343.out
     have hnc40 := NB343_342.out
     obtain ⟨z41_0, z41_1, z41_2, z41_3, z41_4, z41_5, z41_6, z41_7⟩ := cz8 BK342.out
     obtain ⟨f41_0, f41_1, f41_2, f41_3, f41_4, f41_5, f41_6, f41_7⟩ := fz8 BK342.out
     obtain ⟨z42_0, z42_1, z42_2, z42_3, z42_4, z42_5, z42_6⟩ := cz7 BK343.out
     obtain ⟨f42_0, f42_1, f42_2, f42_3, f42_4, f42_5, f42_6⟩ := fz7 BK343.out
     go_wp2
     go_ret
     exact ⟨by first | rfl | (simp [errW_none, errW_some] <;> rfl) | (simp [*, errW_none, errW_some] <;> rfl), qB HB⟩
   ·
    rw [if_neg c23] at H
    have c23b0 : (a0_2 == 4) = false := beq_eq_false_iff_ne.mpr c23
    have c23b1 : (a0_2 != 4) = true := bne_iff_ne.mpr c23
    obtain rfl := Option.some.inj H
    have hnb43 := NB342_343.out
    have hnc43 := NB343_342.out
    obtain ⟨z44_0, z44_1, z44_2, z44_3, z44_4, z44_5, z44_6, z44_7⟩ := cz8 BK342.out
    obtain ⟨f44_0, f44_1, f44_2, f44_3, f44_4, f44_5, f44_6, f44_7⟩ := fz8 BK342.out
    obtain ⟨z45_0, z45_1, z45_2, z45_3, z45_4, z45_5, z45_6⟩ := cz7 BK343.out
    obtain ⟨f45_0, f45_1, f45_2, f45_3, f45_4, f45_5, f45_6⟩ := fz7 BK343.out
    go_wp2
    go_ret
    exact ⟨by first | rfl | (simp [errW_none, errW_some] <;> rfl) | (simp [*, errW_none, errW_some] <;> rfl), qB HB⟩
 ·
  rw [if_neg c6] at H
  have c6b0 : (a0_2 == 3) = false := beq_eq_false_iff_ne.mpr c6
  have c6b1 : (a0_2 != 3) = true := bne_iff_ne.mpr c6
  by_cases c46 : a0_2 = 4
  ·
   rw [if_pos c46] at H
   have c46b0 : (a0_2 == 4) = true := beq_iff_eq.mpr c46
   have c46b1 : (a0_2 != 4) = false := bne_eq_false_iff_eq.mpr c46
   clear c46
   by_cases c47 : a1_3 = 2
   ·
    rw [if_pos c47] at H
    have c47b0 : (a1_3 == 2) = true := beq_iff_eq.mpr c47
    have c47b1 : (a1_3 != 2) = false := bne_eq_false_iff_eq.mpr c47
    clear c47
    by_cases c48 : a0_6 = a1_0
    ·
     rw [if_pos c48] at H
     have c48b0 : (a0_6 == a1_0) = true := beq_iff_eq.mpr c48
     have c48b1 : (a0_6 != a1_0) = false := bne_eq_false_iff_eq.mpr c48
     clear c48
     by_cases c49 : a1_5 = a0_0
     ·
      rw [if_pos c49] at H
      have c49b0 : (a1_5 == a0_0) = true := beq_iff_eq.mpr c49
      have c49b1 : (a1_5 != a0_0) = false := bne_eq_false_iff_eq.mpr c49
      clear c49
      by_cases c50 : a0_7 = a1_6
      ·
       rw [if_pos c50] at H
       have c50b0 : (a0_7 == a1_6) = true := beq_iff_eq.mpr c50
       have c50b1 : (a0_7 != a1_6) = false := bne_eq_false_iff_eq.mpr c50
       clear c50
       obtain rfl := Option.some.inj H
       have hnb51 := NB342_343.out
       have hnc51 := NB343_342.out
       obtain ⟨z52_0, z52_1, z52_2, z52_3, z52_4, z52_5, z52_6, z52_7⟩ := cz8 BK342.out
       obtain ⟨f52_0, f52_1, f52_2, f52_3, f52_4, f52_5, f52_6, f52_7⟩ := fz8 BK342.out
       obtain ⟨z53_0, z53_1, z53_2, z53_3, z53_4, z53_5, z53_6⟩ := cz7 BK343.out
       obtain ⟨f53_0, f53_1, f53_2, f53_3, f53_4, f53_5, f53_6⟩ := fz7 BK343.out
       go_wp2
       go_ret
       exact ⟨by first | rfl | (simp [errW_none, errW_some] <;> rfl) | (simp [*, errW_none, errW_some] <;> rfl), qB HB⟩
      ·
       rw [if_neg c50] at H
       have c50b0 : (a0_7 == a1_6) = false := beq_eq_false_iff_ne.mpr c50
       have c50b1 : (a0_7 != a1_6) = true := bne_iff_ne.mpr c50
       obtain rfl := Option.some.inj H
       have hnb54 := NB342_343.out
       have hnc54 := NB343_342.out
       obtain ⟨z55_0, z55_1, z55_2, z55_3, z55_4, z55_5, z55_6, z55_7⟩ := cz8 BK342.out
       obtain ⟨f55_0, f55_1, f55_2, f55_3, f55_4, f55_5, f55_6, f55_7⟩ := fz8 BK342.out
       obtain ⟨z56_0, z56_1, z56_2, z56_3, z56_4, z56_5, z56_6⟩ := cz7 BK343.out
       obtain ⟨f56_0, f56_1, f56_2, f56_3, f56_4, f56_5, f56_6⟩ := fz7 BK343.out
       go_wp2
       go_ret
       exact ⟨by first | rfl | (simp [errW_none, errW_some] <;> rfl) | (simp [*, errW_none, errW_some] <;> rfl), qB HB⟩
     ·
      rw [if_neg c49] at H
      have c49b0 : (a1_5 == a0_0) = false := beq_eq_false_iff_ne.mpr c49
      have c49b1 : (a1_5 != a0_0) = true := bne_iff_ne.mpr c49
      obtain rfl := Option.some.inj H
      have hnb57 := NB342_343.out
      have hnc57 := NB343_342.out
      obtain ⟨z58_0, z58_1, z58_2, z58_3, z58_4, z58_5, z58_6, z58_7⟩ := cz8 BK342.out
      obtain ⟨f58_0, f58_1, f58_2, f58_3, f58_4, f58_5, f58_6, f58_7⟩ := fz8 BK342.out
      obtain ⟨z59_0, z59_1, z59_2, z59_3, z59_4, z59_5, z59_6⟩ := cz7 BK343.out
      obtain ⟨f59_0, f59_1, f59_2, f59_3, f59_4, f59_5, f59_6⟩ := fz7 BK343.out
      go_wp2
      go_ret
      exact ⟨by first | rfl | (simp [errW_none, errW_some] <;> rfl) | (simp [*, errW_none, errW_some] <;> rfl), qB HB⟩
    ·
     rw [if_neg c48] at H
     have c48b0 : (a0_6 == a1_0) = false := beq_eq_false_iff_ne.mpr c48
     have c48b1 : (a0_6 != a1_0) = true := bne_iff_ne.mpr c48
     obtain rfl := Option.some.inj H
     have hnb60 := NB342_343.out
     have hnc60 := NB343_342.out
     obtain ⟨z61_0, z61_1, z61_2, z61_3, z61_4, z61_5, z61_6, z61_7⟩ := cz8 BK342.out
     obtain ⟨f61_0, f61_1, f61_2, f61_3, f61_4, f61_5, f61_6, f61_7⟩ := fz8 BK342.out
     obtain ⟨z62_0, z62_1, z62_2, z62_3, z62_4, z62_5, z62_6⟩ := cz7 BK343.out
     obtain ⟨f62_0, f62_1, f62_2, f62_3, f62_4, f62_5, f62_6⟩ := fz7 BK343.out
     go_wp2
     go_ret
     exact ⟨by first | rfl | (simp [errW_none, errW_some] <;> rfl) | (simp [*, errW_none, errW_some] <;> rfl), qB HB⟩
   ·
    rw [if_neg c47] at H
    have c47b0 : (a1_3 == 2) = false := beq_eq_false_iff_ne.mpr c47
    have c47b1 : (a1_3 != 2) = true := bne_iff_ne.mpr c47
    obtain rfl := Option.some.inj H
    have hnb63 := NB342_343.out
    have hnc63 := NB343_342.out
    obtain ⟨z64_0, z64_1, z64_2, z64_3, z64_4, z64_5, z64_6, z64_7⟩ := cz8 BK342.out
    obtain ⟨f64_0, f64_1, f64_2, f64_3, f64_4, f64_5, f64_6, f64_7⟩ := fz8 BK342.out
    obtain ⟨z65_0, z65_1, z65_2, z65_3, z65_4, z65_5, z65_6⟩ := cz7 BK343.out
    obtain ⟨f65_0, f65_1, f65_2, f65_3, f65_4, f65_5, f65_6⟩ := fz7 BK343.out
    go_wp2
    go_ret
    exact ⟨by first | rfl | (simp [errW_none, errW_some] <;> rfl) | (simp [*, errW_none, errW_some] <;> rfl), qB HB⟩
  ·
   rw [if_neg c46] at H
   have c46b0 : (a0_2 == 4) = false := beq_eq_false_iff_ne.mpr c46
   have c46b1 : (a0_2 != 4) = true := bne_iff_ne.mpr c46
   obtain rfl := Option.some.inj H
   have hnb66 := NB342_343.out
   have hnc66 := NB343_342.out
   obtain ⟨z67_0, z67_1, z67_2, z67_3, z67_4, z67_5, z67_6, z67_7⟩ := cz8 BK342.out
   obtain ⟨f67_0, f67_1, f67_2, f67_3, f67_4, f67_5, f67_6, f67_7⟩ := fz8 BK342.out
   go_wp2
   go_ret
   exact ⟨by first | rfl | (simp [errW_none, errW_some] <;> rfl) | (simp [*, errW_none, errW_some] <;> rfl), qB HB⟩

-- NOT PRINTED: function 180 (slices_IndexFunc_Asker)

/-! ### impl_AskerAt: function 178, by hand: its closure is function 181, slices.IndexFunc at its elements function 180 -/
def impl_AskerAt.f (l0 : List S45) (a1 : Int) : Option (Int) := some (Go.Proofs.YtahfemlfdpbkkaaV.idxF (fun x => x.f0 == a1) l0 0)
set_option maxHeartbeats 4000000 in
set_option maxRecDepth 100000 in
theorem impl_AskerAt.closure (a1 : Int) (B : Nat) (w : World) (hB : B < w.heap.size) (hcell : w.cell? ⟨B, 0, none⟩ = some (.int .i64 a1)) (W : World) (x : S45) (hb : Below w.heap.size w W) :
  Calls Try.prog 181 #[.agg #[.int .i64 x.f0, .string x.f1, .int .i64 x.f2, .int .i64 x.f3, .int .i64 x.f4, .string x.f5, .int .i64 x.f6, .int .i64 x.f7], .pointer (some ⟨B, 0, none⟩)] W fun e w' => e = .returned (.bool (x.f0 == a1)) ∧ Below w.heap.size w w' := by
 have hc : W.cell? ⟨B, 0, none⟩ = some (.int .i64 a1) := (hb.cell (p := ⟨B, 0, none⟩) hB).trans hcell
 have hBW : B < W.heap.size := Nat.lt_of_lt_of_le hB hb.size
 have hne : B ≠ W.heap.size := by omega
 go_enter Try.func181, Try.ntmps181
 go_wp2
 all_goals (go_ret; exact ⟨by simp_all, hb.alloc hb.size _⟩)
set_option maxHeartbeats 8000000 in
set_option maxRecDepth 100000 in
theorem impl_AskerAt.search (p : S45 → Bool) (g : Nat) (lb : Array Value) (eg : ∀ args w, (callFunc g args).run Try.prog w = .ok (.enter g args) w) (A0 : Option Addr) (c0 : Nat) (l0 : List S45) (w : World) (hr0 : Kd.C k45 w A0 l0.length l0)
  (hp : ∀ (W : World) (x : S45), Below w.heap.size w W → Calls Try.prog g (#[.agg #[.int .i64 x.f0, .string x.f1, .int .i64 x.f2, .int .i64 x.f3, .int .i64 x.f4, .string x.f5, .int .i64 x.f6, .int .i64 x.f7]] ++ lb) W fun e w' => e = .returned (.bool (p x)) ∧ Below w.heap.size w w') :
  Calls Try.prog 180 #[.slice A0 l0.length c0, .func (.func g) #[] lb] w fun e w' => e = .returned (.int .i64 (Go.Proofs.YtahfemlfdpbkkaaV.idxF p l0 0)) ∧ Below w.heap.size w w' := by
 have hbig : l0.length ≤ 9223372036854775807 := hr0.2.1
 have HR0 := Aside0.mk hr0
 have HP := Aside0.mk hp
 clear hr0 hp
 have hf : ∀ i : Int, 0 ≤ i → i < (l0.length : Int) → l0.drop i.toNat = rd_T45 l0 i :: l0.drop (i + 1).toNat := fun i h0 h1 => by
  have hi : i.toNat < l0.length := by omega
  rw [List.drop_eq_getElem_cons hi, show (i + 1).toNat = i.toNat + 1 by omega]
  congr 1
  simp [rd_T45, List.getD_eq_getElem?_getD, List.getElem?_eq_getElem hi]
 have HF := Aside0.mk hf
 clear hf
 go_enter Try.func180, Try.ntmps180
 go_wp2
 go_loopg [5, 8] l0.length (fun gg _ s8 wr => ∃ i : Int, 0 ≤ i ∧ i ≤ (l0.length : Int) ∧ ((l0.length : Int) - i).toNat ≤ gg ∧ s8 = .int .i64 i ∧ Aside0 (Below w.heap.size w wr) ∧ Aside0 (Go.Proofs.YtahfemlfdpbkkaaV.idxF p (l0.drop i.toNat) i = Go.Proofs.YtahfemlfdpbkkaaV.idxF p l0 0))
 case atStart => exact ⟨0, by omega, by omega, by omega, rfl, ⟨Below.refl _ _⟩, ⟨by simp⟩⟩
 case round =>
  obtain ⟨i, h0, h1, hg, rfl, HB, HI⟩ := hrel
  by_cases hlt : i < (l0.length : Int)
  ·
   have c3 : decide (i < (l0.length : Int)) = true := decide_eq_true hlt
   have hn := HF.out i h0 hlt
   have hat := at_T45 (Kd.C_below HR0.out HB.out) i h0 hlt
   obtain ⟨ad, e0, hx0, hx1, hx2, hx3, hx4, hx5, hx6, hx7⟩ := hat
   have hcall := HP.out wr (rd_T45 l0 i) HB.out
   cases e0
   have HI' := HI.out
   rw [hn] at HI'
   have HN := Aside0.mk HI'
   clear hn HI HI'
   have p1 := eq_true h0
   have q1 := eq_true hlt
   have hm : Aside0 (((l0.length : Int) - (i + 1)).toNat < gk ∧ 0 ≤ i + 1 ∧ i + 1 ≤ (l0.length : Int) ∧ wrap64 (i + 1) = i + 1) := ⟨by omega, by omega, by omega, by unfold wrap64; omega⟩
   generalize hy : rd_T45 l0 i = y at *
   have HY := Aside0.mk hy
   clear hy
   cases hq : p y with
   | true =>
    rw [hq] at hcall
    go_wp2_with (go_at_fn g; refine hcall.mono ?_; rintro e w' ⟨rfl, hb'⟩)
    go_ret
    have := HN.out
    simp only [Go.Proofs.YtahfemlfdpbkkaaV.idxF, hq, if_true] at this
    exact ⟨by rw [← this]; rfl, hb'⟩
   | false =>
    rw [hq] at hcall
    go_wp2_with (go_at_fn g; refine hcall.mono ?_; rintro e w' ⟨rfl, hb'⟩)
    go_roundg (gk - 1)
    case measure => have := hm.out.1; omega
    case rel =>
     have h3 := HN.out
     simp only [Go.Proofs.YtahfemlfdpbkkaaV.idxF, hq] at h3
     exact ⟨i + 1, hm.out.2.1, hm.out.2.2.1, by have := hm.out.1; omega, by first | rfl | (rw [hm.out.2.2.2]) | simp [hm.out.2.2.2], ⟨hb'⟩, ⟨by simpa using h3⟩⟩
  ·
   have c3 : decide (i < (l0.length : Int)) = false := decide_eq_false hlt
   have he : i.toNat = l0.length := by omega
   have HI' := HI.out
   rw [he, List.drop_length] at HI'
   have HN := Aside0.mk HI'
   clear HI HI' he
   go_wp2
   go_ret
   exact ⟨by rw [← HN.out]; rfl, HB.out⟩
set_option maxHeartbeats 4000000 in
set_option maxRecDepth 100000 in
theorem impl_AskerAt.calls (A0 : Option Addr) (c0 : Nat) (l0 : List (S45)) (a1 : Int) (r : Int) (w : World) (hr0 : Kd.C k45 w A0 l0.length l0) (hc0 : l0.length ≤ c0) (h : impl_AskerAt.f l0 a1 = some r) :
  Calls Try.prog 178 #[.slice A0 l0.length c0, .int .i64 a1] w fun e w' => e = .returned (.int .i64 r) ∧ Below w.heap.size w w' := by
 have eg : ∀ args w, (callFunc 181 args).run Try.prog w = .ok (.enter 181 args) w := enters_of Try.func181 (by kernel_rfl) rfl
 have hcon := impl_AskerAt.search (fun x => x.f0 == a1) 181 #[.pointer (some ⟨w.heap.size, 0, none⟩)] eg A0 c0 l0 (w.alloc (.cells #[.int .i64 a1] 3)) (Kd.C_below hr0 ((Below.refl _ w).alloc (Nat.le_refl _) _))
  (fun W x hb => impl_AskerAt.closure a1 w.heap.size _ (by simp) (by simp) W x hb)
 have hr : Go.Proofs.YtahfemlfdpbkkaaV.idxF (fun x => x.f0 == a1) l0 0 = r := Option.some.inj h
 rw [hr] at hcon
 clear hr h hr0 hc0
 go_enter Try.func178, Try.ntmps178
 go_wp2_with (go_at_call 180; refine hcon.mono ?_; rintro e w' ⟨rfl, hb'⟩)
 go_ret
 exact ⟨rfl, ((Below.refl _ w).alloc (Nat.le_refl _) _).trans (hb'.mono (by simp))⟩


end Go.Proofs.Ytahfemlfdpbkkaa.PFnExactHouseOk
