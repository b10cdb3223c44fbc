-- Written by a program of this session (myprint.py, over the kit's print): contracts of FnExactCtlOk
import Derived.Test.YtahfemlfdpbkkaaPFnExactCtlOkx0
namespace Go.Proofs.Ytahfemlfdpbkkaa.PFnExactCtlOk
open Go.RowKit Go.Proofs.YtahfemlfdpbkkaaW.PrintWords Go.Proofs.YtahfemlfdpbkkaaW.PrintLast Go.Proofs.YtahfemlfdpbkkaaW.PrintMore Go.Proofs.YtahfemlfdpbkkaaV
attribute [local go_sem] max2_int min2_int max_two min_two max_three min_three max_four min_four   -- for this text's walks alone
set_option linter.unusedVariables false
set_option linter.unusedSimpArgs false

/-! ### laws_eqAsker: function 107 -/
def laws_eqAsker.f (a0_0 : Int) (a0_1 : ByteArray) (a0_2 : Int) (a0_3 : Int) (a0_4 : Int) (a0_5 : ByteArray) (a0_6 : Int) (a0_7 : Int) (a1_0 : Int) (a1_1 : ByteArray) (a1_2 : Int) (a1_3 : Int) (a1_4 : Int) (a1_5 : ByteArray) (a1_6 : Int) (a1_7 : Int) : Option (Bool) := if a0_0 = a1_0 then (if a0_1.toList = a1_1.toList then (if a0_2 = a1_2 then (if a0_3 = a1_3 then (if a0_4 = a1_4 then (if a0_5.toList = a1_5.toList then (if a0_6 = a1_6 then (if a0_7 = a1_7 then (some true) else (some false)) else (some false)) else (some false)) else (some false)) else (some false)) else (some false)) else (some false)) else (some false)
set_option maxHeartbeats 8000000 in
set_option maxRecDepth 100000 in
theorem laws_eqAsker.calls (a0_0 : Int) (a0_1 : ByteArray) (a0_2 : Int) (a0_3 : Int) (a0_4 : Int) (a0_5 : ByteArray) (a0_6 : Int) (a0_7 : Int) (a1_0 : Int) (a1_1 : ByteArray) (a1_2 : Int) (a1_3 : Int) (a1_4 : Int) (a1_5 : ByteArray) (a1_6 : Int) (a1_7 : Int) (r : Bool) (w : World) (hr_ : Aside0 (r = true)) (h : laws_eqAsker.f a0_0 a0_1 a0_2 a0_3 a0_4 a0_5 a0_6 a0_7 a1_0 a1_1 a1_2 a1_3 a1_4 a1_5 a1_6 a1_7 = some r) :
  Calls Try.prog 107 #[.agg #[.int .i64 a0_0, .string a0_1, .int .i64 a0_2, .int .i64 a0_3, .int .i64 a0_4, .string a0_5, .int .i64 a0_6, .int .i64 a0_7], .agg #[.int .i64 a1_0, .string a1_1, .int .i64 a1_2, .int .i64 a1_3, .int .i64 a1_4, .string a1_5, .int .i64 a1_6, .int .i64 a1_7]] w fun e w' => e = .returned (.bool r) ∧ Below w.heap.size w w' := by
 have hu45 := Try.underlying45
 have HB := Aside0.mk (Below.refl w.heap.size w)
 have H : (if a0_0 = a1_0 then (if a0_1.toList = a1_1.toList then (if a0_2 = a1_2 then (if a0_3 = a1_3 then (if a0_4 = a1_4 then (if a0_5.toList = a1_5.toList then (if a0_6 = a1_6 then (if a0_7 = a1_7 then (some true) else (some false)) else (some false)) else (some false)) else (some false)) else (some false)) else (some false)) else (some false)) else (some false)) = some r := h
 clear h
 by_cases c3 : a0_0 = a1_0
 ·
  rw [if_pos c3] at H
  have c3b0 : (a0_0 == a1_0) = true := beq_iff_eq.mpr c3
  have c3b1 : (a0_0 != a1_0) = false := bne_eq_false_iff_eq.mpr c3
  clear c3
  by_cases c4 : a0_1.toList = a1_1.toList
  ·
   rw [if_pos c4] at H
   have c4b0 : (a0_1.toList == a1_1.toList) = true := beq_iff_eq.mpr c4
   have c4b1 : (a0_1.toList != a1_1.toList) = false := bne_eq_false_iff_eq.mpr c4
   clear c4
   by_cases c5 : a0_2 = a1_2
   ·
    rw [if_pos c5] at H
    have c5b0 : (a0_2 == a1_2) = true := beq_iff_eq.mpr c5
    have c5b1 : (a0_2 != a1_2) = false := bne_eq_false_iff_eq.mpr c5
    clear c5
    by_cases c6 : a0_3 = a1_3
    ·
     rw [if_pos c6] at H
     have c6b0 : (a0_3 == a1_3) = true := beq_iff_eq.mpr c6
     have c6b1 : (a0_3 != a1_3) = false := bne_eq_false_iff_eq.mpr c6
     clear c6
     by_cases c7 : a0_4 = a1_4
     ·
      rw [if_pos c7] at H
      have c7b0 : (a0_4 == a1_4) = true := beq_iff_eq.mpr c7
      have c7b1 : (a0_4 != a1_4) = false := bne_eq_false_iff_eq.mpr c7
      clear c7
      by_cases c8 : a0_5.toList = a1_5.toList
      ·
       rw [if_pos c8] at H
       have c8b0 : (a0_5.toList == a1_5.toList) = true := beq_iff_eq.mpr c8
       have c8b1 : (a0_5.toList != a1_5.toList) = false := bne_eq_false_iff_eq.mpr c8
       clear c8
       by_cases c9 : a0_6 = a1_6
       ·
        rw [if_pos c9] at H
        have c9b0 : (a0_6 == a1_6) = true := beq_iff_eq.mpr c9
        have c9b1 : (a0_6 != a1_6) = false := bne_eq_false_iff_eq.mpr c9
        clear c9
        by_cases c10 : a0_7 = a1_7
        ·
         rw [if_pos c10] at H
         have c10b0 : (a0_7 == a1_7) = true := beq_iff_eq.mpr c10
         have c10b1 : (a0_7 != a1_7) = false := bne_eq_false_iff_eq.mpr c10
         clear c10
         obtain rfl := Option.some.inj H
         go_enter Try.func107, Try.ntmps107
         go_wp2_with (first | ((with_reducible refine gate_dst (N := 2) rfl ?_); refine box_event ?hg (N := 2) ?hd (cs := #[.int .i64 a0_0, .string a0_1, .int .i64 a0_2, .int .i64 a0_3, .int .i64 a0_4, .string a0_5, .int .i64 a0_6, .int .i64 a0_7]) (t := 45) ?hr ?_; (case hd => rfl); (case hg => rfl); (case hr => first | (go_simp; done) | (go_simp; rfl)); intro gb421 hg w11 hbox hb; have BK421 := am_ (hbox); have GW421 := am_ ((gG_ hg (qB HB))); have IGW421 := gI_ GW421; have GE421 := am_ ((gG_ hg (qB HB))); have IGE421 := gI_ GE421; replace HB := am_ (below_step (qB HB) hb); clear hb hbox hg) | ((with_reducible refine gate_dst (N := 3) rfl ?_); refine box_event ?hg (N := 3) ?hd (cs := #[.int .i64 a1_0, .string a1_1, .int .i64 a1_2, .int .i64 a1_3, .int .i64 a1_4, .string a1_5, .int .i64 a1_6, .int .i64 a1_7]) (t := 45) ?hr ?_; (case hd => rfl); (case hg => rfl); (case hr => first | (go_simp; done) | (go_simp; rfl)); intro gb422 hg w12 hbox hb; have BK422 := am_ (hbox); have GW422 := am_ ((gG_ hg (qB HB))); have IGW422 := gI_ GW422; have GE422 := am_ ((gG_ hg (qB HB))); have IGE422 := gI_ GE422; replace HB := am_ (below_step (qB HB) hb); have NB421_422 := am_ ((gN_ hg (qK BK421))); have NB422_421 := am_ ((gM_ hg (qK BK421))); replace BK421 := am_ (blk_below (qK BK421) hb); clear hb hbox hg; have hnb13 := NB421_422.out; have hnc13 := NB422_421.out; obtain ⟨hcz14_0, hcz14_1, hcz14_2, hcz14_3, hcz14_4, hcz14_5, hcz14_6, hcz14_7⟩ := cz8 BK421.out; obtain ⟨hfz14_0, hfz14_1, hfz14_2, hfz14_3, hfz14_4, hfz14_5, hfz14_6, hfz14_7⟩ := fz8 BK421.out; obtain ⟨hcz15_0, hcz15_1, hcz15_2, hcz15_3, hcz15_4, hcz15_5, hcz15_6, hcz15_7⟩ := cz8 BK422.out; obtain ⟨hfz15_0, hfz15_1, hfz15_2, hfz15_3, hfz15_4, hfz15_5, hfz15_6, hfz15_7⟩ := fz8 BK422.out))
         go_ret
         exact ⟨by first | rfl | (simp [errW_none, errW_some] <;> rfl) | (simp [*, errW_none, errW_some] <;> rfl), qB HB⟩
        ·
         rw [if_neg c10] at H
         have c10b0 : (a0_7 == a1_7) = false := beq_eq_false_iff_ne.mpr c10
         have c10b1 : (a0_7 != a1_7) = true := bne_iff_ne.mpr c10
         exact absurd (hr_.out ▸ H) (by simp)
       ·
        rw [if_neg c9] at H
        have c9b0 : (a0_6 == a1_6) = false := beq_eq_false_iff_ne.mpr c9
        have c9b1 : (a0_6 != a1_6) = true := bne_iff_ne.mpr c9
        exact absurd (hr_.out ▸ H) (by simp)
      ·
       rw [if_neg c8] at H
       have c8b0 : (a0_5.toList == a1_5.toList) = false := beq_eq_false_iff_ne.mpr c8
       have c8b1 : (a0_5.toList != a1_5.toList) = true := bne_iff_ne.mpr c8
       exact absurd (hr_.out ▸ H) (by simp)
     ·
      rw [if_neg c7] at H
      have c7b0 : (a0_4 == a1_4) = false := beq_eq_false_iff_ne.mpr c7
      have c7b1 : (a0_4 != a1_4) = true := bne_iff_ne.mpr c7
      exact absurd (hr_.out ▸ H) (by simp)
    ·
     rw [if_neg c6] at H
     have c6b0 : (a0_3 == a1_3) = false := beq_eq_false_iff_ne.mpr c6
     have c6b1 : (a0_3 != a1_3) = true := bne_iff_ne.mpr c6
     exact absurd (hr_.out ▸ H) (by simp)
   ·
    rw [if_neg c5] at H
    have c5b0 : (a0_2 == a1_2) = false := beq_eq_false_iff_ne.mpr c5
    have c5b1 : (a0_2 != a1_2) = true := bne_iff_ne.mpr c5
    exact absurd (hr_.out ▸ H) (by simp)
  ·
   rw [if_neg c4] at H
   have c4b0 : (a0_1.toList == a1_1.toList) = false := beq_eq_false_iff_ne.mpr c4
   have c4b1 : (a0_1.toList != a1_1.toList) = true := bne_iff_ne.mpr c4
   exact absurd (hr_.out ▸ H) (by simp)
 ·
  rw [if_neg c3] at H
  have c3b0 : (a0_0 == a1_0) = false := beq_eq_false_iff_ne.mpr c3
  have c3b1 : (a0_0 != a1_0) = true := bne_iff_ne.mpr c3
  exact absurd (hr_.out ▸ H) (by simp)

/-! ### laws_eqLine: function 108 -/
def laws_eqLine.f (a0_0 : Int) (a0_1 : ByteArray) (a0_2 : Int) (a0_3 : Int) (a0_4 : Int) (a0_5 : Int) (a0_6 : Int) (a1_0 : Int) (a1_1 : ByteArray) (a1_2 : Int) (a1_3 : Int) (a1_4 : Int) (a1_5 : Int) (a1_6 : Int) : Option (Bool) := if a0_0 = a1_0 then (if a0_1.toList = a1_1.toList then (if a0_2 = a1_2 then (if a0_3 = a1_3 then (if a0_4 = a1_4 then (if a0_5 = a1_5 then (if a0_6 = a1_6 then (some true) else (some false)) else (some false)) else (some false)) else (some false)) else (some false)) else (some false)) else (some false)
set_option maxHeartbeats 8000000 in
set_option maxRecDepth 100000 in
theorem laws_eqLine.calls (a0_0 : Int) (a0_1 : ByteArray) (a0_2 : Int) (a0_3 : Int) (a0_4 : Int) (a0_5 : Int) (a0_6 : Int) (a1_0 : Int) (a1_1 : ByteArray) (a1_2 : Int) (a1_3 : Int) (a1_4 : Int) (a1_5 : Int) (a1_6 : Int) (r : Bool) (w : World) (hr_ : Aside0 (r = true)) (h : laws_eqLine.f a0_0 a0_1 a0_2 a0_3 a0_4 a0_5 a0_6 a1_0 a1_1 a1_2 a1_3 a1_4 a1_5 a1_6 = some r) :
  Calls Try.prog 108 #[.agg #[.int .i64 a0_0, .string a0_1, .int .i64 a0_2, .int .i64 a0_3, .int .i64 a0_4, .int .i64 a0_5, .int .i64 a0_6], .agg #[.int .i64 a1_0, .string a1_1, .int .i64 a1_2, .int .i64 a1_3, .int .i64 a1_4, .int .i64 a1_5, .int .i64 a1_6]] w fun e w' => e = .returned (.bool r) ∧ Below w.heap.size w w' := by
 have hu46 := Try.underlying46
 have HB := Aside0.mk (Below.refl w.heap.size w)
 have H : (if a0_0 = a1_0 then (if a0_1.toList = a1_1.toList then (if a0_2 = a1_2 then (if a0_3 = a1_3 then (if a0_4 = a1_4 then (if a0_5 = a1_5 then (if a0_6 = a1_6 then (some true) else (some false)) else (some false)) else (some false)) else (some false)) else (some false)) else (some false)) else (some false)) = some r := h
 clear h
 by_cases c3 : a0_0 = a1_0
 ·
  rw [if_pos c3] at H
  have c3b0 : (a0_0 == a1_0) = true := beq_iff_eq.mpr c3
  have c3b1 : (a0_0 != a1_0) = false := bne_eq_false_iff_eq.mpr c3
  clear c3
  by_cases c4 : a0_1.toList = a1_1.toList
  ·
   rw [if_pos c4] at H
   have c4b0 : (a0_1.toList == a1_1.toList) = true := beq_iff_eq.mpr c4
   have c4b1 : (a0_1.toList != a1_1.toList) = false := bne_eq_false_iff_eq.mpr c4
   clear c4
   by_cases c5 : a0_2 = a1_2
   ·
    rw [if_pos c5] at H
    have c5b0 : (a0_2 == a1_2) = true := beq_iff_eq.mpr c5
    have c5b1 : (a0_2 != a1_2) = false := bne_eq_false_iff_eq.mpr c5
    clear c5
    by_cases c6 : a0_3 = a1_3
    ·
     rw [if_pos c6] at H
     have c6b0 : (a0_3 == a1_3) = true := beq_iff_eq.mpr c6
     have c6b1 : (a0_3 != a1_3) = false := bne_eq_false_iff_eq.mpr c6
     clear c6
     by_cases c7 : a0_4 = a1_4
     ·
      rw [if_pos c7] at H
      have c7b0 : (a0_4 == a1_4) = true := beq_iff_eq.mpr c7
      have c7b1 : (a0_4 != a1_4) = false := bne_eq_false_iff_eq.mpr c7
      clear c7
      by_cases c8 : a0_5 = a1_5
      ·
       rw [if_pos c8] at H
       have c8b0 : (a0_5 == a1_5) = true := beq_iff_eq.mpr c8
       have c8b1 : (a0_5 != a1_5) = false := bne_eq_false_iff_eq.mpr c8
       clear c8
       by_cases c9 : a0_6 = a1_6
       ·
        rw [if_pos c9] at H
        have c9b0 : (a0_6 == a1_6) = true := beq_iff_eq.mpr c9
        have c9b1 : (a0_6 != a1_6) = false := bne_eq_false_iff_eq.mpr c9
        clear c9
        obtain rfl := Option.some.inj H
        go_enter Try.func108, Try.ntmps108
        go_wp2_with (first | ((with_reducible refine gate_dst (N := 2) rfl ?_); refine box_event ?hg (N := 2) ?hd (cs := #[.int .i64 a0_0, .string a0_1, .int .i64 a0_2, .int .i64 a0_3, .int .i64 a0_4, .int .i64 a0_5, .int .i64 a0_6]) (t := 46) ?hr ?_; (case hd => rfl); (case hg => rfl); (case hr => first | (go_simp; done) | (go_simp; rfl)); intro gb423 hg w10 hbox hb; have BK423 := am_ (hbox); have GW423 := am_ ((gG_ hg (qB HB))); have IGW423 := gI_ GW423; have GE423 := am_ ((gG_ hg (qB HB))); have IGE423 := gI_ GE423; replace HB := am_ (below_step (qB HB) hb); clear hb hbox hg) | ((with_reducible refine gate_dst (N := 3) rfl ?_); refine box_event ?hg (N := 3) ?hd (cs := #[.int .i64 a1_0, .string a1_1, .int .i64 a1_2, .int .i64 a1_3, .int .i64 a1_4, .int .i64 a1_5, .int .i64 a1_6]) (t := 46) ?hr ?_; (case hd => rfl); (case hg => rfl); (case hr => first | (go_simp; done) | (go_simp; rfl)); intro gb424 hg w11 hbox hb; have BK424 := am_ (hbox); have GW424 := am_ ((gG_ hg (qB HB))); have IGW424 := gI_ GW424; have GE424 := am_ ((gG_ hg (qB HB))); have IGE424 := gI_ GE424; replace HB := am_ (below_step (qB HB) hb); have NB423_424 := am_ ((gN_ hg (qK BK423))); have NB424_423 := am_ ((gM_ hg (qK BK423))); replace BK423 := am_ (blk_below (qK BK423) hb); clear hb hbox hg; have hnb12 := NB423_424.out; have hnc12 := NB424_423.out; obtain ⟨hcz13_0, hcz13_1, hcz13_2, hcz13_3, hcz13_4, hcz13_5, hcz13_6⟩ := cz7 BK423.out; obtain ⟨hfz13_0, hfz13_1, hfz13_2, hfz13_3, hfz13_4, hfz13_5, hfz13_6⟩ := fz7 BK423.out; obtain ⟨hcz14_0, hcz14_1, hcz14_2, hcz14_3, hcz14_4, hcz14_5, hcz14_6⟩ := cz7 BK424.out; obtain ⟨hfz14_0, hfz14_1, hfz14_2, hfz14_3, hfz14_4, hfz14_5, hfz14_6⟩ := fz7 BK424.out))
        go_ret
        exact ⟨by first | rfl | (simp [errW_none, errW_some] <;> rfl) | (simp [*, errW_none, errW_some] <;> rfl), qB HB⟩
       ·
        rw [if_neg c9] at H
        have c9b0 : (a0_6 == a1_6) = false := beq_eq_false_iff_ne.mpr c9
        have c9b1 : (a0_6 != a1_6) = true := bne_iff_ne.mpr c9
        exact absurd (hr_.out ▸ H) (by simp)
      ·
       rw [if_neg c8] at H
       have c8b0 : (a0_5 == a1_5) = false := beq_eq_false_iff_ne.mpr c8
       have c8b1 : (a0_5 != a1_5) = true := bne_iff_ne.mpr c8
       exact absurd (hr_.out ▸ H) (by simp)
     ·
      rw [if_neg c7] at H
      have c7b0 : (a0_4 == a1_4) = false := beq_eq_false_iff_ne.mpr c7
      have c7b1 : (a0_4 != a1_4) = true := bne_iff_ne.mpr c7
      exact absurd (hr_.out ▸ H) (by simp)
    ·
     rw [if_neg c6] at H
     have c6b0 : (a0_3 == a1_3) = false := beq_eq_false_iff_ne.mpr c6
     have c6b1 : (a0_3 != a1_3) = true := bne_iff_ne.mpr c6
     exact absurd (hr_.out ▸ H) (by simp)
   ·
    rw [if_neg c5] at H
    have c5b0 : (a0_2 == a1_2) = false := beq_eq_false_iff_ne.mpr c5
    have c5b1 : (a0_2 != a1_2) = true := bne_iff_ne.mpr c5
    exact absurd (hr_.out ▸ H) (by simp)
  ·
   rw [if_neg c4] at H
   have c4b0 : (a0_1.toList == a1_1.toList) = false := beq_eq_false_iff_ne.mpr c4
   have c4b1 : (a0_1.toList != a1_1.toList) = true := bne_iff_ne.mpr c4
   exact absurd (hr_.out ▸ H) (by simp)
 ·
  rw [if_neg c3] at H
  have c3b0 : (a0_0 == a1_0) = false := beq_eq_false_iff_ne.mpr c3
  have c3b1 : (a0_0 != a1_0) = true := bne_iff_ne.mpr c3
  exact absurd (hr_.out ▸ H) (by simp)

/-! ### laws_eqItem: function 45 -/
def laws_eqItem.f (a0_0 : Int) (a0_1 : Int) (a0_2 : ByteArray) (a0_3 : Int) (a0_4 : Int) (a0_5 : Int) (a0_6 : ByteArray) (a0_7 : Int) (a0_8 : Int) (a0_9 : Int) (a0_10 : ByteArray) (a0_11 : Int) (a0_12 : Int) (a0_13 : Int) (a0_14 : Int) (a0_15 : Int) (a1_0 : Int) (a1_1 : Int) (a1_2 : ByteArray) (a1_3 : Int) (a1_4 : Int) (a1_5 : Int) (a1_6 : ByteArray) (a1_7 : Int) (a1_8 : Int) (a1_9 : Int) (a1_10 : ByteArray) (a1_11 : Int) (a1_12 : Int) (a1_13 : Int) (a1_14 : Int) (a1_15 : Int) : Option (Bool) := if a0_0 = a1_0 then ((laws_eqAsker.f a0_1 a0_2 a0_3 a0_4 a0_5 a0_6 a0_7 a0_8 a1_1 a1_2 a1_3 a1_4 a1_5 a1_6 a1_7 a1_8).bind fun t427 => (if t427 = true then ((laws_eqLine.f a0_9 a0_10 a0_11 a0_12 a0_13 a0_14 a0_15 a1_9 a1_10 a1_11 a1_12 a1_13 a1_14 a1_15).bind fun t428 => (if t428 = true then (some true) else (some false))) else (some false))) else (some false)
set_option maxHeartbeats 8000000 in
set_option maxRecDepth 100000 in
theorem laws_eqItem.calls (a0_0 : Int) (a0_1 : Int) (a0_2 : ByteArray) (a0_3 : Int) (a0_4 : Int) (a0_5 : Int) (a0_6 : ByteArray) (a0_7 : Int) (a0_8 : Int) (a0_9 : Int) (a0_10 : ByteArray) (a0_11 : Int) (a0_12 : Int) (a0_13 : Int) (a0_14 : Int) (a0_15 : Int) (a1_0 : Int) (a1_1 : Int) (a1_2 : ByteArray) (a1_3 : Int) (a1_4 : Int) (a1_5 : Int) (a1_6 : ByteArray) (a1_7 : Int) (a1_8 : Int) (a1_9 : Int) (a1_10 : ByteArray) (a1_11 : Int) (a1_12 : Int) (a1_13 : Int) (a1_14 : Int) (a1_15 : Int) (r : Bool) (w : World) (hr_ : Aside0 (r = true)) (h : laws_eqItem.f a0_0 a0_1 a0_2 a0_3 a0_4 a0_5 a0_6 a0_7 a0_8 a0_9 a0_10 a0_11 a0_12 a0_13 a0_14 a0_15 a1_0 a1_1 a1_2 a1_3 a1_4 a1_5 a1_6 a1_7 a1_8 a1_9 a1_10 a1_11 a1_12 a1_13 a1_14 a1_15 = some r) :
  Calls Try.prog 45 #[.agg #[.int .i64 a0_0, .int .i64 a0_1, .string a0_2, .int .i64 a0_3, .int .i64 a0_4, .int .i64 a0_5, .string a0_6, .int .i64 a0_7, .int .i64 a0_8, .int .i64 a0_9, .string a0_10, .int .i64 a0_11, .int .i64 a0_12, .int .i64 a0_13, .int .i64 a0_14, .int .i64 a0_15], .agg #[.int .i64 a1_0, .int .i64 a1_1, .string a1_2, .int .i64 a1_3, .int .i64 a1_4, .int .i64 a1_5, .string a1_6, .int .i64 a1_7, .int .i64 a1_8, .int .i64 a1_9, .string a1_10, .int .i64 a1_11, .int .i64 a1_12, .int .i64 a1_13, .int .i64 a1_14, .int .i64 a1_15]] w fun e w' => e = .returned (.bool r) ∧ Below w.heap.size w w' := by
 have hu48 := Try.underlying48
 have hu45 := Try.underlying45
 have hu46 := Try.underlying46
 have HB := Aside0.mk (Below.refl w.heap.size w)
 have H : (if a0_0 = a1_0 then ((laws_eqAsker.f a0_1 a0_2 a0_3 a0_4 a0_5 a0_6 a0_7 a0_8 a1_1 a1_2 a1_3 a1_4 a1_5 a1_6 a1_7 a1_8).bind fun t427 => (if t427 = true then ((laws_eqLine.f a0_9 a0_10 a0_11 a0_12 a0_13 a0_14 a0_15 a1_9 a1_10 a1_11 a1_12 a1_13 a1_14 a1_15).bind fun t428 => (if t428 = true then (some true) else (some false))) else (some false))) else (some false)) = some r := h
 clear h
 by_cases c3 : a0_0 = a1_0
 ·
  rw [if_pos c3] at H
  have c3b0 : (a0_0 == a1_0) = true := beq_iff_eq.mpr c3
  have c3b1 : (a0_0 != a1_0) = false := bne_eq_false_iff_eq.mpr c3
  clear c3
  replace H := Option.bind_eq_some_iff.mp H
  obtain ⟨t427, A40, H⟩ := H
  replace H : (if t427 = true then ((laws_eqLine.f a0_9 a0_10 a0_11 a0_12 a0_13 a0_14 a0_15 a1_9 a1_10 a1_11 a1_12 a1_13 a1_14 a1_15).bind fun t428 => (if t428 = true then (some true) else (some false))) else (some false)) = some r := H
  have A4 := Aside0.mk A40
  clear A40
  by_cases c5 : t427 = true
  ·
   subst c5
   have H1 : ((laws_eqLine.f a0_9 a0_10 a0_11 a0_12 a0_13 a0_14 a0_15 a1_9 a1_10 a1_11 a1_12 a1_13 a1_14 a1_15).bind fun t428 => (if t428 = true then (some true) else (some false))) = some r := by rw [if_pos rfl] at H; exact H
   clear H
   have H := H1
   clear H1
   replace H := Option.bind_eq_some_iff.mp H
   obtain ⟨t428, A60, H⟩ := H
   replace H : (if t428 = true then (some true) else (some false)) = some r := H
   have A6 := Aside0.mk A60
   clear A60
   by_cases c7 : t428 = true
   ·
    subst c7
    have H1 : (some true) = some r := by rw [if_pos rfl] at H; exact H
    clear H
    have H := H1
    clear H1
    obtain rfl := Option.some.inj H
    go_enter Try.func45, Try.ntmps45
    go_wp2_with (first | ((with_reducible refine gate_dst (N := 2) rfl ?_); refine box_event ?hg (N := 2) ?hd (cs := #[.int .i64 a0_0, .int .i64 a0_1, .string a0_2, .int .i64 a0_3, .int .i64 a0_4, .int .i64 a0_5, .string a0_6, .int .i64 a0_7, .int .i64 a0_8, .int .i64 a0_9, .string a0_10, .int .i64 a0_11, .int .i64 a0_12, .int .i64 a0_13, .int .i64 a0_14, .int .i64 a0_15]) (t := 48) ?hr ?_; (case hd => rfl); (case hg => rfl); (case hr => first | (go_simp; done) | (go_simp; rfl)); intro gb425 hg w8 hbox hb; have BK425 := am_ (hbox); have GW425 := am_ ((gG_ hg (qB HB))); have IGW425 := gI_ GW425; have GE425 := am_ ((gG_ hg (qB HB))); have IGE425 := gI_ GE425; replace HB := am_ (below_step (qB HB) hb); clear hb hbox hg) | ((with_reducible refine gate_dst (N := 3) rfl ?_); refine box_event ?hg (N := 3) ?hd (cs := #[.int .i64 a1_0, .int .i64 a1_1, .string a1_2, .int .i64 a1_3, .int .i64 a1_4, .int .i64 a1_5, .string a1_6, .int .i64 a1_7, .int .i64 a1_8, .int .i64 a1_9, .string a1_10, .int .i64 a1_11, .int .i64 a1_12, .int .i64 a1_13, .int .i64 a1_14, .int .i64 a1_15]) (t := 48) ?hr ?_; (case hd => rfl); (case hg => rfl); (case hr => first | (go_simp; done) | (go_simp; rfl)); intro gb426 hg w9 hbox hb; have BK426 := am_ (hbox); have GW426 := am_ ((gG_ hg (qB HB))); have IGW426 := gI_ GW426; have GE426 := am_ ((gG_ hg (qB HB))); have IGE426 := gI_ GE426; replace HB := am_ (below_step (qB HB) hb); have NB425_426 := am_ ((gN_ hg (qK BK425))); have NB426_425 := am_ ((gM_ hg (qK BK425))); replace BK425 := am_ (blk_below (qK BK425) hb); clear hb hbox hg; have hnb10 := NB425_426.out; have hnc10 := NB426_425.out; obtain ⟨hcz11_0, hcz11_1, hcz11_2, hcz11_3, hcz11_4, hcz11_5, hcz11_6, hcz11_7, hcz11_8, hcz11_9, hcz11_10, hcz11_11, hcz11_12, hcz11_13, hcz11_14, hcz11_15⟩ := cz16 BK425.out; obtain ⟨hfz11_0, hfz11_1, hfz11_2, hfz11_3, hfz11_4, hfz11_5, hfz11_6, hfz11_7, hfz11_8, hfz11_9, hfz11_10, hfz11_11, hfz11_12, hfz11_13, hfz11_14, hfz11_15⟩ := fz16 BK425.out; obtain ⟨hcz12_0, hcz12_1, hcz12_2, hcz12_3, hcz12_4, hcz12_5, hcz12_6, hcz12_7, hcz12_8, hcz12_9, hcz12_10, hcz12_11, hcz12_12, hcz12_13, hcz12_14, hcz12_15⟩ := cz16 BK426.out; obtain ⟨hfz12_0, hfz12_1, hfz12_2, hfz12_3, hfz12_4, hfz12_5, hfz12_6, hfz12_7, hfz12_8, hfz12_9, hfz12_10, hfz12_11, hfz12_12, hfz12_13, hfz12_14, hfz12_15⟩ := fz16 BK426.out) | ((with_reducible refine gate_callee (f := 107) rfl ?_); refine goesL_ (some 14) rfl rfl Try.func107 (by kernel_rfl) rfl #[.agg #[.int .i64 a0_1, .string a0_2, .int .i64 a0_3, .int .i64 a0_4, .int .i64 a0_5, .string a0_6, .int .i64 a0_7, .int .i64 a0_8], .agg #[.int .i64 a1_1, .string a1_2, .int .i64 a1_3, .int .i64 a1_4, .int .i64 a1_5, .string a1_6, .int .i64 a1_7, .int .i64 a1_8]] rfl (by (try simp only [List.map_toArray, List.map_cons, List.map_nil]); first | done | rfl | (simp only [List.length_drop, List.length_take]; rfl)) ?_; (with_reducible refine (laws_eqAsker.calls a0_1 a0_2 a0_3 a0_4 a0_5 a0_6 a0_7 a0_8 a1_1 a1_2 a1_3 a1_4 a1_5 a1_6 a1_7 a1_8 true _ ⟨rfl⟩ A4.out).mono ?_); rintro e w13 ⟨rfl, hb⟩; refine ⟨_, rfl, ?_⟩; replace BK425 := am_ (blk_below (qK BK425) hb); replace BK426 := am_ (blk_below (qK BK426) hb); replace HB := am_ (below_step (qB HB) hb); (try clear hb); (try clear hb2); (try clear hk); (try clear hi); obtain ⟨hcz14_0, hcz14_1, hcz14_2, hcz14_3, hcz14_4, hcz14_5, hcz14_6, hcz14_7, hcz14_8, hcz14_9, hcz14_10, hcz14_11, hcz14_12, hcz14_13, hcz14_14, hcz14_15⟩ := cz16 BK425.out; obtain ⟨hfz14_0, hfz14_1, hfz14_2, hfz14_3, hfz14_4, hfz14_5, hfz14_6, hfz14_7, hfz14_8, hfz14_9, hfz14_10, hfz14_11, hfz14_12, hfz14_13, hfz14_14, hfz14_15⟩ := fz16 BK425.out; obtain ⟨hcz15_0, hcz15_1, hcz15_2, hcz15_3, hcz15_4, hcz15_5, hcz15_6, hcz15_7, hcz15_8, hcz15_9, hcz15_10, hcz15_11, hcz15_12, hcz15_13, hcz15_14, hcz15_15⟩ := cz16 BK426.out; obtain ⟨hfz15_0, hfz15_1, hfz15_2, hfz15_3, hfz15_4, hfz15_5, hfz15_6, hfz15_7, hfz15_8, hfz15_9, hfz15_10, hfz15_11, hfz15_12, hfz15_13, hfz15_14, hfz15_15⟩ := fz16 BK426.out) | ((with_reducible refine gate_callee (f := 108) rfl ?_); refine goesL_ (some 20) rfl rfl Try.func108 (by kernel_rfl) rfl #[.agg #[.int .i64 a0_9, .string a0_10, .int .i64 a0_11, .int .i64 a0_12, .int .i64 a0_13, .int .i64 a0_14, .int .i64 a0_15], .agg #[.int .i64 a1_9, .string a1_10, .int .i64 a1_11, .int .i64 a1_12, .int .i64 a1_13, .int .i64 a1_14, .int .i64 a1_15]] rfl (by (try simp only [List.map_toArray, List.map_cons, List.map_nil]); first | done | rfl | (simp only [List.length_drop, List.length_take]; rfl)) ?_; (with_reducible refine (laws_eqLine.calls a0_9 a0_10 a0_11 a0_12 a0_13 a0_14 a0_15 a1_9 a1_10 a1_11 a1_12 a1_13 a1_14 a1_15 true _ ⟨rfl⟩ A6.out).mono ?_); rintro e w16 ⟨rfl, hb⟩; refine ⟨_, rfl, ?_⟩; replace BK425 := am_ (blk_below (qK BK425) hb); replace BK426 := am_ (blk_below (qK BK426) hb); replace HB := am_ (below_step (qB HB) hb); (try clear hb); (try clear hb2); (try clear hk); (try clear hi)))
    go_ret
    exact ⟨by first | rfl | (simp [errW_none, errW_some] <;> rfl) | (simp [*, errW_none, errW_some] <;> rfl), qB HB⟩
   ·
    replace c7 := Bool.eq_false_iff.mpr c7
    subst c7
    have H1 : (some false) = some r := by rw [if_neg (show ¬ (false = true) by decide)] at H; exact H
    clear H
    have H := H1
    clear H1
    exact absurd (hr_.out ▸ H) (by simp)
  ·
   replace c5 := Bool.eq_false_iff.mpr c5
   subst c5
   have H1 : (some false) = some r := by rw [if_neg (show ¬ (false = true) by decide)] at H; exact H
   clear H
   have H := H1
   clear H1
   exact absurd (hr_.out ▸ H) (by simp)
 ·
  rw [if_neg c3] at H
  have c3b0 : (a0_0 == a1_0) = false := beq_eq_false_iff_ne.mpr c3
  have c3b1 : (a0_0 != a1_0) = true := bne_iff_ne.mpr c3
  exact absurd (hr_.out ▸ H) (by simp)

/-! ### laws_eqItemS: function 113 -/
def laws_eqItemS.l0 : Nat → List (S48) → List (S48) → Int → Option (Bool)
 | 0, _, _, _ => none
 | k + 1, x0, x1, x5 => if x5 < (x0.length : Int) then (if 0 ≤ x5 then (if x5 < (x1.length : Int) then ((laws_eqItem.f ((rd_T48 x0 x5).f0) ((rd_T48 x0 x5).f1.f0) ((rd_T48 x0 x5).f1.f1) ((rd_T48 x0 x5).f1.f2) ((rd_T48 x0 x5).f1.f3) ((rd_T48 x0 x5).f1.f4) ((rd_T48 x0 x5).f1.f5) ((rd_T48 x0 x5).f1.f6) ((rd_T48 x0 x5).f1.f7) ((rd_T48 x0 x5).f2.f0) ((rd_T48 x0 x5).f2.f1) ((rd_T48 x0 x5).f2.f2) ((rd_T48 x0 x5).f2.f3) ((rd_T48 x0 x5).f2.f4) ((rd_T48 x0 x5).f2.f5) ((rd_T48 x0 x5).f2.f6) ((rd_T48 x1 x5).f0) ((rd_T48 x1 x5).f1.f0) ((rd_T48 x1 x5).f1.f1) ((rd_T48 x1 x5).f1.f2) ((rd_T48 x1 x5).f1.f3) ((rd_T48 x1 x5).f1.f4) ((rd_T48 x1 x5).f1.f5) ((rd_T48 x1 x5).f1.f6) ((rd_T48 x1 x5).f1.f7) ((rd_T48 x1 x5).f2.f0) ((rd_T48 x1 x5).f2.f1) ((rd_T48 x1 x5).f2.f2) ((rd_T48 x1 x5).f2.f3) ((rd_T48 x1 x5).f2.f4) ((rd_T48 x1 x5).f2.f5) ((rd_T48 x1 x5).f2.f6)).bind fun t431 => (if t431 = true then (laws_eqItemS.l0 k x0 x1 (wrap64 (x5 + 1))) else (some false))) else (none)) else (none)) else (some true)
def laws_eqItemS.f (k : Nat) (l0 : List (S48)) (l1 : List (S48)) : Option (Bool) := if (l0.length : Int) = (l1.length : Int) then (laws_eqItemS.l0 k l0 l1 0) else (some false)
theorem laws_eqItemS.mono_l : ∀ k, (∀ y0 y1 y2, LeO (laws_eqItemS.l0 k y0 y1 y2) (laws_eqItemS.l0 (k + 1) y0 y1 y2))
 | 0 => fun _ _ _ r h => by simp [laws_eqItemS.l0] at h
 | k + 1 => by
  have ih0 := laws_eqItemS.mono_l k
  ·
   intro y0 y1 y2
   unfold laws_eqItemS.l0
   repeat' first
   | (with_reducible exact ih0 _ _ _)
   | (with_reducible exact LeO.refl _)
   | (with_reducible exact LeO.none _)
   | (with_reducible refine LeO.ite ?_ ?_)
   | (with_reducible refine LeO.bind ?_ (fun _ => ?_))
   | exact ih0 _ _ _
   | exact LeO.none _
   | refine LeO.ite ?_ ?_
   | refine LeO.bind ?_ (fun _ => ?_)
theorem laws_eqItemS.mono : ∀ a0 a1 k, LeO (laws_eqItemS.f k a0 a1) (laws_eqItemS.f (k + 1) a0 a1) := by
 intro a0 a1 k
 have ih0 := laws_eqItemS.mono_l k
 unfold laws_eqItemS.f
 repeat' first
   | (with_reducible exact ih0 _ _ _)
   | (with_reducible exact LeO.refl _)
   | (with_reducible exact LeO.none _)
   | (with_reducible refine LeO.ite ?_ ?_)
   | (with_reducible refine LeO.bind ?_ (fun _ => ?_))
   | exact ih0 _ _ _
   | exact LeO.none _
   | refine LeO.ite ?_ ?_
   | refine LeO.bind ?_ (fun _ => ?_)
def laws_eqItemS.T6 : Bool × List (List Nat × List Nat) := (true, [([], []), ([], []), ([0, 1], [0, 1]), ([2], [2]), ([], []), ([], []), ([4, 5], [4, 5]), ([6], [6]), ([3, 7], [3, 7]), ([8], [8])])
def laws_eqItemS.B6 : List Nat := [0, 0, 3, 7, 0, 0, 48, 112, 255, 511]
theorem laws_eqItemS.tab6 : rtab .any (opsOf Try.f113 6) = laws_eqItemS.T6 := by kernel_rfl
theorem laws_eqItemS.bits6 : waitsOk laws_eqItemS.T6.2 laws_eqItemS.B6 = true := by kernel_rfl
set_option maxHeartbeats 8000000 in
set_option maxRecDepth 100000 in
theorem laws_eqItemS.calls (k : Nat) (A0 : Option Addr) (c0 : Nat) (l0 : List (S48)) (A1 : Option Addr) (c1 : Nat) (l1 : List (S48)) (r : Bool) (w : World) (hr0 : Kd.C k48 w A0 l0.length l0) (hc0 : l0.length ≤ c0) (hr1 : Kd.C k48 w A1 l1.length l1) (hc1 : l1.length ≤ c1) (hr_ : Aside0 (r = true)) (h : laws_eqItemS.f k l0 l1 = some r) :
  Calls Try.prog 113 #[.slice A0 l0.length c0, .slice A1 l1.length c1] w fun e w' => e = .returned (.bool r) ∧ Below w.heap.size w w' := by
 have hu48 := Try.underlying48
 have HR0 := Aside0.mk hr0
 have HC0 := Aside0.mk hc0
 clear hr0 hc0
 have HR1 := Aside0.mk hr1
 have HC1 := Aside0.mk hc1
 clear hr1 hc1
 have HB := Aside0.mk (Below.refl w.heap.size w)
 have H : (if (l0.length : Int) = (l1.length : Int) then (laws_eqItemS.l0 k l0 l1 0) else (some false)) = some r := h
 clear h
 by_cases c3 : (l0.length : Int) = (l1.length : Int)
 ·
  rw [if_pos c3] at H
  have c3b0 : ((l0.length : Int) == (l1.length : Int)) = true := beq_iff_eq.mpr c3
  have c3b1 : ((l0.length : Int) != (l1.length : Int)) = false := bne_eq_false_iff_eq.mpr c3
  have c3b2 : (l0.length == l1.length) = true := by first | simpa using c3 | (simp at c3 ⊢; omega)
  clear c3
  have H' := Aside0.mk H
  clear H
  go_enter Try.func113, Try.ntmps113
  go_wp2
  go_loopg [5] k (fun kq v5 w' => ∃ (x5_1 : Int), v5 = .int .i64 x5_1 ∧ Aside0 (laws_eqItemS.l0 kq l0 l1 x5_1 = some r) ∧ Aside0 (kq ≤ k) ∧ Aside0 (Below w.heap.size w w'))
  case atStart => exact ⟨(0), (by first | rfl | (simp; done) | (simp [*]; done) | (simp [Go.Proofs.YtahfemlfdpbkkaaV.bne_nil, Go.Proofs.YtahfemlfdpbkkaaV.beq_nil]; done)), H', ⟨Nat.le_refl _⟩, ⟨qB HB⟩⟩
  case round =>
   clear H'
   try clear c1
   try clear p2
   try clear c3
   try clear c3b0
   try clear c3b1
   try clear c3b2
   obtain ⟨x5_1, rfl, HA, HK1, HB⟩ := hrel
   cases gk with
   | zero => exact absurd HA.out (by simp [laws_eqItemS.l0])
   | succ k1 =>
    have H := HA.out
    clear HA
    simp only [laws_eqItemS.l0] at H
    by_cases c4 : x5_1 < (l0.length : Int)
    ·
     rw [if_pos c4] at H
     have c4b0 : decide (x5_1 < (l0.length : Int)) = true := decide_eq_true c4
     clear c4
     by_cases c5 : 0 ≤ x5_1
     ·
      rw [if_pos c5] at H
      have c5b0 : decide (0 ≤ x5_1) = true := decide_eq_true c5
      clear c5
      by_cases c6 : x5_1 < (l1.length : Int)
      ·
       rw [if_pos c6] at H
       have c6b0 : decide (x5_1 < (l1.length : Int)) = true := decide_eq_true c6
       clear c6
       replace H := Option.bind_eq_some_iff.mp H
       obtain ⟨t431, A70, H⟩ := H
       replace H : (if t431 = true then (laws_eqItemS.l0 k1 l0 l1 (wrap64 (x5_1 + 1))) else (some false)) = some r := H
       have A7 := Aside0.mk A70
       clear A70
       by_cases c8 : t431 = true
       ·
        subst c8
        have H1 : (laws_eqItemS.l0 k1 l0 l1 (wrap64 (x5_1 + 1))) = some r := by rw [if_pos rfl] at H; exact H
        clear H
        have H := H1
        clear H1
        have H' := Aside0.mk H
        clear H
        try go_wp2
        replace HB := am_ (below_drew1 HB.out)
        have p429 : 0 ≤ (x5_1 : Int) := of_decide_eq_true (by first | (with_reducible assumption) | assumption)
        have q429 : x5_1 < (l0.length : Int) := of_decide_eq_true (by first | (with_reducible assumption) | assumption)
        obtain ⟨ad429, e429, hx429_0, hx429_1, hx429_2, hx429_3, hx429_4, hx429_5, hx429_6, hx429_7, hx429_8, hx429_9, hx429_10, hx429_11, hx429_12, hx429_13, hx429_14, hx429_15⟩ := at_T48 HR0.out x5_1 p429 q429
        have hw429_15 := hx429_15
        have hw429_14 := hx429_14
        have hw429_13 := hx429_13
        have hw429_12 := hx429_12
        have hw429_11 := hx429_11
        have hw429_10 := hx429_10
        have hw429_9 := hx429_9
        have hw429_8 := hx429_8
        have hw429_7 := hx429_7
        have hw429_6 := hx429_6
        have hw429_5 := hx429_5
        have hw429_4 := hx429_4
        have hw429_3 := hx429_3
        have hw429_2 := hx429_2
        have hw429_1 := hx429_1
        have hw429_0 := hx429_0
        cases e429
        replace hx429_0 := (HB.out.cell (World.block_lt_of_cell? w _ hx429_0)).trans hx429_0
        replace hx429_1 := (HB.out.cell (World.block_lt_of_cell? w _ hx429_1)).trans hx429_1
        replace hx429_2 := (HB.out.cell (World.block_lt_of_cell? w _ hx429_2)).trans hx429_2
        replace hx429_3 := (HB.out.cell (World.block_lt_of_cell? w _ hx429_3)).trans hx429_3
        replace hx429_4 := (HB.out.cell (World.block_lt_of_cell? w _ hx429_4)).trans hx429_4
        replace hx429_5 := (HB.out.cell (World.block_lt_of_cell? w _ hx429_5)).trans hx429_5
        replace hx429_6 := (HB.out.cell (World.block_lt_of_cell? w _ hx429_6)).trans hx429_6
        replace hx429_7 := (HB.out.cell (World.block_lt_of_cell? w _ hx429_7)).trans hx429_7
        replace hx429_8 := (HB.out.cell (World.block_lt_of_cell? w _ hx429_8)).trans hx429_8
        replace hx429_9 := (HB.out.cell (World.block_lt_of_cell? w _ hx429_9)).trans hx429_9
        replace hx429_10 := (HB.out.cell (World.block_lt_of_cell? w _ hx429_10)).trans hx429_10
        replace hx429_11 := (HB.out.cell (World.block_lt_of_cell? w _ hx429_11)).trans hx429_11
        replace hx429_12 := (HB.out.cell (World.block_lt_of_cell? w _ hx429_12)).trans hx429_12
        replace hx429_13 := (HB.out.cell (World.block_lt_of_cell? w _ hx429_13)).trans hx429_13
        replace hx429_14 := (HB.out.cell (World.block_lt_of_cell? w _ hx429_14)).trans hx429_14
        replace hx429_15 := (HB.out.cell (World.block_lt_of_cell? w _ hx429_15)).trans hx429_15
        replace p429 := eq_true p429
        replace q429 := eq_true q429
        have p430 : 0 ≤ (x5_1 : Int) := of_decide_eq_true (by first | (with_reducible assumption) | assumption)
        have q430 : x5_1 < (l1.length : Int) := of_decide_eq_true (by first | (with_reducible assumption) | assumption)
        obtain ⟨ad430, e430, hx430_0, hx430_1, hx430_2, hx430_3, hx430_4, hx430_5, hx430_6, hx430_7, hx430_8, hx430_9, hx430_10, hx430_11, hx430_12, hx430_13, hx430_14, hx430_15⟩ := at_T48 HR1.out x5_1 p430 q430
        have hw430_15 := hx430_15
        have hw430_14 := hx430_14
        have hw430_13 := hx430_13
        have hw430_12 := hx430_12
        have hw430_11 := hx430_11
        have hw430_10 := hx430_10
        have hw430_9 := hx430_9
        have hw430_8 := hx430_8
        have hw430_7 := hx430_7
        have hw430_6 := hx430_6
        have hw430_5 := hx430_5
        have hw430_4 := hx430_4
        have hw430_3 := hx430_3
        have hw430_2 := hx430_2
        have hw430_1 := hx430_1
        have hw430_0 := hx430_0
        cases e430
        replace hx430_0 := (HB.out.cell (World.block_lt_of_cell? w _ hx430_0)).trans hx430_0
        replace hx430_1 := (HB.out.cell (World.block_lt_of_cell? w _ hx430_1)).trans hx430_1
        replace hx430_2 := (HB.out.cell (World.block_lt_of_cell? w _ hx430_2)).trans hx430_2
        replace hx430_3 := (HB.out.cell (World.block_lt_of_cell? w _ hx430_3)).trans hx430_3
        replace hx430_4 := (HB.out.cell (World.block_lt_of_cell? w _ hx430_4)).trans hx430_4
        replace hx430_5 := (HB.out.cell (World.block_lt_of_cell? w _ hx430_5)).trans hx430_5
        replace hx430_6 := (HB.out.cell (World.block_lt_of_cell? w _ hx430_6)).trans hx430_6
        replace hx430_7 := (HB.out.cell (World.block_lt_of_cell? w _ hx430_7)).trans hx430_7
        replace hx430_8 := (HB.out.cell (World.block_lt_of_cell? w _ hx430_8)).trans hx430_8
        replace hx430_9 := (HB.out.cell (World.block_lt_of_cell? w _ hx430_9)).trans hx430_9
        replace hx430_10 := (HB.out.cell (World.block_lt_of_cell? w _ hx430_10)).trans hx430_10
        replace hx430_11 := (HB.out.cell (World.block_lt_of_cell? w _ hx430_11)).trans hx430_11
        replace hx430_12 := (HB.out.cell (World.block_lt_of_cell? w _ hx430_12)).trans hx430_12
        replace hx430_13 := (HB.out.cell (World.block_lt_of_cell? w _ hx430_13)).trans hx430_13
        replace hx430_14 := (HB.out.cell (World.block_lt_of_cell? w _ hx430_14)).trans hx430_14
        replace hx430_15 := (HB.out.cell (World.block_lt_of_cell? w _ hx430_15)).trans hx430_15
        replace p430 := eq_true p430
        replace q430 := eq_true q430
        refine start_ (n := 10) (S := fun w' => w'.cell? (ad429.add ((x5_1).toNat * 16)) = some (.int .i64 ((rd_T48 l0 x5_1).f0)) ∧ w'.cell? ⟨(ad429.add ((x5_1).toNat * 16)).block, (ad429.add ((x5_1).toNat * 16)).off + 1, none⟩ = some (.int .i64 ((rd_T48 l0 x5_1).f1.f0)) ∧ w'.cell? ⟨(ad429.add ((x5_1).toNat * 16)).block, (ad429.add ((x5_1).toNat * 16)).off + 2, none⟩ = some (.string ((rd_T48 l0 x5_1).f1.f1)) ∧ w'.cell? ⟨(ad429.add ((x5_1).toNat * 16)).block, (ad429.add ((x5_1).toNat * 16)).off + 3, none⟩ = some (.int .i64 ((rd_T48 l0 x5_1).f1.f2)) ∧ w'.cell? ⟨(ad429.add ((x5_1).toNat * 16)).block, (ad429.add ((x5_1).toNat * 16)).off + 4, none⟩ = some (.int .i64 ((rd_T48 l0 x5_1).f1.f3)) ∧ w'.cell? ⟨(ad429.add ((x5_1).toNat * 16)).block, (ad429.add ((x5_1).toNat * 16)).off + 5, none⟩ = some (.int .i64 ((rd_T48 l0 x5_1).f1.f4)) ∧ w'.cell? ⟨(ad429.add ((x5_1).toNat * 16)).block, (ad429.add ((x5_1).toNat * 16)).off + 6, none⟩ = some (.string ((rd_T48 l0 x5_1).f1.f5)) ∧ w'.cell? ⟨(ad429.add ((x5_1).toNat * 16)).block, (ad429.add ((x5_1).toNat * 16)).off + 7, none⟩ = some (.int .i64 ((rd_T48 l0 x5_1).f1.f6)) ∧ w'.cell? ⟨(ad429.add ((x5_1).toNat * 16)).block, (ad429.add ((x5_1).toNat * 16)).off + 8, none⟩ = some (.int .i64 ((rd_T48 l0 x5_1).f1.f7)) ∧ w'.cell? ⟨(ad429.add ((x5_1).toNat * 16)).block, (ad429.add ((x5_1).toNat * 16)).off + 9, none⟩ = some (.int .i64 ((rd_T48 l0 x5_1).f2.f0)) ∧ w'.cell? ⟨(ad429.add ((x5_1).toNat * 16)).block, (ad429.add ((x5_1).toNat * 16)).off + 10, none⟩ = some (.string ((rd_T48 l0 x5_1).f2.f1)) ∧ w'.cell? ⟨(ad429.add ((x5_1).toNat * 16)).block, (ad429.add ((x5_1).toNat * 16)).off + 11, none⟩ = some (.int .i64 ((rd_T48 l0 x5_1).f2.f2)) ∧ w'.cell? ⟨(ad429.add ((x5_1).toNat * 16)).block, (ad429.add ((x5_1).toNat * 16)).off + 12, none⟩ = some (.int .i64 ((rd_T48 l0 x5_1).f2.f3)) ∧ w'.cell? ⟨(ad429.add ((x5_1).toNat * 16)).block, (ad429.add ((x5_1).toNat * 16)).off + 13, none⟩ = some (.int .i64 ((rd_T48 l0 x5_1).f2.f4)) ∧ w'.cell? ⟨(ad429.add ((x5_1).toNat * 16)).block, (ad429.add ((x5_1).toNat * 16)).off + 14, none⟩ = some (.int .i64 ((rd_T48 l0 x5_1).f2.f5)) ∧ w'.cell? ⟨(ad429.add ((x5_1).toNat * 16)).block, (ad429.add ((x5_1).toNat * 16)).off + 15, none⟩ = some (.int .i64 ((rd_T48 l0 x5_1).f2.f6)) ∧ w'.cell? (ad430.add ((x5_1).toNat * 16)) = some (.int .i64 ((rd_T48 l1 x5_1).f0)) ∧ w'.cell? ⟨(ad430.add ((x5_1).toNat * 16)).block, (ad430.add ((x5_1).toNat * 16)).off + 1, none⟩ = some (.int .i64 ((rd_T48 l1 x5_1).f1.f0)) ∧ w'.cell? ⟨(ad430.add ((x5_1).toNat * 16)).block, (ad430.add ((x5_1).toNat * 16)).off + 2, none⟩ = some (.string ((rd_T48 l1 x5_1).f1.f1)) ∧ w'.cell? ⟨(ad430.add ((x5_1).toNat * 16)).block, (ad430.add ((x5_1).toNat * 16)).off + 3, none⟩ = some (.int .i64 ((rd_T48 l1 x5_1).f1.f2)) ∧ w'.cell? ⟨(ad430.add ((x5_1).toNat * 16)).block, (ad430.add ((x5_1).toNat * 16)).off + 4, none⟩ = some (.int .i64 ((rd_T48 l1 x5_1).f1.f3)) ∧ w'.cell? ⟨(ad430.add ((x5_1).toNat * 16)).block, (ad430.add ((x5_1).toNat * 16)).off + 5, none⟩ = some (.int .i64 ((rd_T48 l1 x5_1).f1.f4)) ∧ w'.cell? ⟨(ad430.add ((x5_1).toNat * 16)).block, (ad430.add ((x5_1).toNat * 16)).off + 6, none⟩ = some (.string ((rd_T48 l1 x5_1).f1.f5)) ∧ w'.cell? ⟨(ad430.add ((x5_1).toNat * 16)).block, (ad430.add ((x5_1).toNat * 16)).off + 7, none⟩ = some (.int .i64 ((rd_T48 l1 x5_1).f1.f6)) ∧ w'.cell? ⟨(ad430.add ((x5_1).toNat * 16)).block, (ad430.add ((x5_1).toNat * 16)).off + 8, none⟩ = some (.int .i64 ((rd_T48 l1 x5_1).f1.f7)) ∧ w'.cell? ⟨(ad430.add ((x5_1).toNat * 16)).block, (ad430.add ((x5_1).toNat * 16)).off + 9, none⟩ = some (.int .i64 ((rd_T48 l1 x5_1).f2.f0)) ∧ w'.cell? ⟨(ad430.add ((x5_1).toNat * 16)).block, (ad430.add ((x5_1).toNat * 16)).off + 10, none⟩ = some (.string ((rd_T48 l1 x5_1).f2.f1)) ∧ w'.cell? ⟨(ad430.add ((x5_1).toNat * 16)).block, (ad430.add ((x5_1).toNat * 16)).off + 11, none⟩ = some (.int .i64 ((rd_T48 l1 x5_1).f2.f2)) ∧ w'.cell? ⟨(ad430.add ((x5_1).toNat * 16)).block, (ad430.add ((x5_1).toNat * 16)).off + 12, none⟩ = some (.int .i64 ((rd_T48 l1 x5_1).f2.f3)) ∧ w'.cell? ⟨(ad430.add ((x5_1).toNat * 16)).block, (ad430.add ((x5_1).toNat * 16)).off + 13, none⟩ = some (.int .i64 ((rd_T48 l1 x5_1).f2.f4)) ∧ w'.cell? ⟨(ad430.add ((x5_1).toNat * 16)).block, (ad430.add ((x5_1).toNat * 16)).off + 14, none⟩ = some (.int .i64 ((rd_T48 l1 x5_1).f2.f5)) ∧ w'.cell? ⟨(ad430.add ((x5_1).toNat * 16)).block, (ad430.add ((x5_1).toNat * 16)).off + 15, none⟩ = some (.int .i64 ((rd_T48 l1 x5_1).f2.f6))) (ds := []) #[false, false, false, false, false, false, false, false, false, false] (by kernel_rfl) rfl rfl ⟨((HB.out.cell (World.block_lt_of_cell? w _ hw429_0)).trans hw429_0), ((HB.out.cell (World.block_lt_of_cell? w _ hw429_1)).trans hw429_1), ((HB.out.cell (World.block_lt_of_cell? w _ hw429_2)).trans hw429_2), ((HB.out.cell (World.block_lt_of_cell? w _ hw429_3)).trans hw429_3), ((HB.out.cell (World.block_lt_of_cell? w _ hw429_4)).trans hw429_4), ((HB.out.cell (World.block_lt_of_cell? w _ hw429_5)).trans hw429_5), ((HB.out.cell (World.block_lt_of_cell? w _ hw429_6)).trans hw429_6), ((HB.out.cell (World.block_lt_of_cell? w _ hw429_7)).trans hw429_7), ((HB.out.cell (World.block_lt_of_cell? w _ hw429_8)).trans hw429_8), ((HB.out.cell (World.block_lt_of_cell? w _ hw429_9)).trans hw429_9), ((HB.out.cell (World.block_lt_of_cell? w _ hw429_10)).trans hw429_10), ((HB.out.cell (World.block_lt_of_cell? w _ hw429_11)).trans hw429_11), ((HB.out.cell (World.block_lt_of_cell? w _ hw429_12)).trans hw429_12), ((HB.out.cell (World.block_lt_of_cell? w _ hw429_13)).trans hw429_13), ((HB.out.cell (World.block_lt_of_cell? w _ hw429_14)).trans hw429_14), ((HB.out.cell (World.block_lt_of_cell? w _ hw429_15)).trans hw429_15), ((HB.out.cell (World.block_lt_of_cell? w _ hw430_0)).trans hw430_0), ((HB.out.cell (World.block_lt_of_cell? w _ hw430_1)).trans hw430_1), ((HB.out.cell (World.block_lt_of_cell? w _ hw430_2)).trans hw430_2), ((HB.out.cell (World.block_lt_of_cell? w _ hw430_3)).trans hw430_3), ((HB.out.cell (World.block_lt_of_cell? w _ hw430_4)).trans hw430_4), ((HB.out.cell (World.block_lt_of_cell? w _ hw430_5)).trans hw430_5), ((HB.out.cell (World.block_lt_of_cell? w _ hw430_6)).trans hw430_6), ((HB.out.cell (World.block_lt_of_cell? w _ hw430_7)).trans hw430_7), ((HB.out.cell (World.block_lt_of_cell? w _ hw430_8)).trans hw430_8), ((HB.out.cell (World.block_lt_of_cell? w _ hw430_9)).trans hw430_9), ((HB.out.cell (World.block_lt_of_cell? w _ hw430_10)).trans hw430_10), ((HB.out.cell (World.block_lt_of_cell? w _ hw430_11)).trans hw430_11), ((HB.out.cell (World.block_lt_of_cell? w _ hw430_12)).trans hw430_12), ((HB.out.cell (World.block_lt_of_cell? w _ hw430_13)).trans hw430_13), ((HB.out.cell (World.block_lt_of_cell? w _ hw430_14)).trans hw430_14), ((HB.out.cell (World.block_lt_of_cell? w _ hw430_15)).trans hw430_15)⟩ (fun hHeld => ?_); refine with_tabW laws_eqItemS.tab6 laws_eqItemS.bits6 (fun HT_ HW_ => ?_)
        generalize wr.drew = w9 at HB hx429_0 hx429_1 hx429_10 hx429_11 hx429_12 hx429_13 hx429_14 hx429_15 hx429_2 hx429_3 hx429_4 hx429_5 hx429_6 hx429_7 hx429_8 hx429_9 hx430_0 hx430_1 hx430_10 hx430_11 hx430_12 hx430_13 hx430_14 hx430_15 hx430_2 hx430_3 hx430_4 hx430_5 hx430_6 hx430_7 hx430_8 hx430_9 hHeld ⊢
        refine pure_ (i := 0) (N := some 17) (v := ?_) (a' := ?_) #[true, false, false, false, false, false, false, false, false, false] rfl rfl (any_of HT_.out (by kernel_rfl)) (fun _ _ _ h => h) (Or.inl ⟨by rfl, ?_⟩) ?_ ?_
        rotate_left
        ·
         intro w'
         go_simp
         with_reducible rfl
        rotate_left
        ·
         simp only [Act.put, List.setIfInBounds_toArray, List.set_cons_zero, List.set_cons_succ, i64_w, i32_w]
         rfl
        refine pure_ (i := 1) (N := some 18) (v := ?_) (a' := ?_) #[true, true, false, false, false, false, false, false, false, false] rfl rfl (any_of HT_.out (by kernel_rfl)) (fun _ _ _ h => h) (Or.inl ⟨by rfl, ?_⟩) ?_ ?_
        rotate_left
        ·
         intro w'
         go_simp
         with_reducible rfl
        rotate_left
        ·
         simp only [Act.put, List.setIfInBounds_toArray, List.set_cons_zero, List.set_cons_succ, i64_w, i32_w]
         rfl
        refine pure_ (i := 2) (N := some 19) (v := ?_) (a' := ?_) #[true, true, true, false, false, false, false, false, false, false] rfl rfl (any_of HT_.out (by kernel_rfl)) (fun _ _ _ h => h) (Or.inl ⟨by rfl, ?_⟩) ?_ ?_
        rotate_left
        ·
         intro w'
         go_simp
         with_reducible rfl
        rotate_left
        ·
         simp only [Act.put, List.setIfInBounds_toArray, List.set_cons_zero, List.set_cons_succ, i64_w, i32_w]
         rfl
        refine pure_ (i := 4) (N := some 21) (v := ?_) (a' := ?_) #[true, true, true, false, true, false, false, false, false, false] rfl rfl (any_of HT_.out (by kernel_rfl)) (fun _ _ _ h => h) (Or.inl ⟨by rfl, ?_⟩) ?_ ?_
        rotate_left
        ·
         intro w'
         go_simp
         with_reducible rfl
        rotate_left
        ·
         simp only [Act.put, List.setIfInBounds_toArray, List.set_cons_zero, List.set_cons_succ, i64_w, i32_w]
         rfl
        refine pure_ (i := 5) (N := some 22) (v := ?_) (a' := ?_) #[true, true, true, false, true, true, false, false, false, false] rfl rfl (any_of HT_.out (by kernel_rfl)) (fun _ _ _ h => h) (Or.inl ⟨by rfl, ?_⟩) ?_ ?_
        rotate_left
        ·
         intro w'
         go_simp
         with_reducible rfl
        rotate_left
        ·
         simp only [Act.put, List.setIfInBounds_toArray, List.set_cons_zero, List.set_cons_succ, i64_w, i32_w]
         rfl
        refine pure_ (i := 6) (N := some 23) (v := ?_) (a' := ?_) #[true, true, true, false, true, true, true, false, false, false] rfl rfl (any_of HT_.out (by kernel_rfl)) (fun _ _ _ h => h) (Or.inl ⟨by rfl, ?_⟩) ?_ ?_
        rotate_left
        ·
         intro w'
         go_simp
         with_reducible rfl
        rotate_left
        ·
         simp only [Act.put, List.setIfInBounds_toArray, List.set_cons_zero, List.set_cons_succ, i64_w, i32_w]
         rfl
        refine take_ (i := 3) (N := some 20) (v := ?_) (a' := ?_) #[true, true, true, true, true, true, true, false, false, false] rfl rfl (take_ofW HT_.out HW_.out (by kernel_rfl)) (fun _ _ _ h => h) (Or.inl ⟨by rfl, ?_⟩) hHeld ?_ ?_
        rotate_left
        ·
         rintro w' ⟨s0, s1, s2, s3, s4, s5, s6, s7, s8, s9, s10, s11, s12, s13, s14, s15, s16, s17, s18, s19, s20, s21, s22, s23, s24, s25, s26, s27, s28, s29, s30, s31⟩
         go_simp
         with_reducible rfl
        rotate_left
        ·
         simp only [Act.put, List.setIfInBounds_toArray, List.set_cons_zero, List.set_cons_succ, i64_w, i32_w]
         rfl
        refine take_ (i := 7) (N := some 24) (v := ?_) (a' := ?_) #[true, true, true, true, true, true, true, true, false, false] rfl rfl (take_ofW HT_.out HW_.out (by kernel_rfl)) (fun _ _ _ h => h) (Or.inl ⟨by rfl, ?_⟩) hHeld ?_ ?_
        rotate_left
        ·
         rintro w' ⟨s0, s1, s2, s3, s4, s5, s6, s7, s8, s9, s10, s11, s12, s13, s14, s15, s16, s17, s18, s19, s20, s21, s22, s23, s24, s25, s26, s27, s28, s29, s30, s31⟩
         go_simp
         with_reducible rfl
        rotate_left
        ·
         simp only [Act.put, List.setIfInBounds_toArray, List.set_cons_zero, List.set_cons_succ, i64_w, i32_w]
         rfl
        refine one_ (i := 8) (N := some 25) #[true, true, true, true, true, true, true, true, true, false] rfl rfl (one_of HT_.out (by kernel_rfl)) (by decide) (fun K hK => ?_)
        refine goes_ Try.func45 (by kernel_rfl) rfl #[.agg #[.int .i64 ((rd_T48 l0 x5_1).f0), .int .i64 ((rd_T48 l0 x5_1).f1.f0), .string ((rd_T48 l0 x5_1).f1.f1), .int .i64 ((rd_T48 l0 x5_1).f1.f2), .int .i64 ((rd_T48 l0 x5_1).f1.f3), .int .i64 ((rd_T48 l0 x5_1).f1.f4), .string ((rd_T48 l0 x5_1).f1.f5), .int .i64 ((rd_T48 l0 x5_1).f1.f6), .int .i64 ((rd_T48 l0 x5_1).f1.f7), .int .i64 ((rd_T48 l0 x5_1).f2.f0), .string ((rd_T48 l0 x5_1).f2.f1), .int .i64 ((rd_T48 l0 x5_1).f2.f2), .int .i64 ((rd_T48 l0 x5_1).f2.f3), .int .i64 ((rd_T48 l0 x5_1).f2.f4), .int .i64 ((rd_T48 l0 x5_1).f2.f5), .int .i64 ((rd_T48 l0 x5_1).f2.f6)], .agg #[.int .i64 ((rd_T48 l1 x5_1).f0), .int .i64 ((rd_T48 l1 x5_1).f1.f0), .string ((rd_T48 l1 x5_1).f1.f1), .int .i64 ((rd_T48 l1 x5_1).f1.f2), .int .i64 ((rd_T48 l1 x5_1).f1.f3), .int .i64 ((rd_T48 l1 x5_1).f1.f4), .string ((rd_T48 l1 x5_1).f1.f5), .int .i64 ((rd_T48 l1 x5_1).f1.f6), .int .i64 ((rd_T48 l1 x5_1).f1.f7), .int .i64 ((rd_T48 l1 x5_1).f2.f0), .string ((rd_T48 l1 x5_1).f2.f1), .int .i64 ((rd_T48 l1 x5_1).f2.f2), .int .i64 ((rd_T48 l1 x5_1).f2.f3), .int .i64 ((rd_T48 l1 x5_1).f2.f4), .int .i64 ((rd_T48 l1 x5_1).f2.f5), .int .i64 ((rd_T48 l1 x5_1).f2.f6)]] (by rfl) rfl rfl (by (try simp only [List.map_toArray, List.map_cons, List.map_nil]); first | done | rfl | (simp only [List.length_drop, List.length_take]; rfl)) ?_
        with_reducible refine (laws_eqItem.calls ((rd_T48 l0 x5_1).f0) ((rd_T48 l0 x5_1).f1.f0) ((rd_T48 l0 x5_1).f1.f1) ((rd_T48 l0 x5_1).f1.f2) ((rd_T48 l0 x5_1).f1.f3) ((rd_T48 l0 x5_1).f1.f4) ((rd_T48 l0 x5_1).f1.f5) ((rd_T48 l0 x5_1).f1.f6) ((rd_T48 l0 x5_1).f1.f7) ((rd_T48 l0 x5_1).f2.f0) ((rd_T48 l0 x5_1).f2.f1) ((rd_T48 l0 x5_1).f2.f2) ((rd_T48 l0 x5_1).f2.f3) ((rd_T48 l0 x5_1).f2.f4) ((rd_T48 l0 x5_1).f2.f5) ((rd_T48 l0 x5_1).f2.f6) ((rd_T48 l1 x5_1).f0) ((rd_T48 l1 x5_1).f1.f0) ((rd_T48 l1 x5_1).f1.f1) ((rd_T48 l1 x5_1).f1.f2) ((rd_T48 l1 x5_1).f1.f3) ((rd_T48 l1 x5_1).f1.f4) ((rd_T48 l1 x5_1).f1.f5) ((rd_T48 l1 x5_1).f1.f6) ((rd_T48 l1 x5_1).f1.f7) ((rd_T48 l1 x5_1).f2.f0) ((rd_T48 l1 x5_1).f2.f1) ((rd_T48 l1 x5_1).f2.f2) ((rd_T48 l1 x5_1).f2.f3) ((rd_T48 l1 x5_1).f2.f4) ((rd_T48 l1 x5_1).f2.f5) ((rd_T48 l1 x5_1).f2.f6) true _ ⟨rfl⟩ A7.out).mono ?_
        rintro e w10 ⟨rfl, hb⟩
        refine ⟨_, rfl, ?_⟩
        replace HB := am_ (below_step (qB HB) hb)
        (try clear hb)
        refine hK.out _ _ ⟨((HB.out.cell (World.block_lt_of_cell? w _ hw429_0)).trans hw429_0), ((HB.out.cell (World.block_lt_of_cell? w _ hw429_1)).trans hw429_1), ((HB.out.cell (World.block_lt_of_cell? w _ hw429_2)).trans hw429_2), ((HB.out.cell (World.block_lt_of_cell? w _ hw429_3)).trans hw429_3), ((HB.out.cell (World.block_lt_of_cell? w _ hw429_4)).trans hw429_4), ((HB.out.cell (World.block_lt_of_cell? w _ hw429_5)).trans hw429_5), ((HB.out.cell (World.block_lt_of_cell? w _ hw429_6)).trans hw429_6), ((HB.out.cell (World.block_lt_of_cell? w _ hw429_7)).trans hw429_7), ((HB.out.cell (World.block_lt_of_cell? w _ hw429_8)).trans hw429_8), ((HB.out.cell (World.block_lt_of_cell? w _ hw429_9)).trans hw429_9), ((HB.out.cell (World.block_lt_of_cell? w _ hw429_10)).trans hw429_10), ((HB.out.cell (World.block_lt_of_cell? w _ hw429_11)).trans hw429_11), ((HB.out.cell (World.block_lt_of_cell? w _ hw429_12)).trans hw429_12), ((HB.out.cell (World.block_lt_of_cell? w _ hw429_13)).trans hw429_13), ((HB.out.cell (World.block_lt_of_cell? w _ hw429_14)).trans hw429_14), ((HB.out.cell (World.block_lt_of_cell? w _ hw429_15)).trans hw429_15), ((HB.out.cell (World.block_lt_of_cell? w _ hw430_0)).trans hw430_0), ((HB.out.cell (World.block_lt_of_cell? w _ hw430_1)).trans hw430_1), ((HB.out.cell (World.block_lt_of_cell? w _ hw430_2)).trans hw430_2), ((HB.out.cell (World.block_lt_of_cell? w _ hw430_3)).trans hw430_3), ((HB.out.cell (World.block_lt_of_cell? w _ hw430_4)).trans hw430_4), ((HB.out.cell (World.block_lt_of_cell? w _ hw430_5)).trans hw430_5), ((HB.out.cell (World.block_lt_of_cell? w _ hw430_6)).trans hw430_6), ((HB.out.cell (World.block_lt_of_cell? w _ hw430_7)).trans hw430_7), ((HB.out.cell (World.block_lt_of_cell? w _ hw430_8)).trans hw430_8), ((HB.out.cell (World.block_lt_of_cell? w _ hw430_9)).trans hw430_9), ((HB.out.cell (World.block_lt_of_cell? w _ hw430_10)).trans hw430_10), ((HB.out.cell (World.block_lt_of_cell? w _ hw430_11)).trans hw430_11), ((HB.out.cell (World.block_lt_of_cell? w _ hw430_12)).trans hw430_12), ((HB.out.cell (World.block_lt_of_cell? w _ hw430_13)).trans hw430_13), ((HB.out.cell (World.block_lt_of_cell? w _ hw430_14)).trans hw430_14), ((HB.out.cell (World.block_lt_of_cell? w _ hw430_15)).trans hw430_15)⟩ (fun hHeld => ?_)
        clear hK K
        refine norm_ (a' := ?_) ?_ ?_
        rotate_left
        ·
         show Act.put _ (some 25) _ = _
         simp only [Act.put, List.setIfInBounds_toArray, List.set_cons_zero, List.set_cons_succ, i64_w, i32_w]
         rfl
        refine pure_ (i := 9) (N := some 26) (v := ?_) (a' := ?_) #[true, true, true, true, true, true, true, true, true, true] rfl rfl (any_of HT_.out (by kernel_rfl)) (fun _ _ _ h => h) (Or.inl ⟨by rfl, ?_⟩) ?_ ?_
        rotate_left
        ·
         intro w'
         go_simp
         with_reducible rfl
        rotate_left
        ·
         simp only [Act.put, List.setIfInBounds_toArray, List.set_cons_zero, List.set_cons_succ, i64_w, i32_w]
         rfl
        refine done_ (done_of HT_.out (by kernel_rfl)) ?_
        try go_wp2
        go_roundg k1
        case measure => have := HK1.out; omega
        case rel => exact ⟨(wrap64 (x5_1 + 1)), (by first | rfl | (simp; done) | (simp [*]; done) | (simp [Go.Proofs.YtahfemlfdpbkkaaV.bne_nil, Go.Proofs.YtahfemlfdpbkkaaV.beq_nil]; done)), H', ⟨by have := HK1.out; omega⟩, ⟨qB HB⟩⟩
       ·
        replace c8 := Bool.eq_false_iff.mpr c8
        subst c8
        have H1 : (some false) = some r := by rw [if_neg (show ¬ (false = true) by decide)] at H; exact H
        clear H
        have H := H1
        clear H1
        exact absurd (hr_.out ▸ H) (by simp)
      ·
       rw [if_neg c6] at H
       exact absurd H (by simp)
     ·
      rw [if_neg c5] at H
      exact absurd H (by simp)
    ·
     rw [if_neg c4] at H
     have c4b0 : decide (x5_1 < (l0.length : Int)) = false := decide_eq_false c4
     clear c4
     obtain rfl := Option.some.inj H
     go_wp2
     go_ret
     exact ⟨by first | rfl | (simp [errW_none, errW_some] <;> rfl) | (simp [*, errW_none, errW_some] <;> rfl), qB HB⟩
 ·
  rw [if_neg c3] at H
  have c3b0 : ((l0.length : Int) == (l1.length : Int)) = false := beq_eq_false_iff_ne.mpr c3
  have c3b1 : ((l0.length : Int) != (l1.length : Int)) = true := bne_iff_ne.mpr c3
  have c3b2 : (l0.length == l1.length) = false := by first | simpa using c3 | (simp at c3 ⊢; omega)
  exact absurd (hr_.out ▸ H) (by simp)

/-! ### laws_eqCtl: function 50 -/
def laws_eqCtl.f (k : Nat) (a0_0 : Int) (a0_1 : Int) (a0_2 : Int) (a0_3 : Int) (a0_4 : Int) (a0_5 : Bool) (a0_6 : Int) (l0_7 : List (S48)) (a1_0 : Int) (a1_1 : Int) (a1_2 : Int) (a1_3 : Int) (a1_4 : Int) (a1_5 : Bool) (a1_6 : Int) (l1_7 : List (S48)) : Option (Bool) := if a0_0 = a1_0 then (if a0_1 = a1_1 then (if a0_2 = a1_2 then (if a0_3 = a1_3 then (if a0_4 = a1_4 then (if (a0_5 != a1_5) = true then (some false) else (if a0_6 = a1_6 then ((laws_eqItemS.f k l0_7 l1_7).bind fun t434 => (if t434 = true then (some true) else (some false))) else (some false))) else (some false)) else (some false)) else (some false)) else (some false)) else (some false)
theorem laws_eqCtl.mono : ∀ a0 a1 a2 a3 a4 a5 a6 a7 a8 a9 a10 a11 a12 a13 a14 a15 k, LeO (laws_eqCtl.f k a0 a1 a2 a3 a4 a5 a6 a7 a8 a9 a10 a11 a12 a13 a14 a15) (laws_eqCtl.f (k + 1) a0 a1 a2 a3 a4 a5 a6 a7 a8 a9 a10 a11 a12 a13 a14 a15) := by
 intro a0 a1 a2 a3 a4 a5 a6 a7 a8 a9 a10 a11 a12 a13 a14 a15 k
 unfold laws_eqCtl.f
 repeat' first
   | (with_reducible exact laws_eqItemS.mono _ _ _)
   | (with_reducible exact LeO.refl _)
   | (with_reducible exact LeO.none _)
   | (with_reducible refine LeO.ite ?_ ?_)
   | (with_reducible refine LeO.bind ?_ (fun _ => ?_))
   | exact laws_eqItemS.mono _ _ _
   | exact LeO.none _
   | refine LeO.ite ?_ ?_
   | refine LeO.bind ?_ (fun _ => ?_)
set_option maxHeartbeats 8000000 in
set_option maxRecDepth 100000 in
theorem laws_eqCtl.calls (k : Nat) (a0_0 : Int) (a0_1 : Int) (a0_2 : Int) (a0_3 : Int) (a0_4 : Int) (a0_5 : Bool) (a0_6 : Int) (A0_7 : Option Addr) (c0_7 : Nat) (l0_7 : List (S48)) (a1_0 : Int) (a1_1 : Int) (a1_2 : Int) (a1_3 : Int) (a1_4 : Int) (a1_5 : Bool) (a1_6 : Int) (A1_7 : Option Addr) (c1_7 : Nat) (l1_7 : List (S48)) (r : Bool) (w : World) (hr0_7 : Kd.C k48 w A0_7 l0_7.length l0_7) (hc0_7 : l0_7.length ≤ c0_7) (hr1_7 : Kd.C k48 w A1_7 l1_7.length l1_7) (hc1_7 : l1_7.length ≤ c1_7) (hr_ : Aside0 (r = true)) (h : laws_eqCtl.f k a0_0 a0_1 a0_2 a0_3 a0_4 a0_5 a0_6 l0_7 a1_0 a1_1 a1_2 a1_3 a1_4 a1_5 a1_6 l1_7 = some r) :
  Calls Try.prog 50 #[.agg #[.int .i64 a0_0, .int .i64 a0_1, .int .i64 a0_2, .int .i64 a0_3, .int .i64 a0_4, .bool a0_5, .int .i64 a0_6, .slice A0_7 l0_7.length c0_7], .agg #[.int .i64 a1_0, .int .i64 a1_1, .int .i64 a1_2, .int .i64 a1_3, .int .i64 a1_4, .bool a1_5, .int .i64 a1_6, .slice A1_7 l1_7.length c1_7]] w fun e w' => e = .returned (.bool r) ∧ Below w.heap.size w w' := by
 have hu86 := Try.underlying86
 have HR0_7 := Aside0.mk hr0_7
 have HC0_7 := Aside0.mk hc0_7
 clear hr0_7 hc0_7
 have HR1_7 := Aside0.mk hr1_7
 have HC1_7 := Aside0.mk hc1_7
 clear hr1_7 hc1_7
 have HB := Aside0.mk (Below.refl w.heap.size w)
 have H : (if a0_0 = a1_0 then (if a0_1 = a1_1 then (if a0_2 = a1_2 then (if a0_3 = a1_3 then (if a0_4 = a1_4 then (if (a0_5 != a1_5) = true then (some false) else (if a0_6 = a1_6 then ((laws_eqItemS.f k l0_7 l1_7).bind fun t434 => (if t434 = true then (some true) else (some false))) else (some false))) else (some false)) else (some false)) else (some false)) else (some false)) else (some false)) = some r := h
 clear h
 by_cases c3 : a0_0 = a1_0
 ·
  rw [if_pos c3] at H
  have c3b0 : (a0_0 == a1_0) = true := beq_iff_eq.mpr c3
  have c3b1 : (a0_0 != a1_0) = false := bne_eq_false_iff_eq.mpr c3
  clear c3
  by_cases c4 : a0_1 = a1_1
  ·
   rw [if_pos c4] at H
   have c4b0 : (a0_1 == a1_1) = true := beq_iff_eq.mpr c4
   have c4b1 : (a0_1 != a1_1) = false := bne_eq_false_iff_eq.mpr c4
   clear c4
   by_cases c5 : a0_2 = a1_2
   ·
    rw [if_pos c5] at H
    have c5b0 : (a0_2 == a1_2) = true := beq_iff_eq.mpr c5
    have c5b1 : (a0_2 != a1_2) = false := bne_eq_false_iff_eq.mpr c5
    clear c5
    by_cases c6 : a0_3 = a1_3
    ·
     rw [if_pos c6] at H
     have c6b0 : (a0_3 == a1_3) = true := beq_iff_eq.mpr c6
     have c6b1 : (a0_3 != a1_3) = false := bne_eq_false_iff_eq.mpr c6
     clear c6
     by_cases c7 : a0_4 = a1_4
     ·
      rw [if_pos c7] at H
      have c7b0 : (a0_4 == a1_4) = true := beq_iff_eq.mpr c7
      have c7b1 : (a0_4 != a1_4) = false := bne_eq_false_iff_eq.mpr c7
      clear c7
      by_cases c8 : (a0_5 != a1_5) = true
      ·
       rw [if_pos c8] at H
       have c8b0 : (a0_5 != a1_5) = true := c8
       (try (have c8b1 : decide (a0_5 = a1_5) = false := by simpa using c8))
       (try (have c8b2 : (a0_5 == a1_5) = false := by simpa using c8))
       (try (have c8b3 : ¬ (a0_5 = a1_5) := by simpa using c8))
       clear c8
       exact absurd (hr_.out ▸ H) (by simp)
      ·
       rw [if_neg c8] at H
       have c8b0 : (a0_5 != a1_5) = false := by simpa using c8
       (try (have c8b1 : decide (a0_5 = a1_5) = true := by simpa using c8))
       (try (have c8b2 : (a0_5 == a1_5) = true := by simpa using c8))
       clear c8
       by_cases c9 : a0_6 = a1_6
       ·
        rw [if_pos c9] at H
        have c9b0 : (a0_6 == a1_6) = true := beq_iff_eq.mpr c9
        have c9b1 : (a0_6 != a1_6) = false := bne_eq_false_iff_eq.mpr c9
        clear c9
        replace H := Option.bind_eq_some_iff.mp H
        obtain ⟨t434, A100, H⟩ := H
        replace H : (if t434 = true then (some true) else (some false)) = some r := H
        have A10 := Aside0.mk A100
        clear A100
        by_cases c11 : t434 = true
        ·
         subst c11
         have H1 : (some true) = some r := by rw [if_pos rfl] at H; exact H
         clear H
         have H := H1
         clear H1
         obtain rfl := Option.some.inj H
         go_enter Try.func50, Try.ntmps50
         go_wp2_with (first | ((with_reducible refine gate_dst (N := 2) rfl ?_); refine box_event ?hg (N := 2) ?hd (cs := #[.int .i64 a0_0, .int .i64 a0_1, .int .i64 a0_2, .int .i64 a0_3, .int .i64 a0_4, .bool a0_5, .int .i64 a0_6, .slice A0_7 l0_7.length c0_7]) (t := 86) ?hr ?_; (case hd => rfl); (case hg => rfl); (case hr => first | (go_simp; done) | (go_simp; rfl)); intro gb432 hg w12 hbox hb; have BK432 := am_ (hbox); have GW432 := am_ ((gG_ hg (qB HB))); have IGW432 := gI_ GW432; have GE432 := am_ ((gG_ hg (qB HB))); have IGE432 := gI_ GE432; replace HB := am_ (below_step (qB HB) hb); clear hb hbox hg) | ((with_reducible refine gate_dst (N := 3) rfl ?_); refine box_event ?hg (N := 3) ?hd (cs := #[.int .i64 a1_0, .int .i64 a1_1, .int .i64 a1_2, .int .i64 a1_3, .int .i64 a1_4, .bool a1_5, .int .i64 a1_6, .slice A1_7 l1_7.length c1_7]) (t := 86) ?hr ?_; (case hd => rfl); (case hg => rfl); (case hr => first | (go_simp; done) | (go_simp; rfl)); intro gb433 hg w13 hbox hb; have BK433 := am_ (hbox); have GW433 := am_ ((gG_ hg (qB HB))); have IGW433 := gI_ GW433; have GE433 := am_ ((gG_ hg (qB HB))); have IGE433 := gI_ GE433; replace HB := am_ (below_step (qB HB) hb); have NB432_433 := am_ ((gN_ hg (qK BK432))); have NB433_432 := am_ ((gM_ hg (qK BK432))); replace BK432 := am_ (blk_below (qK BK432) hb); clear hb hbox hg; have hnb14 := NB432_433.out; have hnc14 := NB433_432.out; obtain ⟨hcz15_0, hcz15_1, hcz15_2, hcz15_3, hcz15_4, hcz15_5, hcz15_6, hcz15_7⟩ := cz8 BK432.out; obtain ⟨hfz15_0, hfz15_1, hfz15_2, hfz15_3, hfz15_4, hfz15_5, hfz15_6, hfz15_7⟩ := fz8 BK432.out; obtain ⟨hcz16_0, hcz16_1, hcz16_2, hcz16_3, hcz16_4, hcz16_5, hcz16_6, hcz16_7⟩ := cz8 BK433.out; obtain ⟨hfz16_0, hfz16_1, hfz16_2, hfz16_3, hfz16_4, hfz16_5, hfz16_6, hfz16_7⟩ := fz8 BK433.out) | ((with_reducible refine gate_callee (f := 113) rfl ?_); refine goesL_ (some 44) rfl rfl Try.func113 (by kernel_rfl) rfl #[.slice A0_7 l0_7.length c0_7, .slice A1_7 l1_7.length c1_7] rfl (by (try simp only [List.map_toArray, List.map_cons, List.map_nil]); first | done | rfl | (simp only [List.length_drop, List.length_take]; rfl)) ?_; (with_reducible refine (laws_eqItemS.calls k _ _ l0_7 _ _ l1_7 true _ ?side1 ?side2 ?side3 ?side4 ⟨rfl⟩ A10.out).mono ?_); (case side1 => exact qC (Kd.C_below HR0_7.out HB.out)); (case side2 => exact HC0_7.out); (case side3 => exact qC (Kd.C_below HR1_7.out HB.out)); (case side4 => exact HC1_7.out); rintro e w17 ⟨rfl, hb⟩; refine ⟨_, rfl, ?_⟩; replace BK432 := am_ (blk_below (qK BK432) hb); replace BK433 := am_ (blk_below (qK BK433) hb); replace HB := am_ (below_step (qB HB) hb); (try clear hb); (try clear hb2); (try clear hk); (try clear hi)))
         go_ret
         exact ⟨by first | rfl | (simp [errW_none, errW_some] <;> rfl) | (simp [*, errW_none, errW_some] <;> rfl), qB HB⟩
        ·
         replace c11 := Bool.eq_false_iff.mpr c11
         subst c11
         have H1 : (some false) = some r := by rw [if_neg (show ¬ (false = true) by decide)] at H; exact H
         clear H
         have H := H1
         clear H1
         exact absurd (hr_.out ▸ H) (by simp)
       ·
        rw [if_neg c9] at H
        have c9b0 : (a0_6 == a1_6) = false := beq_eq_false_iff_ne.mpr c9
        have c9b1 : (a0_6 != a1_6) = true := bne_iff_ne.mpr c9
        exact absurd (hr_.out ▸ H) (by simp)
     ·
      rw [if_neg c7] at H
      have c7b0 : (a0_4 == a1_4) = false := beq_eq_false_iff_ne.mpr c7
      have c7b1 : (a0_4 != a1_4) = true := bne_iff_ne.mpr c7
      exact absurd (hr_.out ▸ H) (by simp)
    ·
     rw [if_neg c6] at H
     have c6b0 : (a0_3 == a1_3) = false := beq_eq_false_iff_ne.mpr c6
     have c6b1 : (a0_3 != a1_3) = true := bne_iff_ne.mpr c6
     exact absurd (hr_.out ▸ H) (by simp)
   ·
    rw [if_neg c5] at H
    have c5b0 : (a0_2 == a1_2) = false := beq_eq_false_iff_ne.mpr c5
    have c5b1 : (a0_2 != a1_2) = true := bne_iff_ne.mpr c5
    exact absurd (hr_.out ▸ H) (by simp)
  ·
   rw [if_neg c4] at H
   have c4b0 : (a0_1 == a1_1) = false := beq_eq_false_iff_ne.mpr c4
   have c4b1 : (a0_1 != a1_1) = true := bne_iff_ne.mpr c4
   exact absurd (hr_.out ▸ H) (by simp)
 ·
  rw [if_neg c3] at H
  have c3b0 : (a0_0 == a1_0) = false := beq_eq_false_iff_ne.mpr c3
  have c3b1 : (a0_0 != a1_0) = true := bne_iff_ne.mpr c3
  exact absurd (hr_.out ▸ H) (by simp)

end Go.Proofs.Ytahfemlfdpbkkaa.PFnExactCtlOk
