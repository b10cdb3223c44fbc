-- Written by a program of this session (myprint.py, over the kit's print): contracts of FnExactSend
import Derived.Test.YtiffahfpfgnjnabPFnExactSendx0
import Derived.Test.YtiffahfpfgnjnabPFnExactSendx18
namespace Go.Proofs.Ytiffahfpfgnjnab.PFnExactSend
open Go.RowKit Go.Proofs.YtiffahfpfgnjnabW.PrintWords Go.Proofs.YtiffahfpfgnjnabW.PrintLast Go.Proofs.YtiffahfpfgnjnabW.PrintMore Go.Proofs.YtiffahfpfgnjnabV
attribute [local go_sem] max2_int min2_int max_two min_two max_three min_three max_four min_four   -- for this text's walks alone
set_option linter.unusedVariables false
set_option linter.unusedSimpArgs false

/-! ### laws_eqLine: function 101 -/
def laws_eqLine.f (a0_0 : Int) (a0_1 : ByteArray) (a0_2 : Int) (a0_3 : Int) (a0_4 : Int) (a0_5 : Int) (a0_6 : Int) (a1_0 : Int) (a1_1 : ByteArray) (a1_2 : Int) (a1_3 : Int) (a1_4 : Int) (a1_5 : Int) (a1_6 : Int) : Option (Bool) := if a0_0 = a1_0 then (if a0_1.toList = a1_1.toList then (if a0_2 = a1_2 then (if a0_3 = a1_3 then (if a0_4 = a1_4 then (if a0_5 = a1_5 then (if a0_6 = a1_6 then (some true) else (some false)) else (some false)) else (some false)) else (some false)) else (some false)) else (some false)) else (some false)
set_option maxHeartbeats 8000000 in
set_option maxRecDepth 100000 in
theorem laws_eqLine.calls (a0_0 : Int) (a0_1 : ByteArray) (a0_2 : Int) (a0_3 : Int) (a0_4 : Int) (a0_5 : Int) (a0_6 : Int) (a1_0 : Int) (a1_1 : ByteArray) (a1_2 : Int) (a1_3 : Int) (a1_4 : Int) (a1_5 : Int) (a1_6 : Int) (r : Bool) (w : World) (hr_ : Aside0 (r = true)) (h : laws_eqLine.f a0_0 a0_1 a0_2 a0_3 a0_4 a0_5 a0_6 a1_0 a1_1 a1_2 a1_3 a1_4 a1_5 a1_6 = some r) :
  Calls Try.prog 101 #[.agg #[.int .i64 a0_0, .string a0_1, .int .i64 a0_2, .int .i64 a0_3, .int .i64 a0_4, .int .i64 a0_5, .int .i64 a0_6], .agg #[.int .i64 a1_0, .string a1_1, .int .i64 a1_2, .int .i64 a1_3, .int .i64 a1_4, .int .i64 a1_5, .int .i64 a1_6]] w fun e w' => e = .returned (.bool r) ∧ Below w.heap.size w w' := by
 have hu124 := Try.underlying124
 have HB := Aside0.mk (Below.refl w.heap.size w)
 have H := h
 unfold laws_eqLine.f at H
 clear h
 by_cases c3 : a0_0 = a1_0
 rotate_left
 ·
  rw [if_neg c3] at H
  have c3b0 : (a0_0 == a1_0) = false := beq_eq_false_iff_ne.mpr c3
  have c3b1 : (a0_0 != a1_0) = true := bne_iff_ne.mpr c3
  exact absurd (hr_.out ▸ H) (by simp)
 rw [if_pos c3] at H
 have c3b0 : (a0_0 == a1_0) = true := beq_iff_eq.mpr c3
 have c3b1 : (a0_0 != a1_0) = false := bne_eq_false_iff_eq.mpr c3
 clear c3
 by_cases c4 : a0_1.toList = a1_1.toList
 rotate_left
 ·
  rw [if_neg c4] at H
  have c4b0 : (a0_1.toList == a1_1.toList) = false := beq_eq_false_iff_ne.mpr c4
  have c4b1 : (a0_1.toList != a1_1.toList) = true := bne_iff_ne.mpr c4
  exact absurd (hr_.out ▸ H) (by simp)
 rw [if_pos c4] at H
 have c4b0 : (a0_1.toList == a1_1.toList) = true := beq_iff_eq.mpr c4
 have c4b1 : (a0_1.toList != a1_1.toList) = false := bne_eq_false_iff_eq.mpr c4
 clear c4
 by_cases c5 : a0_2 = a1_2
 rotate_left
 ·
  rw [if_neg c5] at H
  have c5b0 : (a0_2 == a1_2) = false := beq_eq_false_iff_ne.mpr c5
  have c5b1 : (a0_2 != a1_2) = true := bne_iff_ne.mpr c5
  exact absurd (hr_.out ▸ H) (by simp)
 rw [if_pos c5] at H
 have c5b0 : (a0_2 == a1_2) = true := beq_iff_eq.mpr c5
 have c5b1 : (a0_2 != a1_2) = false := bne_eq_false_iff_eq.mpr c5
 clear c5
 by_cases c6 : a0_3 = a1_3
 rotate_left
 ·
  rw [if_neg c6] at H
  have c6b0 : (a0_3 == a1_3) = false := beq_eq_false_iff_ne.mpr c6
  have c6b1 : (a0_3 != a1_3) = true := bne_iff_ne.mpr c6
  exact absurd (hr_.out ▸ H) (by simp)
 rw [if_pos c6] at H
 have c6b0 : (a0_3 == a1_3) = true := beq_iff_eq.mpr c6
 have c6b1 : (a0_3 != a1_3) = false := bne_eq_false_iff_eq.mpr c6
 clear c6
 by_cases c7 : a0_4 = a1_4
 rotate_left
 ·
  rw [if_neg c7] at H
  have c7b0 : (a0_4 == a1_4) = false := beq_eq_false_iff_ne.mpr c7
  have c7b1 : (a0_4 != a1_4) = true := bne_iff_ne.mpr c7
  exact absurd (hr_.out ▸ H) (by simp)
 rw [if_pos c7] at H
 have c7b0 : (a0_4 == a1_4) = true := beq_iff_eq.mpr c7
 have c7b1 : (a0_4 != a1_4) = false := bne_eq_false_iff_eq.mpr c7
 clear c7
 by_cases c8 : a0_5 = a1_5
 rotate_left
 ·
  rw [if_neg c8] at H
  have c8b0 : (a0_5 == a1_5) = false := beq_eq_false_iff_ne.mpr c8
  have c8b1 : (a0_5 != a1_5) = true := bne_iff_ne.mpr c8
  exact absurd (hr_.out ▸ H) (by simp)
 rw [if_pos c8] at H
 have c8b0 : (a0_5 == a1_5) = true := beq_iff_eq.mpr c8
 have c8b1 : (a0_5 != a1_5) = false := bne_eq_false_iff_eq.mpr c8
 clear c8
 by_cases c9 : a0_6 = a1_6
 rotate_left
 ·
  rw [if_neg c9] at H
  have c9b0 : (a0_6 == a1_6) = false := beq_eq_false_iff_ne.mpr c9
  have c9b1 : (a0_6 != a1_6) = true := bne_iff_ne.mpr c9
  exact absurd (hr_.out ▸ H) (by simp)
 rw [if_pos c9] at H
 have c9b0 : (a0_6 == a1_6) = true := beq_iff_eq.mpr c9
 have c9b1 : (a0_6 != a1_6) = false := bne_eq_false_iff_eq.mpr c9
 clear c9
 obtain rfl := Option.some.inj H
 go_enter Try.func101, Try.ntmps101
 go_wp2_with (first | ((with_reducible refine gate_dst (N := 2) rfl ?_); refine box_event ?hg (N := 2) ?hd (cs := #[.int .i64 a0_0, .string a0_1, .int .i64 a0_2, .int .i64 a0_3, .int .i64 a0_4, .int .i64 a0_5, .int .i64 a0_6]) (t := 124) ?hr ?_; (case hd => rfl); (case hg => rfl); (case hr => first | (go_simp; done) | (go_simp; rfl)); intro gb610 hg w10 hbox hb; have BK610 := am_ (hbox); have GW610 := gA_ hg HB; have GE610 := GW610; have IGE610 := gI_ GE610; replace HB := bS_ HB hb; clear hb hbox hg) | ((with_reducible refine gate_dst (N := 3) rfl ?_); refine box_event ?hg (N := 3) ?hd (cs := #[.int .i64 a1_0, .string a1_1, .int .i64 a1_2, .int .i64 a1_3, .int .i64 a1_4, .int .i64 a1_5, .int .i64 a1_6]) (t := 124) ?hr ?_; (case hd => rfl); (case hg => rfl); (case hr => first | (go_simp; done) | (go_simp; rfl)); intro gb611 hg w11 hbox hb; have BK611 := am_ (hbox); have GW611 := gA_ hg HB; have GE611 := GW611; have IGE611 := gI_ GE611; replace HB := bS_ HB hb; have NB610_611 := am_ ((gN_ hg (qK BK610))); have NB611_610 := am_ ((gM_ hg (qK BK610))); replace BK610 := bK_ BK610 hb; clear hb hbox hg; have hnb12 := NB610_611.out; have hnc12 := NB611_610.out; have z13 := cz7 BK610.out; have z14 := cz7 BK611.out))
 go_ret
 exact ⟨er_, qB HB⟩

/-! ### laws_eqItem: function 114 -/
def laws_eqItem.f (a0_0 : Int) (a0_1 : Int) (a0_2 : ByteArray) (a0_3 : Int) (a0_4 : Int) (a0_5 : Int) (a0_6 : ByteArray) (a0_7 : Int) (a0_8 : Int) (a0_9 : Int) (a0_10 : ByteArray) (a0_11 : Int) (a0_12 : Int) (a0_13 : Int) (a0_14 : Int) (a0_15 : Int) (a1_0 : Int) (a1_1 : Int) (a1_2 : ByteArray) (a1_3 : Int) (a1_4 : Int) (a1_5 : Int) (a1_6 : ByteArray) (a1_7 : Int) (a1_8 : Int) (a1_9 : Int) (a1_10 : ByteArray) (a1_11 : Int) (a1_12 : Int) (a1_13 : Int) (a1_14 : Int) (a1_15 : Int) : Option (Bool) := if a0_0 = a1_0 then ((laws_eqAsker.f a0_1 a0_2 a0_3 a0_4 a0_5 a0_6 a0_7 a0_8 a1_1 a1_2 a1_3 a1_4 a1_5 a1_6 a1_7 a1_8).bind fun t614 => (if t614 = true then ((laws_eqLine.f a0_9 a0_10 a0_11 a0_12 a0_13 a0_14 a0_15 a1_9 a1_10 a1_11 a1_12 a1_13 a1_14 a1_15).bind fun t615 => (if t615 = true then (some true) else (some false))) else (some false))) else (some false)
set_option maxHeartbeats 8000000 in
set_option maxRecDepth 100000 in
theorem laws_eqItem.calls (a0_0 : Int) (a0_1 : Int) (a0_2 : ByteArray) (a0_3 : Int) (a0_4 : Int) (a0_5 : Int) (a0_6 : ByteArray) (a0_7 : Int) (a0_8 : Int) (a0_9 : Int) (a0_10 : ByteArray) (a0_11 : Int) (a0_12 : Int) (a0_13 : Int) (a0_14 : Int) (a0_15 : Int) (a1_0 : Int) (a1_1 : Int) (a1_2 : ByteArray) (a1_3 : Int) (a1_4 : Int) (a1_5 : Int) (a1_6 : ByteArray) (a1_7 : Int) (a1_8 : Int) (a1_9 : Int) (a1_10 : ByteArray) (a1_11 : Int) (a1_12 : Int) (a1_13 : Int) (a1_14 : Int) (a1_15 : Int) (r : Bool) (w : World) (hr_ : Aside0 (r = true)) (h : laws_eqItem.f a0_0 a0_1 a0_2 a0_3 a0_4 a0_5 a0_6 a0_7 a0_8 a0_9 a0_10 a0_11 a0_12 a0_13 a0_14 a0_15 a1_0 a1_1 a1_2 a1_3 a1_4 a1_5 a1_6 a1_7 a1_8 a1_9 a1_10 a1_11 a1_12 a1_13 a1_14 a1_15 = some r) :
  Calls Try.prog 114 #[.agg #[.int .i64 a0_0, .int .i64 a0_1, .string a0_2, .int .i64 a0_3, .int .i64 a0_4, .int .i64 a0_5, .string a0_6, .int .i64 a0_7, .int .i64 a0_8, .int .i64 a0_9, .string a0_10, .int .i64 a0_11, .int .i64 a0_12, .int .i64 a0_13, .int .i64 a0_14, .int .i64 a0_15], .agg #[.int .i64 a1_0, .int .i64 a1_1, .string a1_2, .int .i64 a1_3, .int .i64 a1_4, .int .i64 a1_5, .string a1_6, .int .i64 a1_7, .int .i64 a1_8, .int .i64 a1_9, .string a1_10, .int .i64 a1_11, .int .i64 a1_12, .int .i64 a1_13, .int .i64 a1_14, .int .i64 a1_15]] w fun e w' => e = .returned (.bool r) ∧ Below w.heap.size w w' := by
 have hu126 := Try.underlying126
 have hu90 := Try.underlying90
 have hu124 := Try.underlying124
 have HB := Aside0.mk (Below.refl w.heap.size w)
 have H := h
 unfold laws_eqItem.f at H
 clear h
 by_cases c3 : a0_0 = a1_0
 rotate_left
 ·
  rw [if_neg c3] at H
  have c3b0 : (a0_0 == a1_0) = false := beq_eq_false_iff_ne.mpr c3
  have c3b1 : (a0_0 != a1_0) = true := bne_iff_ne.mpr c3
  exact absurd (hr_.out ▸ H) (by simp)
 rw [if_pos c3] at H
 have c3b0 : (a0_0 == a1_0) = true := beq_iff_eq.mpr c3
 have c3b1 : (a0_0 != a1_0) = false := bne_eq_false_iff_eq.mpr c3
 clear c3
 replace H := bd_ H
 obtain ⟨t614, A4, H⟩ := H
 by_cases c5 : t614 = true
 rotate_left
 ·
  replace c5 := Bool.eq_false_iff.mpr c5
  subst c5
  rw [if_neg (show ¬ (false = true) by decide)] at H
  exact absurd (hr_.out ▸ H) (by simp)
 subst c5
 rw [if_pos rfl] at H
 replace H := bd_ H
 obtain ⟨t615, A6, H⟩ := H
 by_cases c7 : t615 = true
 rotate_left
 ·
  replace c7 := Bool.eq_false_iff.mpr c7
  subst c7
  rw [if_neg (show ¬ (false = true) by decide)] at H
  exact absurd (hr_.out ▸ H) (by simp)
 subst c7
 rw [if_pos rfl] at H
 obtain rfl := Option.some.inj H
 go_enter Try.func114, Try.ntmps114
 go_wp2_with (first | ((with_reducible refine gate_dst (N := 2) rfl ?_); refine box_event ?hg (N := 2) ?hd (cs := #[.int .i64 a0_0, .int .i64 a0_1, .string a0_2, .int .i64 a0_3, .int .i64 a0_4, .int .i64 a0_5, .string a0_6, .int .i64 a0_7, .int .i64 a0_8, .int .i64 a0_9, .string a0_10, .int .i64 a0_11, .int .i64 a0_12, .int .i64 a0_13, .int .i64 a0_14, .int .i64 a0_15]) (t := 126) ?hr ?_; (case hd => rfl); (case hg => rfl); (case hr => first | (go_simp; done) | (go_simp; rfl)); intro gb612 hg w8 hbox hb; have BK612 := am_ (hbox); have GW612 := gA_ hg HB; have GE612 := GW612; have IGE612 := gI_ GE612; replace HB := bS_ HB hb; clear hb hbox hg) | ((with_reducible refine gate_dst (N := 3) rfl ?_); refine box_event ?hg (N := 3) ?hd (cs := #[.int .i64 a1_0, .int .i64 a1_1, .string a1_2, .int .i64 a1_3, .int .i64 a1_4, .int .i64 a1_5, .string a1_6, .int .i64 a1_7, .int .i64 a1_8, .int .i64 a1_9, .string a1_10, .int .i64 a1_11, .int .i64 a1_12, .int .i64 a1_13, .int .i64 a1_14, .int .i64 a1_15]) (t := 126) ?hr ?_; (case hd => rfl); (case hg => rfl); (case hr => first | (go_simp; done) | (go_simp; rfl)); intro gb613 hg w9 hbox hb; have BK613 := am_ (hbox); have GW613 := gA_ hg HB; have GE613 := GW613; have IGE613 := gI_ GE613; replace HB := bS_ HB hb; have NB612_613 := am_ ((gN_ hg (qK BK612))); have NB613_612 := am_ ((gM_ hg (qK BK612))); replace BK612 := bK_ BK612 hb; clear hb hbox hg; have hnb10 := NB612_613.out; have hnc10 := NB613_612.out; have z11 := cz16 BK612.out; have z12 := cz16 BK613.out) | ((with_reducible refine gate_callee (f := 100) rfl ?_); refine goesL_ (some 14) rfl rfl Try.func100 (by kernel_rfl) rfl #[.agg #[.int .i64 a0_1, .string a0_2, .int .i64 a0_3, .int .i64 a0_4, .int .i64 a0_5, .string a0_6, .int .i64 a0_7, .int .i64 a0_8], .agg #[.int .i64 a1_1, .string a1_2, .int .i64 a1_3, .int .i64 a1_4, .int .i64 a1_5, .string a1_6, .int .i64 a1_7, .int .i64 a1_8]] rfl la_ ?_; (with_reducible refine (laws_eqAsker.calls a0_1 a0_2 a0_3 a0_4 a0_5 a0_6 a0_7 a0_8 a1_1 a1_2 a1_3 a1_4 a1_5 a1_6 a1_7 a1_8 true _ ⟨rfl⟩ A4.out).mono ?_); rintro e w13 ⟨rfl, hb⟩; refine ⟨_, rfl, ?_⟩; replace BK612 := bK_ BK612 hb; replace BK613 := bK_ BK613 hb; replace HB := bS_ HB hb; (try clear hb); have z14 := cz16 BK612.out; have z15 := cz16 BK613.out) | ((with_reducible refine gate_callee (f := 101) rfl ?_); refine goesL_ (some 20) rfl rfl Try.func101 (by kernel_rfl) rfl #[.agg #[.int .i64 a0_9, .string a0_10, .int .i64 a0_11, .int .i64 a0_12, .int .i64 a0_13, .int .i64 a0_14, .int .i64 a0_15], .agg #[.int .i64 a1_9, .string a1_10, .int .i64 a1_11, .int .i64 a1_12, .int .i64 a1_13, .int .i64 a1_14, .int .i64 a1_15]] rfl la_ ?_; (with_reducible refine (laws_eqLine.calls a0_9 a0_10 a0_11 a0_12 a0_13 a0_14 a0_15 a1_9 a1_10 a1_11 a1_12 a1_13 a1_14 a1_15 true _ ⟨rfl⟩ A6.out).mono ?_); rintro e w16 ⟨rfl, hb⟩; refine ⟨_, rfl, ?_⟩; replace BK612 := bK_ BK612 hb; replace BK613 := bK_ BK613 hb; replace HB := bS_ HB hb; (try clear hb)))
 go_ret
 exact ⟨er_, qB HB⟩

/-! ### laws_eqItemS: function 78 -/
def laws_eqItemS.l0 : Nat → List (S126) → List (S126) → Int → Option (Bool)
 | 0, _, _, _ => none
 | k + 1, x0, x1, x5 => if x5 < (x0.length : Int) then (if 0 ≤ x5 then (if x5 < (x1.length : Int) then ((laws_eqItem.f ((rd_T126 x0 x5).f0) ((rd_T126 x0 x5).f1.f0) ((rd_T126 x0 x5).f1.f1) ((rd_T126 x0 x5).f1.f2) ((rd_T126 x0 x5).f1.f3) ((rd_T126 x0 x5).f1.f4) ((rd_T126 x0 x5).f1.f5) ((rd_T126 x0 x5).f1.f6) ((rd_T126 x0 x5).f1.f7) ((rd_T126 x0 x5).f2.f0) ((rd_T126 x0 x5).f2.f1) ((rd_T126 x0 x5).f2.f2) ((rd_T126 x0 x5).f2.f3) ((rd_T126 x0 x5).f2.f4) ((rd_T126 x0 x5).f2.f5) ((rd_T126 x0 x5).f2.f6) ((rd_T126 x1 x5).f0) ((rd_T126 x1 x5).f1.f0) ((rd_T126 x1 x5).f1.f1) ((rd_T126 x1 x5).f1.f2) ((rd_T126 x1 x5).f1.f3) ((rd_T126 x1 x5).f1.f4) ((rd_T126 x1 x5).f1.f5) ((rd_T126 x1 x5).f1.f6) ((rd_T126 x1 x5).f1.f7) ((rd_T126 x1 x5).f2.f0) ((rd_T126 x1 x5).f2.f1) ((rd_T126 x1 x5).f2.f2) ((rd_T126 x1 x5).f2.f3) ((rd_T126 x1 x5).f2.f4) ((rd_T126 x1 x5).f2.f5) ((rd_T126 x1 x5).f2.f6)).bind fun t618 => (if t618 = true then (laws_eqItemS.l0 k x0 x1 (wrap64 (x5 + 1))) else (some false))) else (none)) else (none)) else (some true)
def laws_eqItemS.f (k : Nat) (l0 : List (S126)) (l1 : List (S126)) : Option (Bool) := if (l0.length : Int) = (l1.length : Int) then (laws_eqItemS.l0 k l0 l1 0) else (some false)
theorem laws_eqItemS.mono_l : ∀ k, (∀ y0 y1 y2, LeO (laws_eqItemS.l0 k y0 y1 y2) (laws_eqItemS.l0 (k + 1) y0 y1 y2))
 | 0 => fun _ _ _ r h => by simp [laws_eqItemS.l0] at h
 | k + 1 => by
  have ih0 := laws_eqItemS.mono_l k
  ·
   intro y0 y1 y2
   unfold laws_eqItemS.l0
   repeat' first
   | (with_reducible exact ih0 _ _ _)
   | (with_reducible exact LeO.refl _)
   | (with_reducible exact LeO.none _)
   | (with_reducible refine LeO.ite ?_ ?_)
   | (with_reducible refine LeO.bind ?_ (fun _ => ?_))
theorem laws_eqItemS.mono : ∀ a0 a1 k, LeO (laws_eqItemS.f k a0 a1) (laws_eqItemS.f (k + 1) a0 a1) := by
 intro a0 a1 k
 have ih0 := laws_eqItemS.mono_l k
 unfold laws_eqItemS.f
 repeat' first
   | (with_reducible exact ih0 _ _ _)
   | (with_reducible exact LeO.refl _)
   | (with_reducible exact LeO.none _)
   | (with_reducible refine LeO.ite ?_ ?_)
   | (with_reducible refine LeO.bind ?_ (fun _ => ?_))
def laws_eqItemS.T6 : Bool × List (List Nat × List Nat) := (true, [([], []), ([], []), ([0, 1], [0, 1]), ([2], [2]), ([], []), ([], []), ([4, 5], [4, 5]), ([6], [6]), ([3, 7], [3, 7]), ([8], [8])])
def laws_eqItemS.B6 : List Nat := [0, 0, 3, 7, 0, 0, 48, 112, 255, 511]
theorem laws_eqItemS.tab6 : rtab .any (opsOf Try.f78 6) = laws_eqItemS.T6 := by kernel_rfl
theorem laws_eqItemS.bits6 : waitsOk laws_eqItemS.T6.2 laws_eqItemS.B6 = true := by kernel_rfl
set_option maxHeartbeats 8000000 in
set_option maxRecDepth 100000 in
theorem laws_eqItemS.calls (k : Nat) (A0 : Option Addr) (c0 : Nat) (l0 : List (S126)) (A1 : Option Addr) (c1 : Nat) (l1 : List (S126)) (r : Bool) (w : World) (hr0 : Kd.C k126 w A0 l0.length l0) (hc0 : l0.length ≤ c0) (hr1 : Kd.C k126 w A1 l1.length l1) (hc1 : l1.length ≤ c1) (hr_ : Aside0 (r = true)) (h : laws_eqItemS.f k l0 l1 = some r) :
  Calls Try.prog 78 #[.slice A0 l0.length c0, .slice A1 l1.length c1] w fun e w' => e = .returned (.bool r) ∧ Below w.heap.size w w' := by
 have hu126 := Try.underlying126
 have HR0 := Aside0.mk hr0
 have HC0 := Aside0.mk hc0
 clear hr0 hc0
 have HR1 := Aside0.mk hr1
 have HC1 := Aside0.mk hc1
 clear hr1 hc1
 have HB := Aside0.mk (Below.refl w.heap.size w)
 have H := h
 unfold laws_eqItemS.f at H
 clear h
 by_cases c3 : (l0.length : Int) = (l1.length : Int)
 rotate_left
 ·
  rw [if_neg c3] at H
  have c3b0 : ((l0.length : Int) == (l1.length : Int)) = false := beq_eq_false_iff_ne.mpr c3
  have c3b1 : ((l0.length : Int) != (l1.length : Int)) = true := bne_iff_ne.mpr c3
  have c3b2 : (l0.length == l1.length) = false := by first | simpa using c3 | (simp at c3 ⊢; omega)
  exact absurd (hr_.out ▸ H) (by simp)
 rw [if_pos c3] at H
 have c3b0 : ((l0.length : Int) == (l1.length : Int)) = true := beq_iff_eq.mpr c3
 have c3b1 : ((l0.length : Int) != (l1.length : Int)) = false := bne_eq_false_iff_eq.mpr c3
 have c3b2 : (l0.length == l1.length) = true := by first | simpa using c3 | (simp at c3 ⊢; omega)
 clear c3
 have H' := Aside0.mk H
 clear H
 go_enter Try.func78, Try.ntmps78
 go_wp2
 go_loopg [5] k (fun kq v5 w' => ∃ (x5_1 : Int), v5 = .int .i64 x5_1 ∧ Aside0 (laws_eqItemS.l0 kq l0 l1 x5_1 = some r) ∧ Aside0 (kq ≤ k) ∧ Aside0 (Below w.heap.size w w'))
 case atStart => exact ⟨(0), eqq_, H', ⟨Nat.le_refl _⟩, ⟨qB HB⟩⟩
 case round =>
  clear H'
  try clear c1
  try clear p2
  try clear c3
  try clear c3b0
  try clear c3b1
  try clear c3b2
  obtain ⟨x5_1, rfl, HA, HK1, HB⟩ := hrel
  cases gk with
  | zero => exact absurd HA.out (by simp [laws_eqItemS.l0])
  | succ k1 =>
   have H := HA.out
   clear HA
   simp only [laws_eqItemS.l0] at H
   by_cases c4 : x5_1 < (l0.length : Int)
   rotate_left
   ·
    rw [if_neg c4] at H
    have c4b0 : decide (x5_1 < (l0.length : Int)) = false := decide_eq_false c4
    clear c4
    obtain rfl := Option.some.inj H
    go_wp2
    go_ret
    exact ⟨er_, qB HB⟩
   rw [if_pos c4] at H
   have c4b0 : decide (x5_1 < (l0.length : Int)) = true := decide_eq_true c4
   clear c4
   by_cases c5 : 0 ≤ x5_1
   case neg => exact nn_ c5 H
   rw [if_pos c5] at H
   have c5b0 : decide (0 ≤ x5_1) = true := decide_eq_true c5
   clear c5
   by_cases c6 : x5_1 < (l1.length : Int)
   case neg => exact nn_ c6 H
   rw [if_pos c6] at H
   have c6b0 : decide (x5_1 < (l1.length : Int)) = true := decide_eq_true c6
   clear c6
   replace H := bd_ H
   obtain ⟨t618, A7, H⟩ := H
   by_cases c8 : t618 = true
   rotate_left
   ·
    replace c8 := Bool.eq_false_iff.mpr c8
    subst c8
    rw [if_neg (show ¬ (false = true) by decide)] at H
    exact absurd (hr_.out ▸ H) (by simp)
   subst c8
   rw [if_pos rfl] at H
   have H' := Aside0.mk H
   clear H
   try go_wp2
   replace HB := am_ (below_drew1 HB.out)
   have p616 : 0 ≤ (x5_1 : Int) := od_
   have q616 : x5_1 < (l0.length : Int) := od_
   obtain ⟨ad616, e616, hx616_0, hx616_1, hx616_2, hx616_3, hx616_4, hx616_5, hx616_6, hx616_7, hx616_8, hx616_9, hx616_10, hx616_11, hx616_12, hx616_13, hx616_14, hx616_15⟩ := at_T126 HR0.out x5_1 p616 q616
   have hw616_15 := hx616_15
   have hw616_14 := hx616_14
   have hw616_13 := hx616_13
   have hw616_12 := hx616_12
   have hw616_11 := hx616_11
   have hw616_10 := hx616_10
   have hw616_9 := hx616_9
   have hw616_8 := hx616_8
   have hw616_7 := hx616_7
   have hw616_6 := hx616_6
   have hw616_5 := hx616_5
   have hw616_4 := hx616_4
   have hw616_3 := hx616_3
   have hw616_2 := hx616_2
   have hw616_1 := hx616_1
   have hw616_0 := hx616_0
   cases e616
   replace hx616_0 := lb_ HB hx616_0
   replace hx616_1 := lb_ HB hx616_1
   replace hx616_2 := lb_ HB hx616_2
   replace hx616_3 := lb_ HB hx616_3
   replace hx616_4 := lb_ HB hx616_4
   replace hx616_5 := lb_ HB hx616_5
   replace hx616_6 := lb_ HB hx616_6
   replace hx616_7 := lb_ HB hx616_7
   replace hx616_8 := lb_ HB hx616_8
   replace hx616_9 := lb_ HB hx616_9
   replace hx616_10 := lb_ HB hx616_10
   replace hx616_11 := lb_ HB hx616_11
   replace hx616_12 := lb_ HB hx616_12
   replace hx616_13 := lb_ HB hx616_13
   replace hx616_14 := lb_ HB hx616_14
   replace hx616_15 := lb_ HB hx616_15
   replace p616 := eq_true p616
   replace q616 := eq_true q616
   have p617 : 0 ≤ (x5_1 : Int) := od_
   have q617 : x5_1 < (l1.length : Int) := od_
   obtain ⟨ad617, e617, hx617_0, hx617_1, hx617_2, hx617_3, hx617_4, hx617_5, hx617_6, hx617_7, hx617_8, hx617_9, hx617_10, hx617_11, hx617_12, hx617_13, hx617_14, hx617_15⟩ := at_T126 HR1.out x5_1 p617 q617
   have hw617_15 := hx617_15
   have hw617_14 := hx617_14
   have hw617_13 := hx617_13
   have hw617_12 := hx617_12
   have hw617_11 := hx617_11
   have hw617_10 := hx617_10
   have hw617_9 := hx617_9
   have hw617_8 := hx617_8
   have hw617_7 := hx617_7
   have hw617_6 := hx617_6
   have hw617_5 := hx617_5
   have hw617_4 := hx617_4
   have hw617_3 := hx617_3
   have hw617_2 := hx617_2
   have hw617_1 := hx617_1
   have hw617_0 := hx617_0
   cases e617
   replace hx617_0 := lb_ HB hx617_0
   replace hx617_1 := lb_ HB hx617_1
   replace hx617_2 := lb_ HB hx617_2
   replace hx617_3 := lb_ HB hx617_3
   replace hx617_4 := lb_ HB hx617_4
   replace hx617_5 := lb_ HB hx617_5
   replace hx617_6 := lb_ HB hx617_6
   replace hx617_7 := lb_ HB hx617_7
   replace hx617_8 := lb_ HB hx617_8
   replace hx617_9 := lb_ HB hx617_9
   replace hx617_10 := lb_ HB hx617_10
   replace hx617_11 := lb_ HB hx617_11
   replace hx617_12 := lb_ HB hx617_12
   replace hx617_13 := lb_ HB hx617_13
   replace hx617_14 := lb_ HB hx617_14
   replace hx617_15 := lb_ HB hx617_15
   replace p617 := eq_true p617
   replace q617 := eq_true q617
   refine start_ (n := 10) (S := fun w' => w'.cell? (ad616.add ((x5_1).toNat * 16)) = some (.int .i64 ((rd_T126 l0 x5_1).f0)) ∧ w'.cell? ⟨(ad616.add ((x5_1).toNat * 16)).block, (ad616.add ((x5_1).toNat * 16)).off + 1, none⟩ = some (.int .i64 ((rd_T126 l0 x5_1).f1.f0)) ∧ w'.cell? ⟨(ad616.add ((x5_1).toNat * 16)).block, (ad616.add ((x5_1).toNat * 16)).off + 2, none⟩ = some (.string ((rd_T126 l0 x5_1).f1.f1)) ∧ w'.cell? ⟨(ad616.add ((x5_1).toNat * 16)).block, (ad616.add ((x5_1).toNat * 16)).off + 3, none⟩ = some (.int .i64 ((rd_T126 l0 x5_1).f1.f2)) ∧ w'.cell? ⟨(ad616.add ((x5_1).toNat * 16)).block, (ad616.add ((x5_1).toNat * 16)).off + 4, none⟩ = some (.int .i64 ((rd_T126 l0 x5_1).f1.f3)) ∧ w'.cell? ⟨(ad616.add ((x5_1).toNat * 16)).block, (ad616.add ((x5_1).toNat * 16)).off + 5, none⟩ = some (.int .i64 ((rd_T126 l0 x5_1).f1.f4)) ∧ w'.cell? ⟨(ad616.add ((x5_1).toNat * 16)).block, (ad616.add ((x5_1).toNat * 16)).off + 6, none⟩ = some (.string ((rd_T126 l0 x5_1).f1.f5)) ∧ w'.cell? ⟨(ad616.add ((x5_1).toNat * 16)).block, (ad616.add ((x5_1).toNat * 16)).off + 7, none⟩ = some (.int .i64 ((rd_T126 l0 x5_1).f1.f6)) ∧ w'.cell? ⟨(ad616.add ((x5_1).toNat * 16)).block, (ad616.add ((x5_1).toNat * 16)).off + 8, none⟩ = some (.int .i64 ((rd_T126 l0 x5_1).f1.f7)) ∧ w'.cell? ⟨(ad616.add ((x5_1).toNat * 16)).block, (ad616.add ((x5_1).toNat * 16)).off + 9, none⟩ = some (.int .i64 ((rd_T126 l0 x5_1).f2.f0)) ∧ w'.cell? ⟨(ad616.add ((x5_1).toNat * 16)).block, (ad616.add ((x5_1).toNat * 16)).off + 10, none⟩ = some (.string ((rd_T126 l0 x5_1).f2.f1)) ∧ w'.cell? ⟨(ad616.add ((x5_1).toNat * 16)).block, (ad616.add ((x5_1).toNat * 16)).off + 11, none⟩ = some (.int .i64 ((rd_T126 l0 x5_1).f2.f2)) ∧ w'.cell? ⟨(ad616.add ((x5_1).toNat * 16)).block, (ad616.add ((x5_1).toNat * 16)).off + 12, none⟩ = some (.int .i64 ((rd_T126 l0 x5_1).f2.f3)) ∧ w'.cell? ⟨(ad616.add ((x5_1).toNat * 16)).block, (ad616.add ((x5_1).toNat * 16)).off + 13, none⟩ = some (.int .i64 ((rd_T126 l0 x5_1).f2.f4)) ∧ w'.cell? ⟨(ad616.add ((x5_1).toNat * 16)).block, (ad616.add ((x5_1).toNat * 16)).off + 14, none⟩ = some (.int .i64 ((rd_T126 l0 x5_1).f2.f5)) ∧ w'.cell? ⟨(ad616.add ((x5_1).toNat * 16)).block, (ad616.add ((x5_1).toNat * 16)).off + 15, none⟩ = some (.int .i64 ((rd_T126 l0 x5_1).f2.f6)) ∧ w'.cell? (ad617.add ((x5_1).toNat * 16)) = some (.int .i64 ((rd_T126 l1 x5_1).f0)) ∧ w'.cell? ⟨(ad617.add ((x5_1).toNat * 16)).block, (ad617.add ((x5_1).toNat * 16)).off + 1, none⟩ = some (.int .i64 ((rd_T126 l1 x5_1).f1.f0)) ∧ w'.cell? ⟨(ad617.add ((x5_1).toNat * 16)).block, (ad617.add ((x5_1).toNat * 16)).off + 2, none⟩ = some (.string ((rd_T126 l1 x5_1).f1.f1)) ∧ w'.cell? ⟨(ad617.add ((x5_1).toNat * 16)).block, (ad617.add ((x5_1).toNat * 16)).off + 3, none⟩ = some (.int .i64 ((rd_T126 l1 x5_1).f1.f2)) ∧ w'.cell? ⟨(ad617.add ((x5_1).toNat * 16)).block, (ad617.add ((x5_1).toNat * 16)).off + 4, none⟩ = some (.int .i64 ((rd_T126 l1 x5_1).f1.f3)) ∧ w'.cell? ⟨(ad617.add ((x5_1).toNat * 16)).block, (ad617.add ((x5_1).toNat * 16)).off + 5, none⟩ = some (.int .i64 ((rd_T126 l1 x5_1).f1.f4)) ∧ w'.cell? ⟨(ad617.add ((x5_1).toNat * 16)).block, (ad617.add ((x5_1).toNat * 16)).off + 6, none⟩ = some (.string ((rd_T126 l1 x5_1).f1.f5)) ∧ w'.cell? ⟨(ad617.add ((x5_1).toNat * 16)).block, (ad617.add ((x5_1).toNat * 16)).off + 7, none⟩ = some (.int .i64 ((rd_T126 l1 x5_1).f1.f6)) ∧ w'.cell? ⟨(ad617.add ((x5_1).toNat * 16)).block, (ad617.add ((x5_1).toNat * 16)).off + 8, none⟩ = some (.int .i64 ((rd_T126 l1 x5_1).f1.f7)) ∧ w'.cell? ⟨(ad617.add ((x5_1).toNat * 16)).block, (ad617.add ((x5_1).toNat * 16)).off + 9, none⟩ = some (.int .i64 ((rd_T126 l1 x5_1).f2.f0)) ∧ w'.cell? ⟨(ad617.add ((x5_1).toNat * 16)).block, (ad617.add ((x5_1).toNat * 16)).off + 10, none⟩ = some (.string ((rd_T126 l1 x5_1).f2.f1)) ∧ w'.cell? ⟨(ad617.add ((x5_1).toNat * 16)).block, (ad617.add ((x5_1).toNat * 16)).off + 11, none⟩ = some (.int .i64 ((rd_T126 l1 x5_1).f2.f2)) ∧ w'.cell? ⟨(ad617.add ((x5_1).toNat * 16)).block, (ad617.add ((x5_1).toNat * 16)).off + 12, none⟩ = some (.int .i64 ((rd_T126 l1 x5_1).f2.f3)) ∧ w'.cell? ⟨(ad617.add ((x5_1).toNat * 16)).block, (ad617.add ((x5_1).toNat * 16)).off + 13, none⟩ = some (.int .i64 ((rd_T126 l1 x5_1).f2.f4)) ∧ w'.cell? ⟨(ad617.add ((x5_1).toNat * 16)).block, (ad617.add ((x5_1).toNat * 16)).off + 14, none⟩ = some (.int .i64 ((rd_T126 l1 x5_1).f2.f5)) ∧ w'.cell? ⟨(ad617.add ((x5_1).toNat * 16)).block, (ad617.add ((x5_1).toNat * 16)).off + 15, none⟩ = some (.int .i64 ((rd_T126 l1 x5_1).f2.f6))) (ds := []) #[oo,oo,oo,oo,oo,oo,oo,oo,oo,oo] (by kernel_rfl) rfl rfl ⟨(lb_ HB hw616_0 :), (lb_ HB hw616_1 :), (lb_ HB hw616_2 :), (lb_ HB hw616_3 :), (lb_ HB hw616_4 :), (lb_ HB hw616_5 :), (lb_ HB hw616_6 :), (lb_ HB hw616_7 :), (lb_ HB hw616_8 :), (lb_ HB hw616_9 :), (lb_ HB hw616_10 :), (lb_ HB hw616_11 :), (lb_ HB hw616_12 :), (lb_ HB hw616_13 :), (lb_ HB hw616_14 :), (lb_ HB hw616_15 :), (lb_ HB hw617_0 :), (lb_ HB hw617_1 :), (lb_ HB hw617_2 :), (lb_ HB hw617_3 :), (lb_ HB hw617_4 :), (lb_ HB hw617_5 :), (lb_ HB hw617_6 :), (lb_ HB hw617_7 :), (lb_ HB hw617_8 :), (lb_ HB hw617_9 :), (lb_ HB hw617_10 :), (lb_ HB hw617_11 :), (lb_ HB hw617_12 :), (lb_ HB hw617_13 :), (lb_ HB hw617_14 :), (lb_ HB hw617_15 :)⟩ (fun hHeld => ?_); refine with_tabW laws_eqItemS.tab6 laws_eqItemS.bits6 (fun HT_ HW_ => ?_)
   generalize wr.drew = w9 at HB hx616_0 hx616_1 hx616_10 hx616_11 hx616_12 hx616_13 hx616_14 hx616_15 hx616_2 hx616_3 hx616_4 hx616_5 hx616_6 hx616_7 hx616_8 hx616_9 hx617_0 hx617_1 hx617_10 hx617_11 hx617_12 hx617_13 hx617_14 hx617_15 hx617_2 hx617_3 hx617_4 hx617_5 hx617_6 hx617_7 hx617_8 hx617_9 hHeld ⊢
   refine pz_ (i := 0) (N := some 17) HT_ #[ii,oo,oo,oo,oo,oo,oo,oo,oo,oo] rfl rfl ?_
   refine pz_ (i := 1) (N := some 18) HT_ #[ii,ii,oo,oo,oo,oo,oo,oo,oo,oo] rfl rfl ?_
   refine pz_ (i := 2) (N := some 19) HT_ #[ii,ii,ii,oo,oo,oo,oo,oo,oo,oo] rfl rfl ?_
   refine pz_ (i := 4) (N := some 21) HT_ #[ii,ii,ii,oo,ii,oo,oo,oo,oo,oo] rfl rfl ?_
   refine pz_ (i := 5) (N := some 22) HT_ #[ii,ii,ii,oo,ii,ii,oo,oo,oo,oo] rfl rfl ?_
   refine pz_ (i := 6) (N := some 23) HT_ #[ii,ii,ii,oo,ii,ii,ii,oo,oo,oo] rfl rfl ?_
   refine take_ (i := 3) (N := some 20) (v := ?_) (a' := ?_) #[ii,ii,ii,ii,ii,ii,ii,oo,oo,oo] rfl rfl (take_ofW HT_.out HW_.out (by kernel_rfl)) (fun _ _ _ h => h) (Or.inl ⟨by rfl, ?_⟩) hHeld ?_ ?_
   rotate_left
   ·
    rintro w' ⟨s0, s1, s2, s3, s4, s5, s6, s7, s8, s9, s10, s11, s12, s13, s14, s15, s16, s17, s18, s19, s20, s21, s22, s23, s24, s25, s26, s27, s28, s29, s30, s31⟩
    go_simp
    with_reducible rfl
   rotate_left
   ·
    exact ap_
   refine take_ (i := 7) (N := some 24) (v := ?_) (a' := ?_) #[ii,ii,ii,ii,ii,ii,ii,ii,oo,oo] rfl rfl (take_ofW HT_.out HW_.out (by kernel_rfl)) (fun _ _ _ h => h) (Or.inl ⟨by rfl, ?_⟩) hHeld ?_ ?_
   rotate_left
   ·
    rintro w' ⟨s0, s1, s2, s3, s4, s5, s6, s7, s8, s9, s10, s11, s12, s13, s14, s15, s16, s17, s18, s19, s20, s21, s22, s23, s24, s25, s26, s27, s28, s29, s30, s31⟩
    go_simp
    with_reducible rfl
   rotate_left
   ·
    exact ap_
   refine one_ (i := 8) (N := some 25) #[ii,ii,ii,ii,ii,ii,ii,ii,ii,oo] rfl rfl (one_of HT_.out (by kernel_rfl)) (by decide) (fun K hK => ?_)
   refine goes_ Try.func114 (by kernel_rfl) rfl #[.agg #[.int .i64 ((rd_T126 l0 x5_1).f0), .int .i64 ((rd_T126 l0 x5_1).f1.f0), .string ((rd_T126 l0 x5_1).f1.f1), .int .i64 ((rd_T126 l0 x5_1).f1.f2), .int .i64 ((rd_T126 l0 x5_1).f1.f3), .int .i64 ((rd_T126 l0 x5_1).f1.f4), .string ((rd_T126 l0 x5_1).f1.f5), .int .i64 ((rd_T126 l0 x5_1).f1.f6), .int .i64 ((rd_T126 l0 x5_1).f1.f7), .int .i64 ((rd_T126 l0 x5_1).f2.f0), .string ((rd_T126 l0 x5_1).f2.f1), .int .i64 ((rd_T126 l0 x5_1).f2.f2), .int .i64 ((rd_T126 l0 x5_1).f2.f3), .int .i64 ((rd_T126 l0 x5_1).f2.f4), .int .i64 ((rd_T126 l0 x5_1).f2.f5), .int .i64 ((rd_T126 l0 x5_1).f2.f6)], .agg #[.int .i64 ((rd_T126 l1 x5_1).f0), .int .i64 ((rd_T126 l1 x5_1).f1.f0), .string ((rd_T126 l1 x5_1).f1.f1), .int .i64 ((rd_T126 l1 x5_1).f1.f2), .int .i64 ((rd_T126 l1 x5_1).f1.f3), .int .i64 ((rd_T126 l1 x5_1).f1.f4), .string ((rd_T126 l1 x5_1).f1.f5), .int .i64 ((rd_T126 l1 x5_1).f1.f6), .int .i64 ((rd_T126 l1 x5_1).f1.f7), .int .i64 ((rd_T126 l1 x5_1).f2.f0), .string ((rd_T126 l1 x5_1).f2.f1), .int .i64 ((rd_T126 l1 x5_1).f2.f2), .int .i64 ((rd_T126 l1 x5_1).f2.f3), .int .i64 ((rd_T126 l1 x5_1).f2.f4), .int .i64 ((rd_T126 l1 x5_1).f2.f5), .int .i64 ((rd_T126 l1 x5_1).f2.f6)]] (by rfl) rfl rfl la_ ?_
   with_reducible refine (laws_eqItem.calls ((rd_T126 l0 x5_1).f0) ((rd_T126 l0 x5_1).f1.f0) ((rd_T126 l0 x5_1).f1.f1) ((rd_T126 l0 x5_1).f1.f2) ((rd_T126 l0 x5_1).f1.f3) ((rd_T126 l0 x5_1).f1.f4) ((rd_T126 l0 x5_1).f1.f5) ((rd_T126 l0 x5_1).f1.f6) ((rd_T126 l0 x5_1).f1.f7) ((rd_T126 l0 x5_1).f2.f0) ((rd_T126 l0 x5_1).f2.f1) ((rd_T126 l0 x5_1).f2.f2) ((rd_T126 l0 x5_1).f2.f3) ((rd_T126 l0 x5_1).f2.f4) ((rd_T126 l0 x5_1).f2.f5) ((rd_T126 l0 x5_1).f2.f6) ((rd_T126 l1 x5_1).f0) ((rd_T126 l1 x5_1).f1.f0) ((rd_T126 l1 x5_1).f1.f1) ((rd_T126 l1 x5_1).f1.f2) ((rd_T126 l1 x5_1).f1.f3) ((rd_T126 l1 x5_1).f1.f4) ((rd_T126 l1 x5_1).f1.f5) ((rd_T126 l1 x5_1).f1.f6) ((rd_T126 l1 x5_1).f1.f7) ((rd_T126 l1 x5_1).f2.f0) ((rd_T126 l1 x5_1).f2.f1) ((rd_T126 l1 x5_1).f2.f2) ((rd_T126 l1 x5_1).f2.f3) ((rd_T126 l1 x5_1).f2.f4) ((rd_T126 l1 x5_1).f2.f5) ((rd_T126 l1 x5_1).f2.f6) true _ ⟨rfl⟩ A7.out).mono ?_
   rintro e w10 ⟨rfl, hb⟩
   refine ⟨_, rfl, ?_⟩
   replace HB := bS_ HB hb
   (try clear hb)
   refine hK.out _ _ ⟨(lb_ HB hw616_0 :), (lb_ HB hw616_1 :), (lb_ HB hw616_2 :), (lb_ HB hw616_3 :), (lb_ HB hw616_4 :), (lb_ HB hw616_5 :), (lb_ HB hw616_6 :), (lb_ HB hw616_7 :), (lb_ HB hw616_8 :), (lb_ HB hw616_9 :), (lb_ HB hw616_10 :), (lb_ HB hw616_11 :), (lb_ HB hw616_12 :), (lb_ HB hw616_13 :), (lb_ HB hw616_14 :), (lb_ HB hw616_15 :), (lb_ HB hw617_0 :), (lb_ HB hw617_1 :), (lb_ HB hw617_2 :), (lb_ HB hw617_3 :), (lb_ HB hw617_4 :), (lb_ HB hw617_5 :), (lb_ HB hw617_6 :), (lb_ HB hw617_7 :), (lb_ HB hw617_8 :), (lb_ HB hw617_9 :), (lb_ HB hw617_10 :), (lb_ HB hw617_11 :), (lb_ HB hw617_12 :), (lb_ HB hw617_13 :), (lb_ HB hw617_14 :), (lb_ HB hw617_15 :)⟩ (fun hHeld => ?_)
   clear hK K
   refine norm_ (a' := ?_) ?_ ?_
   rotate_left
   ·
    show Act.put _ (some 25) _ = _
    exact ap_
   refine pz_ (i := 9) (N := some 26) HT_ #[ii,ii,ii,ii,ii,ii,ii,ii,ii,ii] rfl rfl ?_
   refine done_ (done_of HT_.out (by kernel_rfl)) ?_
   try go_wp2
   go_roundg k1
   case measure => have := HK1.out; omega
   case rel => exact ⟨(wrap64 (x5_1 + 1)), eqq_, H', ⟨by have := HK1.out; omega⟩, ⟨qB HB⟩⟩

/-! ### laws_eqCtl: function 30 -/
def laws_eqCtl.f (k : Nat) (a0_0 : Int) (a0_1 : Int) (a0_2 : Int) (a0_3 : Int) (a0_4 : Int) (a0_5 : Bool) (a0_6 : Int) (l0_7 : List (S126)) (a1_0 : Int) (a1_1 : Int) (a1_2 : Int) (a1_3 : Int) (a1_4 : Int) (a1_5 : Bool) (a1_6 : Int) (l1_7 : List (S126)) : Option (Bool) := if a0_0 = a1_0 then (if a0_1 = a1_1 then (if a0_2 = a1_2 then (if a0_3 = a1_3 then (if a0_4 = a1_4 then (if (a0_5 != a1_5) = true then (some false) else (if a0_6 = a1_6 then ((laws_eqItemS.f k l0_7 l1_7).bind fun t621 => (if t621 = true then (some true) else (some false))) else (some false))) else (some false)) else (some false)) else (some false)) else (some false)) else (some false)
theorem laws_eqCtl.mono : ∀ a0 a1 a2 a3 a4 a5 a6 a7 a8 a9 a10 a11 a12 a13 a14 a15 k, LeO (laws_eqCtl.f k a0 a1 a2 a3 a4 a5 a6 a7 a8 a9 a10 a11 a12 a13 a14 a15) (laws_eqCtl.f (k + 1) a0 a1 a2 a3 a4 a5 a6 a7 a8 a9 a10 a11 a12 a13 a14 a15) := by
 intro a0 a1 a2 a3 a4 a5 a6 a7 a8 a9 a10 a11 a12 a13 a14 a15 k
 unfold laws_eqCtl.f
 repeat' first
   | (with_reducible exact laws_eqItemS.mono _ _ _)
   | (with_reducible exact LeO.refl _)
   | (with_reducible exact LeO.none _)
   | (with_reducible refine LeO.ite ?_ ?_)
   | (with_reducible refine LeO.bind ?_ (fun _ => ?_))
set_option maxHeartbeats 8000000 in
set_option maxRecDepth 100000 in
theorem laws_eqCtl.calls (k : Nat) (a0_0 : Int) (a0_1 : Int) (a0_2 : Int) (a0_3 : Int) (a0_4 : Int) (a0_5 : Bool) (a0_6 : Int) (A0_7 : Option Addr) (c0_7 : Nat) (l0_7 : List (S126)) (a1_0 : Int) (a1_1 : Int) (a1_2 : Int) (a1_3 : Int) (a1_4 : Int) (a1_5 : Bool) (a1_6 : Int) (A1_7 : Option Addr) (c1_7 : Nat) (l1_7 : List (S126)) (r : Bool) (w : World) (hr0_7 : Kd.C k126 w A0_7 l0_7.length l0_7) (hc0_7 : l0_7.length ≤ c0_7) (hr1_7 : Kd.C k126 w A1_7 l1_7.length l1_7) (hc1_7 : l1_7.length ≤ c1_7) (hr_ : Aside0 (r = true)) (h : laws_eqCtl.f k a0_0 a0_1 a0_2 a0_3 a0_4 a0_5 a0_6 l0_7 a1_0 a1_1 a1_2 a1_3 a1_4 a1_5 a1_6 l1_7 = some r) :
  Calls Try.prog 30 #[.agg #[.int .i64 a0_0, .int .i64 a0_1, .int .i64 a0_2, .int .i64 a0_3, .int .i64 a0_4, .bool a0_5, .int .i64 a0_6, .slice A0_7 l0_7.length c0_7], .agg #[.int .i64 a1_0, .int .i64 a1_1, .int .i64 a1_2, .int .i64 a1_3, .int .i64 a1_4, .bool a1_5, .int .i64 a1_6, .slice A1_7 l1_7.length c1_7]] w fun e w' => e = .returned (.bool r) ∧ Below w.heap.size w w' := by
 have hu63 := Try.underlying63
 have HR0_7 := Aside0.mk hr0_7
 have HC0_7 := Aside0.mk hc0_7
 clear hr0_7 hc0_7
 have HR1_7 := Aside0.mk hr1_7
 have HC1_7 := Aside0.mk hc1_7
 clear hr1_7 hc1_7
 have HB := Aside0.mk (Below.refl w.heap.size w)
 have H := h
 unfold laws_eqCtl.f at H
 clear h
 by_cases c3 : a0_0 = a1_0
 rotate_left
 ·
  rw [if_neg c3] at H
  have c3b0 : (a0_0 == a1_0) = false := beq_eq_false_iff_ne.mpr c3
  have c3b1 : (a0_0 != a1_0) = true := bne_iff_ne.mpr c3
  exact absurd (hr_.out ▸ H) (by simp)
 rw [if_pos c3] at H
 have c3b0 : (a0_0 == a1_0) = true := beq_iff_eq.mpr c3
 have c3b1 : (a0_0 != a1_0) = false := bne_eq_false_iff_eq.mpr c3
 clear c3
 by_cases c4 : a0_1 = a1_1
 rotate_left
 ·
  rw [if_neg c4] at H
  have c4b0 : (a0_1 == a1_1) = false := beq_eq_false_iff_ne.mpr c4
  have c4b1 : (a0_1 != a1_1) = true := bne_iff_ne.mpr c4
  exact absurd (hr_.out ▸ H) (by simp)
 rw [if_pos c4] at H
 have c4b0 : (a0_1 == a1_1) = true := beq_iff_eq.mpr c4
 have c4b1 : (a0_1 != a1_1) = false := bne_eq_false_iff_eq.mpr c4
 clear c4
 by_cases c5 : a0_2 = a1_2
 rotate_left
 ·
  rw [if_neg c5] at H
  have c5b0 : (a0_2 == a1_2) = false := beq_eq_false_iff_ne.mpr c5
  have c5b1 : (a0_2 != a1_2) = true := bne_iff_ne.mpr c5
  exact absurd (hr_.out ▸ H) (by simp)
 rw [if_pos c5] at H
 have c5b0 : (a0_2 == a1_2) = true := beq_iff_eq.mpr c5
 have c5b1 : (a0_2 != a1_2) = false := bne_eq_false_iff_eq.mpr c5
 clear c5
 by_cases c6 : a0_3 = a1_3
 rotate_left
 ·
  rw [if_neg c6] at H
  have c6b0 : (a0_3 == a1_3) = false := beq_eq_false_iff_ne.mpr c6
  have c6b1 : (a0_3 != a1_3) = true := bne_iff_ne.mpr c6
  exact absurd (hr_.out ▸ H) (by simp)
 rw [if_pos c6] at H
 have c6b0 : (a0_3 == a1_3) = true := beq_iff_eq.mpr c6
 have c6b1 : (a0_3 != a1_3) = false := bne_eq_false_iff_eq.mpr c6
 clear c6
 by_cases c7 : a0_4 = a1_4
 rotate_left
 ·
  rw [if_neg c7] at H
  have c7b0 : (a0_4 == a1_4) = false := beq_eq_false_iff_ne.mpr c7
  have c7b1 : (a0_4 != a1_4) = true := bne_iff_ne.mpr c7
  exact absurd (hr_.out ▸ H) (by simp)
 rw [if_pos c7] at H
 have c7b0 : (a0_4 == a1_4) = true := beq_iff_eq.mpr c7
 have c7b1 : (a0_4 != a1_4) = false := bne_eq_false_iff_eq.mpr c7
 clear c7
 by_cases c8 : (a0_5 != a1_5) = true
 ·
  rw [if_pos c8] at H
  have c8b0 : (a0_5 != a1_5) = true := c8
  (try (have c8b1 : decide (a0_5 = a1_5) = false := by simpa using c8))
  (try (have c8b2 : (a0_5 == a1_5) = false := by simpa using c8))
  (try (have c8b3 : ¬ (a0_5 = a1_5) := by simpa using c8))
  clear c8
  exact absurd (hr_.out ▸ H) (by simp)
 rw [if_neg c8] at H
 have c8b0 : (a0_5 != a1_5) = false := by simpa using c8
 (try (have c8b1 : decide (a0_5 = a1_5) = true := by simpa using c8))
 (try (have c8b2 : (a0_5 == a1_5) = true := by simpa using c8))
 clear c8
 by_cases c9 : a0_6 = a1_6
 rotate_left
 ·
  rw [if_neg c9] at H
  have c9b0 : (a0_6 == a1_6) = false := beq_eq_false_iff_ne.mpr c9
  have c9b1 : (a0_6 != a1_6) = true := bne_iff_ne.mpr c9
  exact absurd (hr_.out ▸ H) (by simp)
 rw [if_pos c9] at H
 have c9b0 : (a0_6 == a1_6) = true := beq_iff_eq.mpr c9
 have c9b1 : (a0_6 != a1_6) = false := bne_eq_false_iff_eq.mpr c9
 clear c9
 replace H := bd_ H
 obtain ⟨t621, A10, H⟩ := H
 by_cases c11 : t621 = true
 rotate_left
 ·
  replace c11 := Bool.eq_false_iff.mpr c11
  subst c11
  rw [if_neg (show ¬ (false = true) by decide)] at H
  exact absurd (hr_.out ▸ H) (by simp)
 subst c11
 rw [if_pos rfl] at H
 obtain rfl := Option.some.inj H
 go_enter Try.func30, Try.ntmps30
 go_wp2_with (first | ((with_reducible refine gate_dst (N := 2) rfl ?_); refine box_event ?hg (N := 2) ?hd (cs := #[.int .i64 a0_0, .int .i64 a0_1, .int .i64 a0_2, .int .i64 a0_3, .int .i64 a0_4, .bool a0_5, .int .i64 a0_6, .slice A0_7 l0_7.length c0_7]) (t := 63) ?hr ?_; (case hd => rfl); (case hg => rfl); (case hr => first | (go_simp; done) | (go_simp; rfl)); intro gb619 hg w12 hbox hb; have BK619 := am_ (hbox); have GW619 := gA_ hg HB; have GE619 := GW619; have IGE619 := gI_ GE619; replace HB := bS_ HB hb; clear hb hbox hg) | ((with_reducible refine gate_dst (N := 3) rfl ?_); refine box_event ?hg (N := 3) ?hd (cs := #[.int .i64 a1_0, .int .i64 a1_1, .int .i64 a1_2, .int .i64 a1_3, .int .i64 a1_4, .bool a1_5, .int .i64 a1_6, .slice A1_7 l1_7.length c1_7]) (t := 63) ?hr ?_; (case hd => rfl); (case hg => rfl); (case hr => first | (go_simp; done) | (go_simp; rfl)); intro gb620 hg w13 hbox hb; have BK620 := am_ (hbox); have GW620 := gA_ hg HB; have GE620 := GW620; have IGE620 := gI_ GE620; replace HB := bS_ HB hb; have NB619_620 := am_ ((gN_ hg (qK BK619))); have NB620_619 := am_ ((gM_ hg (qK BK619))); replace BK619 := bK_ BK619 hb; clear hb hbox hg; have hnb14 := NB619_620.out; have hnc14 := NB620_619.out; have z15 := cz8 BK619.out; have z16 := cz8 BK620.out) | ((with_reducible refine gate_callee (f := 78) rfl ?_); refine goesL_ (some 44) rfl rfl Try.func78 (by kernel_rfl) rfl #[.slice A0_7 l0_7.length c0_7, .slice A1_7 l1_7.length c1_7] rfl la_ ?_; (with_reducible refine (laws_eqItemS.calls k _ _ l0_7 _ _ l1_7 true _ ?side1 ?side2 ?side3 ?side4 ⟨rfl⟩ A10.out).mono ?_); (case side1 => exact qC (Kd.C_below HR0_7.out HB.out)); (case side2 => exact HC0_7.out); (case side3 => exact qC (Kd.C_below HR1_7.out HB.out)); (case side4 => exact HC1_7.out); rintro e w17 ⟨rfl, hb⟩; refine ⟨_, rfl, ?_⟩; replace BK619 := bK_ BK619 hb; replace BK620 := bK_ BK620 hb; replace HB := bS_ HB hb; (try clear hb)))
 go_ret
 exact ⟨er_, qB HB⟩

/-! ### laws_markByteS: function 38 -/
def laws_markByteS.l0 : Nat → List Int → Int → Int → Option (Int × List Int)
 | 0, _, _, _ => none
 | k + 1, x0, x1, x5 => if x5 < (x0.length : Int) then (if 0 ≤ x5 then (laws_markByteS.l0 k (x0.set (x5 : Int).toNat ((x1) % 256)) (wrap64 (x1 + 1)) (wrap64 (x5 + 1))) else (none)) else (some (x1, x0))
def laws_markByteS.f (k : Nat) (l0 : List Int) (a1 : Int) : Option (Int × List Int) := laws_markByteS.l0 k l0 a1 0
theorem laws_markByteS.mono_l : ∀ k, (∀ y0 y1 y2, LeO (laws_markByteS.l0 k y0 y1 y2) (laws_markByteS.l0 (k + 1) y0 y1 y2))
 | 0 => fun _ _ _ r h => by simp [laws_markByteS.l0] at h
 | k + 1 => by
  have ih0 := laws_markByteS.mono_l k
  ·
   intro y0 y1 y2
   unfold laws_markByteS.l0
   repeat' first
   | (with_reducible exact ih0 _ _ _)
   | (with_reducible exact LeO.refl _)
   | (with_reducible exact LeO.none _)
   | (with_reducible refine LeO.ite ?_ ?_)
   | (with_reducible refine LeO.bind ?_ (fun _ => ?_))
theorem laws_markByteS.mono : ∀ a0 a1 k, LeO (laws_markByteS.f k a0 a1) (laws_markByteS.f (k + 1) a0 a1) := by
 intro a0 a1 k
 have ih0 := laws_markByteS.mono_l k
 unfold laws_markByteS.f
 repeat' first
   | (with_reducible exact ih0 _ _ _)
   | (with_reducible exact LeO.refl _)
   | (with_reducible exact LeO.none _)
   | (with_reducible refine LeO.ite ?_ ?_)
   | (with_reducible refine LeO.bind ?_ (fun _ => ?_))
set_option maxHeartbeats 8000000 in
set_option maxRecDepth 100000 in
theorem laws_markByteS.calls (k : Nat) (P0_ : Nat → Prop) (u9000_ : Value) (l0 : List Int) (a1 : Int) (r1 : Int) (r2 : List Int) (w0 w : World) (hB : Below w0.heap.size w0 w) (ho0 : Kd.R (Kd.int .u8) 5 w w0.heap.size P0_ u9000_ l0) (h : laws_markByteS.f k l0 a1 = some (r1, r2)) :
  Calls Try.prog 38 #[u9000_, .int .i64 a1] w fun e w' => e = .returned (.int .i64 r1) ∧ Kd.R (Kd.int .u8) 5 w' w0.heap.size (fun k_ => (P0_ k_ ∨ w.heap.size ≤ k_)) u9000_ r2 ∧ Below w0.heap.size w0 w' ∧ Kept w w' (fun k_ => P0_ k_) := by
 have HO0 := Aside0.mk (show Kd.R (Kd.int .u8) 5 w w0.heap.size (fun k_ => (P0_ k_ ∨ w.heap.size ≤ k_)) u9000_ l0 from Kd.R_mono ho0 (fun k_ hk => (.inl hk)))
 have HK := Aside0.mk (Kept.refl w (fun k_ => P0_ k_))
 have HW0 := Aside0.mk hB.size
 have HB := Aside0.mk hB
 clear hB
 have H : (laws_markByteS.l0 k l0 a1 0) = some (r1, r2) := h
 clear h
 have H' := Aside0.mk H
 clear H
 go_enter Try.func38, Try.ntmps38
 go_wp2
 go_loopg [1, 5] k (fun kq v1 v5 w' => ∃ (x0_1 : List Int) (x1_1 : Int) (x5_1 : Int), v1 = .int .i64 x1_1 ∧ v5 = .int .i64 x5_1 ∧ Aside0 (laws_markByteS.l0 kq x0_1 x1_1 x5_1 = some (r1, r2)) ∧ Aside0 (kq ≤ k) ∧ Aside0 (Kd.R (Kd.int .u8) 5 w' w0.heap.size (fun k_ => (P0_ k_ ∨ w.heap.size ≤ k_)) u9000_ x0_1) ∧ Aside0 (Kept w w' (fun k_ => P0_ k_)) ∧ Aside0 (Below w0.heap.size w0 w'))
 case atStart => exact ⟨(l0), (a1), (0), eqq_, eqq_, H', ⟨Nat.le_refl _⟩, ⟨qR HO0⟩, ⟨by repeat (first | (with_reducible first | exact HK.out | apply Kept.alloc | apply Kept.drewN | apply Kept.drew) | exact HK.out)⟩, ⟨qB HB⟩⟩
 case round =>
  clear H'
  try clear p2
  obtain ⟨x0_1, x1_1, x5_1, rfl, rfl, HA, HK1, HO_0, HK, HB⟩ := hrel
  cases gk with
  | zero => exact absurd HA.out (by simp [laws_markByteS.l0])
  | succ k1 =>
   have H := HA.out
   clear HA
   simp only [laws_markByteS.l0] at H
   by_cases c3 : x5_1 < (x0_1.length : Int)
   rotate_left
   ·
    rw [if_neg c3] at H
    have c3b0 : decide (x5_1 < (x0_1.length : Int)) = false := decide_eq_false c3
    clear c3
    simp only [Option.some.injEq, Prod.mk.injEq] at H
    obtain ⟨rfl, rfl⟩ := H
    obtain ⟨Ao9, co9, eo9⟩ := Kd.R_slice HO_0.out
    subst eo9
    go_wp2
    go_ret
    exact ⟨er_, qR HO_0, qB HB, by repeat (first | (with_reducible first | exact HK.out | apply Kept.alloc | apply Kept.drewN | apply Kept.drew) | exact HK.out)⟩
   rw [if_pos c3] at H
   have c3b0 : decide (x5_1 < (x0_1.length : Int)) = true := decide_eq_true c3
   clear c3
   by_cases c4 : 0 ≤ x5_1
   case neg => exact nn_ c4 H
   rw [if_pos c4] at H
   have c4b0 : decide (0 ≤ x5_1) = true := decide_eq_true c4
   clear c4
   obtain ⟨y622, hy622⟩ : ∃ y_ : List Int, y_ = (x0_1.set (x5_1 : Int).toNat ((x1_1) % 256)) := ⟨_, rfl⟩
   rw [← hy622] at H
   have Ny622 := Aside0.mk hy622
   clear hy622
   have H' := Aside0.mk H
   clear H
   obtain ⟨Ao6, co6, eo6⟩ := Kd.R_slice HO_0.out
   subst eo6
   have p5 : 0 ≤ (x5_1 : Int) := od_
   have q5 : (x5_1 : Int) < ((x0_1.length : Int) : Int) := od_
   obtain ⟨go5, co5, eo5, gb5, gl5, cl5, HG5⟩ := Kd.R_form HO_0.out (by omega)
   (first | cases eo5 | (injection eo5 with ea_ en_ ec_; (first | subst ea_ | (injection ea_ with ea_; subst ea_)); subst ec_; clear en_))
   have GB5 := Aside0.mk gb5
   have GG5 := Aside0.mk HG5
   clear gb5 gl5 HG5
   have HMgo5 := Aside0.mk (show (P0_ go5 ∨ w.heap.size ≤ go5) from (HO_0.out.1 _ rfl))
   obtain ⟨hx5_0, hf5_0⟩ := Kd.R_celln 0 HO_0.out (x5_1 : Int) p5 q5
   replace p5 := eq_true p5
   replace q5 := eq_true q5
   have HP7 := Kd.R_putg HO_0.out (x5_1 : Int) ((x1_1) % 256)
   go_wp2_with (first | ((with_reducible refine gate_store (t := 5) (p := 16) rfl ?_); refine store_event (t := 5) (p := 16) (v := ?vo_w8) (w1 := (wr.setCell ⟨go5, (x5_1 : Int).toNat, none⟩ (.int .u8 ((x1_1) % 256)))) ?hg ?ho ?hn ?hr ?_; (case ho => rfl); (case hg => rfl); (case hn => rfl); (case hr => first | (go_simp; done) | (go_simp; rfl)); intro w8 hw; have hg : wr.grownBy w8 (some go5) := (by rw [hw]; exact HP7.2); have hp_ : Kd.R (Kd.int .u8) 5 w8 w0.heap.size (fun k_ => (P0_ k_ ∨ w.heap.size ≤ k_)) (.slice (some ⟨go5, 0, none⟩) x0_1.length co6) y622 := (by rw [hw, Ny622.out]; exact HP7.1); clear HP7; replace HB := am_ ((by rw [hw]; exact below_set (HB.out) GB5.out : Below w0.heap.size w0 w8)); replace HK := am_ (Kept.of_grown (S := (fun k_ => P0_ k_)) hg (by repeat (first | (with_reducible first | exact HK.out | apply Kept.alloc | apply Kept.drewN | apply Kept.drew) | exact HK.out)) (fun k_ e_ => (HO_0.out.1 k_ e_))); replace HO_0 := am_ (hp_); clear hg hw hp_))
   go_roundg k1
   case measure => have := HK1.out; omega
   case rel => exact ⟨(y622), (wrap64 (x1_1 + 1)), (wrap64 (x5_1 + 1)), eqq_, eqq_, H', ⟨by have := HK1.out; omega⟩, ⟨qR HO_0⟩, ⟨by repeat (first | (with_reducible first | exact HK.out | apply Kept.alloc | apply Kept.drewN | apply Kept.drew) | exact HK.out)⟩, ⟨qB HB⟩⟩

/-! ### laws_markPackS: function 31, by hand: each element's row is lent to laws_markByteS and put back -/
def laws_markPackS.f (k : Nat) : List (S113) → Int → Option (Int × List (S113))
 | [], a => some (a, [])
 | x :: l, a => (laws_markByteS.f k x.f1 (wrap64 (a + 1))).bind fun b => (laws_markPackS.f k l b.1).bind fun c => some (c.1, (⟨a, b.2⟩ : S113) :: c.2)
theorem laws_markPackS.mono : ∀ l a k, LeO (laws_markPackS.f k l a) (laws_markPackS.f (k + 1) l a) := by
 intro l
 induction l with
 | nil => intro a k; exact LeO.refl _
 | cons x l ih => intro a k; exact LeO.bind (laws_markByteS.mono _ _ _) (fun _ => LeO.bind (ih _ _) (fun _ => LeO.refl _))
set_option maxHeartbeats 8000000 in
set_option maxRecDepth 100000 in
theorem laws_markPackS.calls (k : Nat) (P0_ : Nat → Prop) (u9000_ : Value) (l0 : List (S113)) (a1 : Int) (r1 : Int) (r2 : List (S113)) (w0 w : World) (hB : Below w0.heap.size w0 w) (ho0 : Kd.S k113 113 w w0.heap.size P0_ u9000_ l0) (h : laws_markPackS.f k l0 a1 = some (r1, r2)) :
  Calls Try.prog 31 #[u9000_, .int .i64 a1] w fun e w' => e = .returned (.int .i64 r1) ∧ Kd.S k113 113 w' w0.heap.size P0_ u9000_ r2 ∧ Below w0.heap.size w0 w' ∧ Kept w w' P0_ := by
 have hu113 := Try.underlying113
 obtain ⟨A0, c0, e0⟩ := Kd.S_slice ho0
 subst e0
 have hbig : l0.length ≤ 9223372036854775807 := (Kd.S_reads' ho0).2.2.2.1
 have hlen0 := (Kd.S_reads' ho0).1
 have HBIG := Aside0.mk hbig
 have HO := Aside0.mk ho0
 have HB := Aside0.mk hB
 have HK := Aside0.mk (Kept.refl w P0_)
 have HI := Aside0.mk (show (laws_markPackS.f k (l0.drop (0 : Int).toNat) a1).map (fun p => (p.1, l0.take (0 : Int).toNat ++ p.2)) = some (r1, r2) by
  simp [h])
 clear ho0 hB h hbig hlen0
 go_enter Try.func31, Try.ntmps31
 go_wp2
 go_loopg [1, 5] l0.length (fun gg v1 v5 wr => ∃ (xs : List (S113)) (kk i : Int), v1 = .int .i64 kk ∧ v5 = .int .i64 i ∧ Aside0 (0 ≤ i ∧ i ≤ (l0.length : Int) ∧ ((l0.length : Int) - i).toNat ≤ gg ∧ xs.length = l0.length) ∧ Aside0 ((laws_markPackS.f k (xs.drop i.toNat) kk).map (fun p => (p.1, xs.take i.toNat ++ p.2)) = some (r1, r2)) ∧ Aside0 (Kd.S k113 113 wr w0.heap.size P0_ (.slice A0 l0.length c0) xs) ∧ Aside0 (Below w0.heap.size w0 wr) ∧ Aside0 (Kept w wr P0_))
 case atStart => exact ⟨l0, a1, 0, rfl, rfl, ⟨by omega, by omega, by omega, rfl⟩, HI, HO, HB, HK⟩
 case round =>
  clear HI HO HB HK
  obtain ⟨xs, kk, i, rfl, rfl, HR, HI, HO, HB, HK⟩ := hrel
  obtain ⟨h0, h1, hg, hl⟩ := HR.out
  by_cases hlt : i < (l0.length : Int)
  rotate_left
  ·
   have c3 : decide (i < (l0.length : Int)) = false := decide_eq_false hlt
   go_wp2
   go_ret
   have hi := HI.out
   rw [List.drop_eq_nil_of_le (by omega), List.take_of_length_le (by omega)] at hi
   simp only [laws_markPackS.f, Option.map_some, List.append_nil] at hi
   obtain ⟨rfl, rfl⟩ := Prod.mk.inj (Option.some.inj hi)
   exact ⟨rfl, HO.out, HB.out, HK.out⟩
  have c3 : decide (i < (l0.length : Int)) = true := decide_eq_true hlt
  obtain ⟨g, cap, eg, hgb, hgl, _⟩ := Kd.S_form HO.out (by omega)
  injection eg with eg1 eg2 eg3
  subst eg1
  clear eg2 eg3
  obtain ⟨oki, ce, hcl, hM, hcc, hfr, hoki, hH⟩ := Kd.S_elem HO.out z113 i h0 hlt
  obtain ⟨ve1, rfl, ge1⟩ := k113_openM hM
  have hx0 : wr.cell? ⟨g, i.toNat * 2, none⟩ = some (.int .i64 ((rd_T113 xs i).f0)) := hcc 0 _ rfl
  have hx1 : wr.cell? ⟨g, i.toNat * 2 + 1, none⟩ = some ve1 := hcc 1 _ rfl
  have hf0 : wr.frozen? ⟨g, i.toNat * 2, none⟩ = false := hfr 0
  have hdrop : xs.drop i.toNat = rd_T113 xs i :: xs.drop (i + 1).toNat := by
   have hi : i.toNat < xs.length := by omega
   rw [List.drop_eq_getElem_cons hi, show (i + 1).toNat = i.toNat + 1 by omega]
   congr 1
   simp [rd_T113, List.getD_eq_getElem?_getD, List.getElem?_eq_getElem hi]
  have hi1 := HI.out
  rw [hdrop] at hi1
  simp only [laws_markPackS.f, Option.map_eq_some_iff, Option.bind_eq_some_iff] at hi1
  obtain ⟨p, ⟨⟨b1, b2⟩, hb, ⟨q1, q2⟩, hq, hp⟩, hr⟩ := hi1
  obtain rfl := Option.some.inj hp
  clear hp
  obtain ⟨hH1, hg1⟩ := Kd.H_seg hH h0 hlt (seg := [.int .i64 kk]) (j := 0) (show 0 + 1 ≤ 2 by decide) (by intro q hq; simp only [List.mem_singleton] at hq; subst hq; rfl)
  have hge : (Kd.int .u8).R 5 (wr.setCell ⟨g, i.toNat * 2, none⟩ (.int .i64 kk)) w0.heap.size oki ve1 (rd_T113 xs i).f1 := Kd.R_far (p := ⟨g, i.toNat * 2, none⟩) ge1 (fun k hk => (hoki k hk).2) _
  have hne := fun k hk => (hoki k hk)
  have hB1 : Below w0.heap.size w0 (wr.setCell ⟨g, i.toNat * 2, none⟩ (.int .i64 kk)) := below_set HB.out hgb
  have hK1 : Kept w (wr.setCell ⟨g, i.toNat * 2, none⟩ (.int .i64 kk)) P0_ := Kept.setCell (p := ⟨g, i.toNat * 2, none⟩) HK.out (.inl (HO.out.elim fun f hf => hf.1 g (by simp [Value.ownBlock]))) _
  have hcall := laws_markByteS.calls k oki ve1 _ _ b1 b2 w0 _ hB1 hge hb
  have hm : Aside0 (((l0.length : Int) - (i + 1)).toNat < gk ∧ 0 ≤ i + 1 ∧ i + 1 ≤ (l0.length : Int) ∧ wrap64 (i + 1) = i + 1) := ⟨by omega, by omega, by omega, by have := HBIG.out; unfold wrap64; omega⟩
  have HN := Aside0.mk (show (laws_markPackS.f k ((xs.set i.toNat (⟨kk, b2⟩ : S113)).drop (i + 1).toNat) b1).map (fun p => (p.1, (xs.set i.toNat (⟨kk, b2⟩ : S113)).take (i + 1).toNat ++ p.2)) = some (r1, r2) by
   have e1 : (xs.set i.toNat (⟨kk, b2⟩ : S113)).drop (i + 1).toNat = xs.drop (i + 1).toNat := by
    rw [show (i + 1).toNat = i.toNat + 1 by omega, List.drop_set_of_lt (by omega)]
   have e2 : (xs.set i.toNat (⟨kk, b2⟩ : S113)).take (i + 1).toNat = xs.take i.toNat ++ [(⟨kk, b2⟩ : S113)] := by
    have hi : i.toNat < xs.length := by omega
    rw [show (i + 1).toNat = i.toNat + 1 by omega, List.take_add_one, List.getElem?_set_self hi, List.take_set_of_le (by omega)]
    rfl
   rw [e1, e2, hq]
   simp only [Option.map_some, List.append_assoc, List.singleton_append]
   exact congrArg some hr)
  have HCALL := Aside0.mk hcall
  have HH1 := Aside0.mk hH1
  have HK1 := Aside0.mk hK1
  have HOKI := Aside0.mk hoki
  have HGE := Aside0.mk hge
  have HL := Aside0.mk hl
  have H01 := Aside0.mk (And.intro h0 hlt)
  clear hcall hH1 hK1 hoki hge hl hr hq hb hH hcc hfr hM ge1 hg1 hne hB1 hgb hgl hdrop HR HI hcl h1 hg
  replace h0 := eq_true h0
  replace hlt := eq_true hlt
  go_wp2_with (first | ((with_reducible refine gate_store (t := 3) (p := 16) rfl ?_); refine store_event (t := 3) (p := 16) (v := ?vo) (w1 := (wr.setCell ⟨g, i.toNat * 2, none⟩ (.int .i64 kk))) ?hg ?ho ?hn ?hr ?_; (case ho => rfl); (case hg => rfl); (case hn => rfl); (case hr => first | (go_simp; done) | (go_simp; rfl)); intro w16 hw; subst hw) | (go_at_call 38; refine HCALL.out.mono ?_; rintro e w' ⟨rfl, hR', hB', hK'⟩))
  have hw := hm.out.2.2.2
  have HO2 := Kd.H_back (x' := (⟨kk, b2⟩ : S113)) (Kd.H_kept HH1.out hK' (fun k _ hn => hn)) (k113_mkM _ _ _ (⟨kk, b2⟩ : S113) (Kd.R_reok rfl hR' (fun k hk => HGE.out.1 k hk))) (fun _ hk => hk)
  go_roundg (((l0.length : Int) - (i + 1)).toNat)
  case measure => exact hm.out.1
  case rel => exact ⟨xs.set i.toNat (⟨kk, b2⟩ : S113), b1, i + 1, rfl, by rw [hw], ⟨hm.out.2.1, hm.out.2.2.1, Nat.le_refl _, by rw [List.length_set]; exact HL.out⟩, HN, ⟨HO2⟩, ⟨hB'⟩, ⟨Kept.then_ HK1.out hK' (fun k hk => .inl (HOKI.out k hk).1)⟩⟩


/-! ### laws_markText: function 102 -/
def laws_markText.l0 : Nat → Int → ByteArray → Option (ByteArray)
 | 0, _, _ => none
 | k + 1, x0, x3 => if x0 > 0 then ((some (([(wrap64 (48 + (Int.tmod x0 10))) % 256] : List Int) : List Int)).bind fun y623 => (if (strOfNums y623).size + x3.size ≤ 9223372036854775807 then (laws_markText.l0 k (wrap64 (Int.tdiv x0 10)) ((strOfNums y623) ++ x3)) else (none))) else (if 1 + x3.size ≤ 9223372036854775807 then (some ((⟨#[109]⟩ : ByteArray) ++ x3)) else (none))
def laws_markText.f (k : Nat) (a0 : Int) : Option (ByteArray) := if a0 ≤ 0 then (some (⟨#[109, 48]⟩ : ByteArray)) else (laws_markText.l0 k a0 (⟨#[]⟩ : ByteArray))
theorem laws_markText.mono_l : ∀ k, (∀ y0 y1, LeO (laws_markText.l0 k y0 y1) (laws_markText.l0 (k + 1) y0 y1))
 | 0 => fun _ _ r h => by simp [laws_markText.l0] at h
 | k + 1 => by
  have ih0 := laws_markText.mono_l k
  ·
   intro y0 y1
   unfold laws_markText.l0
   repeat' first
   | (with_reducible exact ih0 _ _)
   | (with_reducible exact LeO.refl _)
   | (with_reducible exact LeO.none _)
   | (with_reducible refine LeO.ite ?_ ?_)
   | (with_reducible refine LeO.bind ?_ (fun _ => ?_))
theorem laws_markText.mono : ∀ a0 k, LeO (laws_markText.f k a0) (laws_markText.f (k + 1) a0) := by
 intro a0 k
 have ih0 := laws_markText.mono_l k
 unfold laws_markText.f
 repeat' first
   | (with_reducible exact ih0 _ _)
   | (with_reducible exact LeO.refl _)
   | (with_reducible exact LeO.none _)
   | (with_reducible refine LeO.ite ?_ ?_)
   | (with_reducible refine LeO.bind ?_ (fun _ => ?_))
set_option maxHeartbeats 8000000 in
set_option maxRecDepth 100000 in
theorem laws_markText.calls (k : Nat) (a0 : Int) (r : ByteArray) (w : World) (h : laws_markText.f k a0 = some r) :
  Calls Try.prog 102 #[.int .i64 a0] w fun e w' => e = .returned (.string r) ∧ Below w.heap.size w w' := by
 have HB := Aside0.mk (Below.refl w.heap.size w)
 have H := h
 unfold laws_markText.f at H
 clear h
 by_cases c2 : a0 ≤ 0
 ·
  rw [if_pos c2] at H
  have c2b0 : decide (a0 ≤ 0) = true := decide_eq_true c2
  clear c2
  obtain rfl := Option.some.inj H
  go_enter Try.func102, Try.ntmps102
  go_wp2
  go_ret
  exact ⟨er_, qB HB⟩
 rw [if_neg c2] at H
 have c2b0 : decide (a0 ≤ 0) = false := decide_eq_false c2
 clear c2
 have H' := Aside0.mk H
 clear H
 go_enter Try.func102, Try.ntmps102
 go_wp2
 go_loopg [0, 3] k (fun kq v0 v3 w' => ∃ (x0_1 : Int) (x3_1 : ByteArray), v0 = .int .i64 x0_1 ∧ v3 = .string x3_1 ∧ Aside0 (laws_markText.l0 kq x0_1 x3_1 = some r) ∧ Aside0 (kq ≤ k) ∧ Aside0 (Below w.heap.size w w'))
 case atStart => exact ⟨(a0), ((⟨#[]⟩ : ByteArray)), eqq_, eqq_, H', ⟨Nat.le_refl _⟩, ⟨qB HB⟩⟩
 case round =>
  clear H'
  try clear c1
  try clear c2
  try clear c2b0
  try clear p2
  obtain ⟨x0_1, x3_1, rfl, rfl, HA, HK1, HB⟩ := hrel
  cases gk with
  | zero => exact absurd HA.out (by simp [laws_markText.l0])
  | succ k1 =>
   have H := HA.out
   clear HA
   simp only [laws_markText.l0] at H
   by_cases c3 : x0_1 > 0
   rotate_left
   ·
    rw [if_neg c3] at H
    have c3b0 : decide (0 < x0_1) = false := decide_eq_false c3
    clear c3
    by_cases c8 : 1 + x3_1.size ≤ 9223372036854775807
    case neg => exact nn_ c8 H
    rw [if_pos c8] at H
    have c8b0 := eq_true c8
    have c8b1 : decide (1 + x3_1.size ≤ 9223372036854775807) = true := decide_eq_true c8
    try have c8b2 : (9223372036854775807 < 1 + x3_1.size) = False := eq_false (Nat.not_lt.2 c8)
    obtain rfl := Option.some.inj H
    go_wp2
    go_ret
    exact ⟨er_, qB HB⟩
   rw [if_pos c3] at H
   have c3b0 : decide (0 < x0_1) = true := decide_eq_true c3
   clear c3
   obtain ⟨y623, hy623⟩ : ∃ y_ : List Int, y_ = (([(wrap64 (48 + (Int.tmod x0_1 10))) % 256] : List Int)) := ⟨_, rfl⟩
   replace H := mk_ H hy623
   (try dsimp only at H)
   have Ny623 := Aside0.mk hy623
   clear hy623
   by_cases c4 : (strOfNums y623).size + x3_1.size ≤ 9223372036854775807
   case neg => exact nn_ c4 H
   rw [if_pos c4] at H
   have c4b0 := eq_true c4
   have c4b1 : decide ((strOfNums y623).size + x3_1.size ≤ 9223372036854775807) = true := decide_eq_true c4
   try have c4b2 : (9223372036854775807 < (strOfNums y623).size + x3_1.size) = False := eq_false (Nat.not_lt.2 c4)
   have H' := Aside0.mk H
   clear H
   go_wp2_with (first | ((with_reducible refine gate_dst (N := 12) rfl ?_); refine Kd.R_lit (Kd.int .u8) _ 5 ?hg (N := 12) ?hd (xs := ([(wrap64 (48 + (Int.tmod x0_1 10))) % 256] : List Int)) (inner := [.int .u8 ((wrap64 (48 + (Int.tmod x0_1 10))) % 256)]) (ok := fun _ => True) (okp := fun _ => True) ?hr ?hp (fun _ hk => hk) trivial (Below.refl _ _) (Nat.le_refl _) (by simp) ?_; (case hd => rfl); (case hg => rfl); (case hr => first | (go_simp; done) | (go_simp; rfl)); (case hp => exact (Reps.one (show Kd.M (Kd.int .u8) _ _ _ ((wrap64 (48 + (Int.tmod x0_1 10))) % 256) [.int .u8 ((wrap64 (48 + (Int.tmod x0_1 10))) % 256)] from rfl) (Reps.none _ _))); intro v624 w5 ho6 hb hg_ hnew_; clear hg_ hnew_; (first | rw [← Ny623.out] at ho6 | (simp only [Int.reduceToNat] at ho6; rw [← Ny623.out] at ho6)); have HO625 := am_ (Kd.R_lower ho6 (below_size (qB HB))); replace HB := bS_ HB hb; clear hb ho6; have hcv7 := own_string (P := Try.prog) Try.underlying70 Try.underlying5 Try.underlying9 (Kd.own_of_R HO625.out)))
   go_roundg k1
   case measure => have := HK1.out; omega
   case rel => exact ⟨(wrap64 (Int.tdiv x0_1 10)), ((strOfNums y623) ++ x3_1), eqq_, eqq_, H', ⟨by have := HK1.out; omega⟩, ⟨qB HB⟩⟩

end Go.Proofs.Ytiffahfpfgnjnab.PFnExactSend
