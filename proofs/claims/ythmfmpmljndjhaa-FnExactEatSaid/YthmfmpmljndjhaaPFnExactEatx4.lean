-- Written by a program of this session (myprint.py, over the kit's print): contracts of FnExactEat
import Derived.Test.YthmfmpmljndjhaaPFnExactEatx0
import Derived.Test.YthmfmpmljndjhaaPFnExactEatx3
namespace Go.Proofs.Ythmfmpmljndjhaa.PFnExactEat
open Go.RowKit Go.Proofs.YthmfmpmljndjhaaW.PrintWords Go.Proofs.YthmfmpmljndjhaaW.PrintLast Go.Proofs.YthmfmpmljndjhaaW.PrintMore Go.Proofs.YthmfmpmljndjhaaV
attribute [local go_sem] max2_int min2_int max_two min_two max_three min_three max_four min_four   -- for this text's walks alone
set_option linter.unusedVariables false
set_option linter.unusedSimpArgs false

/-! ### spec_FrameOk: function 124 -/
def spec_FrameOk.j0 : Nat → Int → Bool → Int → ByteArray → Int → Option (Bool)
 | 0, _, _, _, _, _ => none
 | k + 1, x4, x15, x151000, x151001, x151002 => if x15 = true then ((spec_TextOk.f k x151001).bind fun t152 => (if t152 = true then (some (x151002 == 0)) else (some false))) else (if x4 = 5 then (if x151001.toList = ([] : List UInt8) then ((spec_l1In.f x151002 0 2).bind fun t153 => (some t153)) else (some false)) else (if x151000 = 3 then (if x151001.toList = ([] : List UInt8) then (some (x151002 == 0)) else (some false)) else (some false)))
def spec_FrameOk.f (k : Nat) (a0_0 : Int) (a0_1 : ByteArray) (a0_2 : Int) : Option (Bool) := if a0_0 = 1 then ((spec_l1Name.f k a0_1).bind fun t151 => (if t151 = true then (some (a0_2 == 0)) else (some false))) else (if a0_0 = 2 then (spec_FrameOk.j0 k a0_0 (a0_0 == 2) a0_0 a0_1 a0_2) else (if a0_0 = 4 then (spec_FrameOk.j0 k a0_0 (a0_0 == 4) a0_0 a0_1 a0_2) else (spec_FrameOk.j0 k a0_0 (a0_0 == 6) a0_0 a0_1 a0_2)))
theorem spec_FrameOk.mono_l : ∀ k, (∀ y0 y1 y2 y3 y4, LeO (spec_FrameOk.j0 k y0 y1 y2 y3 y4) (spec_FrameOk.j0 (k + 1) y0 y1 y2 y3 y4))
 | 0 => fun _ _ _ _ _ r h => by simp [spec_FrameOk.j0] at h
 | k + 1 => by
  have ih0 := spec_FrameOk.mono_l k
  ·
   intro y0 y1 y2 y3 y4
   unfold spec_FrameOk.j0
   repeat' first
   | (with_reducible exact ih0 _ _ _ _ _)
   | (with_reducible exact spec_TextOk.mono _ _)
   | (with_reducible exact spec_l1Name.mono _ _)
   | (with_reducible exact LeO.refl _)
   | (with_reducible exact LeO.none _)
   | (with_reducible refine LeO.ite ?_ ?_)
   | (with_reducible refine LeO.bind ?_ (fun _ => ?_))
   | exact ih0 _ _ _ _ _
   | exact spec_TextOk.mono _ _
   | exact spec_l1Name.mono _ _
   | exact LeO.none _
   | refine LeO.ite ?_ ?_
   | refine LeO.bind ?_ (fun _ => ?_)
theorem spec_FrameOk.mono : ∀ a0 a1 a2 k, LeO (spec_FrameOk.f k a0 a1 a2) (spec_FrameOk.f (k + 1) a0 a1 a2) := by
 intro a0 a1 a2 k
 have ih0 := spec_FrameOk.mono_l k
 unfold spec_FrameOk.f
 repeat' first
   | (with_reducible exact ih0 _ _ _ _ _)
   | (with_reducible exact spec_TextOk.mono _ _)
   | (with_reducible exact spec_l1Name.mono _ _)
   | (with_reducible exact LeO.refl _)
   | (with_reducible exact LeO.none _)
   | (with_reducible refine LeO.ite ?_ ?_)
   | (with_reducible refine LeO.bind ?_ (fun _ => ?_))
   | exact ih0 _ _ _ _ _
   | exact spec_TextOk.mono _ _
   | exact spec_l1Name.mono _ _
   | exact LeO.none _
   | refine LeO.ite ?_ ?_
   | refine LeO.bind ?_ (fun _ => ?_)
set_option maxHeartbeats 8000000 in
set_option maxRecDepth 100000 in
theorem spec_FrameOk.calls (k : Nat) (a0_0 : Int) (a0_1 : ByteArray) (a0_2 : Int) (r : Bool) (w : World) (h : spec_FrameOk.f k a0_0 a0_1 a0_2 = some r) :
  Calls Try.prog 124 #[.agg #[.int .i64 a0_0, .string a0_1, .int .i64 a0_2]] w fun e w' => e = .returned (.bool r) ∧ Below w.heap.size w w' := by
 have hu91 := Try.underlying91
 have HB := Aside0.mk (Below.refl w.heap.size w)
 have H : (if a0_0 = 1 then ((spec_l1Name.f k a0_1).bind fun t151 => (if t151 = true then (some (a0_2 == 0)) else (some false))) else (if a0_0 = 2 then (spec_FrameOk.j0 k a0_0 (a0_0 == 2) a0_0 a0_1 a0_2) else (if a0_0 = 4 then (spec_FrameOk.j0 k a0_0 (a0_0 == 4) a0_0 a0_1 a0_2) else (spec_FrameOk.j0 k a0_0 (a0_0 == 6) a0_0 a0_1 a0_2)))) = some r := h
 clear h
 have HC2 := Aside0.mk H
 clear H
 go_enter Try.func124, Try.ntmps124
 go_upto_if 5 with (first | ((with_reducible refine gate_dst (N := 1) rfl ?_); refine box_event ?hg (N := 1) ?hd (cs := #[.int .i64 a0_0, .string a0_1, .int .i64 a0_2]) (t := 91) ?hr ?_; (case hd => rfl); (case hg => rfl); (case hr => first | (go_simp; done) | (go_simp; rfl)); intro gb150 hg w3 hbox hb; have BK150 := am_ (hbox); have GW150 := am_ ((gG_ hg (qB HB))); have IGW150 := gI_ GW150; have GE150 := am_ ((gG_ hg (qB HB))); have IGE150 := gI_ GE150; replace HB := am_ (below_step (qB HB) hb); clear hb hbox hg; obtain ⟨z4_0, z4_1, z4_2⟩ := cz3 BK150.out; obtain ⟨f4_0, f4_1, f4_2⟩ := fz3 BK150.out))
 (try simp only [Act.put, List.setIfInBounds_toArray, List.set_cons_zero, List.set_cons_succ])
 have H := HC2.out
 clear HC2
 by_cases c5 : a0_0 = 1
 ·
  rw [if_pos c5] at H
  have c5b0 : (a0_0 == 1) = true := beq_iff_eq.mpr c5
  have c5b1 : (a0_0 != 1) = false := bne_eq_false_iff_eq.mpr c5
  clear c5
  (first | rw [c5b0] | rw [c5b1] | (simp only [i64_w, i32_w]; rw [c5b0]) | skip)
  obtain ⟨t151, A6, H⟩ := bd_ H
  by_cases c7 : t151 = true
  ·
   subst c7
   rw [if_pos rfl] at H
   obtain rfl := Option.some.inj H
   obtain ⟨z8_0, z8_1, z8_2⟩ := cz3 BK150.out
   obtain ⟨f8_0, f8_1, f8_2⟩ := fz3 BK150.out
   go_wp2_with (first | ((with_reducible refine gate_callee (f := 126) rfl ?_); refine goesL_ (some 9) rfl rfl Try.func126 (by kernel_rfl) rfl #[.string a0_1] rfl la_ ?_; (with_reducible refine (spec_l1Name.calls k a0_1 true _ A6.out).mono ?_); rintro e w' ⟨rfl, ⟨nd, rfl⟩⟩; refine ⟨_, rfl, ?_⟩))
   go_ret
   exact ⟨by first | rfl | (simp [errW_none, errW_some] <;> rfl) | (simp [*, errW_none, errW_some] <;> rfl), qB HB⟩
  ·
   replace c7 := Bool.eq_false_iff.mpr c7
   subst c7
   rw [if_neg (show ¬ (false = true) by decide)] at H
   obtain rfl := Option.some.inj H
   obtain ⟨z9_0, z9_1, z9_2⟩ := cz3 BK150.out
   obtain ⟨f9_0, f9_1, f9_2⟩ := fz3 BK150.out
   go_wp2_with (first | ((with_reducible refine gate_callee (f := 126) rfl ?_); refine goesL_ (some 9) rfl rfl Try.func126 (by kernel_rfl) rfl #[.string a0_1] rfl la_ ?_; (with_reducible refine (spec_l1Name.calls k a0_1 false _ A6.out).mono ?_); rintro e w' ⟨rfl, ⟨nd, rfl⟩⟩; refine ⟨_, rfl, ?_⟩))
   go_ret
   exact ⟨by first | rfl | (simp [errW_none, errW_some] <;> rfl) | (simp [*, errW_none, errW_some] <;> rfl), qB HB⟩
 ·
  rw [if_neg c5] at H
  have c5b0 : (a0_0 == 1) = false := beq_eq_false_iff_ne.mpr c5
  have c5b1 : (a0_0 != 1) = true := bne_iff_ne.mpr c5
  (first | rw [c5b0] | rw [c5b1] | (simp only [i64_w, i32_w]; rw [c5b0]) | skip)
  have HC10 := Aside0.mk H
  clear H
  go_upto_if 15 with (fail)
  go_cut [15] (fun v15 wc => ∃ (kq : Nat) (x15_9 : Bool), v15 = .bool x15_9 ∧ Aside0 (spec_FrameOk.j0 kq a0_0 x15_9 a0_0 a0_1 a0_2 = some r) ∧ Aside0 (kq ≤ k) ∧ Aside0 (wc.heap[gb150]? = some (.cells #[.int .i64 a0_0, .string a0_1, .int .i64 a0_2] 91 (0, 0))) ∧ Aside0 (Below w.heap.size w wc))
  case first =>
   have H := HC10.out
   clear HC10
   by_cases c11 : a0_0 = 2
   ·
    rw [if_pos c11] at H
    have c11b0 : (a0_0 == 2) = true := beq_iff_eq.mpr c11
    have c11b1 : (a0_0 != 2) = false := bne_eq_false_iff_eq.mpr c11
    clear c11
    (first | rw [c11b0] | rw [c11b1] | (simp only [i64_w, i32_w]; rw [c11b0]) | skip)
    have H' := Aside0.mk H
    clear H
    go_wp2
    go_meet
    case rel => exact ⟨_, ((a0_0 == 2)), eqq_, H', ⟨by first | omega | exact Nat.le_refl _⟩, ⟨qK BK150⟩, ⟨qB HB⟩⟩
   ·
    rw [if_neg c11] at H
    have c11b0 : (a0_0 == 2) = false := beq_eq_false_iff_ne.mpr c11
    have c11b1 : (a0_0 != 2) = true := bne_iff_ne.mpr c11
    (first | rw [c11b0] | rw [c11b1] | (simp only [i64_w, i32_w]; rw [c11b0]) | skip)
    by_cases c12 : a0_0 = 4
    ·
     rw [if_pos c12] at H
     have c12b0 : (a0_0 == 4) = true := beq_iff_eq.mpr c12
     have c12b1 : (a0_0 != 4) = false := bne_eq_false_iff_eq.mpr c12
     clear c12
     have H' := Aside0.mk H
     clear H
     go_wp2
     go_meet
     case rel => exact ⟨_, ((a0_0 == 4)), eqq_, H', ⟨by first | omega | exact Nat.le_refl _⟩, ⟨qK BK150⟩, ⟨qB HB⟩⟩
    ·
     rw [if_neg c12] at H
     have c12b0 : (a0_0 == 4) = false := beq_eq_false_iff_ne.mpr c12
     have c12b1 : (a0_0 != 4) = true := bne_iff_ne.mpr c12
     have H' := Aside0.mk H
     clear H
     go_wp2
     go_meet
     case rel => exact ⟨_, ((a0_0 == 6)), eqq_, H', ⟨by first | omega | exact Nat.le_refl _⟩, ⟨qK BK150⟩, ⟨qB HB⟩⟩
  case rest =>
   clear HC10
   try clear c1
   try clear p2
   try clear c5
   try clear c5b0
   try clear c5b1
   try clear c7
   try clear c11
   try clear c11b0
   try clear c11b1
   try clear c12
   try clear c12b0
   try clear c12b1
   (try clear z4_0 z4_1 z4_2)
   (try clear z8_0 z8_1 z8_2)
   (try clear z9_0 z9_1 z9_2)
   (try clear f4_0 f4_1 f4_2)
   (try clear f8_0 f8_1 f8_2)
   (try clear f9_0 f9_1 f9_2)
   obtain ⟨kq, x15_9, rfl, HA, HJ9, BK150, HB⟩ := hcut
   cases kq with
   | zero => exact absurd HA.out (by simp [spec_FrameOk.j0])
   | succ kj9 =>
    have H := HA.out
    clear HA
    simp only [spec_FrameOk.j0] at H
    by_cases c13 : x15_9 = true
    ·
     subst c13
     rw [if_pos rfl] at H
     obtain ⟨t152, A14, H⟩ := bd_ H
     by_cases c15 : t152 = true
     ·
      subst c15
      rw [if_pos rfl] at H
      obtain rfl := Option.some.inj H
      obtain ⟨z16_0, z16_1, z16_2⟩ := cz3 BK150.out
      obtain ⟨f16_0, f16_1, f16_2⟩ := fz3 BK150.out
      go_wp2_with (first | ((with_reducible refine gate_callee (f := 100) rfl ?_); refine goesL_ (some 21) rfl rfl Try.func100 (by kernel_rfl) rfl #[.string a0_1] rfl la_ ?_; (with_reducible refine (spec_TextOk.calls kj9 a0_1 true _ A14.out).mono ?_); rintro e w' ⟨rfl, ⟨nd, rfl⟩⟩; refine ⟨_, rfl, ?_⟩))
      go_ret
      exact ⟨by first | rfl | (simp [errW_none, errW_some] <;> rfl) | (simp [*, errW_none, errW_some] <;> rfl), qB HB⟩
     ·
      replace c15 := Bool.eq_false_iff.mpr c15
      subst c15
      rw [if_neg (show ¬ (false = true) by decide)] at H
      obtain rfl := Option.some.inj H
      obtain ⟨z17_0, z17_1, z17_2⟩ := cz3 BK150.out
      obtain ⟨f17_0, f17_1, f17_2⟩ := fz3 BK150.out
      go_wp2_with (first | ((with_reducible refine gate_callee (f := 100) rfl ?_); refine goesL_ (some 21) rfl rfl Try.func100 (by kernel_rfl) rfl #[.string a0_1] rfl la_ ?_; (with_reducible refine (spec_TextOk.calls kj9 a0_1 false _ A14.out).mono ?_); rintro e w' ⟨rfl, ⟨nd, rfl⟩⟩; refine ⟨_, rfl, ?_⟩))
      go_ret
      exact ⟨by first | rfl | (simp [errW_none, errW_some] <;> rfl) | (simp [*, errW_none, errW_some] <;> rfl), qB HB⟩
    ·
     replace c13 := Bool.eq_false_iff.mpr c13
     subst c13
     rw [if_neg (show ¬ (false = true) by decide)] at H
     by_cases c18 : a0_0 = 5
     ·
      rw [if_pos c18] at H
      have c18b0 : (a0_0 == 5) = true := beq_iff_eq.mpr c18
      have c18b1 : (a0_0 != 5) = false := bne_eq_false_iff_eq.mpr c18
      clear c18
      by_cases c19 : a0_1.toList = ([] : List UInt8)
      ·
       rw [if_pos c19] at H
       have c19b0 : (a0_1.toList == ([] : List UInt8)) = true := beq_iff_eq.mpr c19
       (try (have c19b0e := c19b0; simp only [Go.Proofs.YthmfmpmljndjhaaV.beq_nil, Go.Proofs.YthmfmpmljndjhaaV.bne_nil] at c19b0e))
       have c19b1 : (a0_1.toList != ([] : List UInt8)) = false := bne_eq_false_iff_eq.mpr c19
       clear c19
       obtain ⟨t153, A20, H⟩ := bd_ H
       obtain rfl := Option.some.inj H
       obtain ⟨z21_0, z21_1, z21_2⟩ := cz3 BK150.out
       obtain ⟨f21_0, f21_1, f21_2⟩ := fz3 BK150.out
       go_wp2_with (first | (go_at_call 91; (with_reducible refine (spec_l1In.calls a0_2 0 2 t153 _ A20.out).mono ?_); rintro e w' ⟨rfl, ⟨nd, rfl⟩⟩))
       go_ret
       exact ⟨by first | rfl | (simp [errW_none, errW_some] <;> rfl) | (simp [*, errW_none, errW_some] <;> rfl), qB HB⟩
      ·
       rw [if_neg c19] at H
       have c19b0 : (a0_1.toList == ([] : List UInt8)) = false := beq_eq_false_iff_ne.mpr c19
       (try (have c19b0e := c19b0; simp only [Go.Proofs.YthmfmpmljndjhaaV.beq_nil, Go.Proofs.YthmfmpmljndjhaaV.bne_nil] at c19b0e))
       have c19b1 : (a0_1.toList != ([] : List UInt8)) = true := bne_iff_ne.mpr c19
       obtain rfl := Option.some.inj H
       obtain ⟨z22_0, z22_1, z22_2⟩ := cz3 BK150.out
       obtain ⟨f22_0, f22_1, f22_2⟩ := fz3 BK150.out
       go_wp2
       go_ret
       exact ⟨by first | rfl | (simp [errW_none, errW_some] <;> rfl) | (simp [*, errW_none, errW_some] <;> rfl), qB HB⟩
     ·
      rw [if_neg c18] at H
      have c18b0 : (a0_0 == 5) = false := beq_eq_false_iff_ne.mpr c18
      have c18b1 : (a0_0 != 5) = true := bne_iff_ne.mpr c18
      by_cases c23 : a0_0 = 3
      ·
       rw [if_pos c23] at H
       have c23b0 : (a0_0 == 3) = true := beq_iff_eq.mpr c23
       have c23b1 : (a0_0 != 3) = false := bne_eq_false_iff_eq.mpr c23
       clear c23
       by_cases c24 : a0_1.toList = ([] : List UInt8)
       ·
        rw [if_pos c24] at H
        have c24b0 : (a0_1.toList == ([] : List UInt8)) = true := beq_iff_eq.mpr c24
        (try (have c24b0e := c24b0; simp only [Go.Proofs.YthmfmpmljndjhaaV.beq_nil, Go.Proofs.YthmfmpmljndjhaaV.bne_nil] at c24b0e))
        have c24b1 : (a0_1.toList != ([] : List UInt8)) = false := bne_eq_false_iff_eq.mpr c24
        clear c24
        obtain rfl := Option.some.inj H
        obtain ⟨z25_0, z25_1, z25_2⟩ := cz3 BK150.out
        obtain ⟨f25_0, f25_1, f25_2⟩ := fz3 BK150.out
        go_wp2
        go_ret
        exact ⟨by first | rfl | (simp [errW_none, errW_some] <;> rfl) | (simp [*, errW_none, errW_some] <;> rfl), qB HB⟩
       ·
        rw [if_neg c24] at H
        have c24b0 : (a0_1.toList == ([] : List UInt8)) = false := beq_eq_false_iff_ne.mpr c24
        (try (have c24b0e := c24b0; simp only [Go.Proofs.YthmfmpmljndjhaaV.beq_nil, Go.Proofs.YthmfmpmljndjhaaV.bne_nil] at c24b0e))
        have c24b1 : (a0_1.toList != ([] : List UInt8)) = true := bne_iff_ne.mpr c24
        obtain rfl := Option.some.inj H
        obtain ⟨z26_0, z26_1, z26_2⟩ := cz3 BK150.out
        obtain ⟨f26_0, f26_1, f26_2⟩ := fz3 BK150.out
        go_wp2
        go_ret
        exact ⟨by first | rfl | (simp [errW_none, errW_some] <;> rfl) | (simp [*, errW_none, errW_some] <;> rfl), qB HB⟩
      ·
       rw [if_neg c23] at H
       have c23b0 : (a0_0 == 3) = false := beq_eq_false_iff_ne.mpr c23
       have c23b1 : (a0_0 != 3) = true := bne_iff_ne.mpr c23
       obtain rfl := Option.some.inj H
       obtain ⟨z27_0, z27_1, z27_2⟩ := cz3 BK150.out
       obtain ⟨f27_0, f27_1, f27_2⟩ := fz3 BK150.out
       go_wp2
       go_ret
       exact ⟨by first | rfl | (simp [errW_none, errW_some] <;> rfl) | (simp [*, errW_none, errW_some] <;> rfl), qB HB⟩

/-! ### spec_GetFrame: function 116 -/
def spec_GetFrame.f (k : Nat) (l0 : List Int) : Option (Int × ByteArray × Int × Int × Int) := if (l0.length : Int) = 0 then (some (0, (⟨#[]⟩ : ByteArray), 0, 0, 1)) else (if 0 < (l0.length : Int) then ((spec_l1In.f (wrap64 (rd l0 0)) 1 6).bind fun t157 => (if t157 = true then (if (wrap64 (rd l0 0)) = 3 then ((spec_FrameOk.f k (wrap64 (rd l0 0)) (⟨#[]⟩ : ByteArray) 0).bind fun t158 => (if t158 = true then (some (wrap64 (rd l0 0), (⟨#[]⟩ : ByteArray), 0, 1, 0)) else (some (0, (⟨#[]⟩ : ByteArray), 0, 0, 2)))) else (if (l0.length : Int) = 1 then (some (0, (⟨#[]⟩ : ByteArray), 0, 0, 1)) else (if (wrap64 (rd l0 0)) = 5 then (if 1 < (l0.length : Int) then ((spec_FrameOk.f k (wrap64 (rd l0 0)) (⟨#[]⟩ : ByteArray) (wrap64 (rd l0 1))).bind fun t160 => (if t160 = true then (some (wrap64 (rd l0 0), (⟨#[]⟩ : ByteArray), wrap64 (rd l0 1), 2, 0)) else (some (0, (⟨#[]⟩ : ByteArray), 0, 0, 2)))) else (none)) else (if 1 < (l0.length : Int) then (if (wrap64 (rd l0 1)) > 100 then (some (0, (⟨#[]⟩ : ByteArray), 0, 0, 2)) else (if (wrap64 (rd l0 1)) > (wrap64 ((l0.length : Int) - 2)) then (some (0, (⟨#[]⟩ : ByteArray), 0, 0, 1)) else (if 2 ≤ (wrap64 (2 + (wrap64 (rd l0 1)))) then (if (wrap64 (2 + (wrap64 (rd l0 1)))) ≤ (l0.length : Int) then ((spec_FrameOk.f k (wrap64 (rd l0 0)) (strOfNums ((l0.take ((wrap64 (2 + (wrap64 (rd l0 1)))) : Int).toNat).drop 2)) 0).bind fun t163 => (if t163 = true then (some (wrap64 (rd l0 0), strOfNums ((l0.take ((wrap64 (2 + (wrap64 (rd l0 1)))) : Int).toNat).drop 2), 0, wrap64 (2 + (wrap64 (rd l0 1))), 0)) else (some (0, (⟨#[]⟩ : ByteArray), 0, 0, 2)))) else (none)) else (none)))) else (none))))) else (some (0, (⟨#[]⟩ : ByteArray), 0, 0, 2)))) else (none))
theorem spec_GetFrame.mono : ∀ a0 k, LeO (spec_GetFrame.f k a0) (spec_GetFrame.f (k + 1) a0) := by
 intro a0 k
 unfold spec_GetFrame.f
 repeat' first
   | (with_reducible exact spec_FrameOk.mono _ _ _ _)
   | (with_reducible exact LeO.refl _)
   | (with_reducible exact LeO.none _)
   | (with_reducible refine LeO.ite ?_ ?_)
   | (with_reducible refine LeO.bind ?_ (fun _ => ?_))
   | exact spec_FrameOk.mono _ _ _ _
   | exact LeO.none _
   | refine LeO.ite ?_ ?_
   | refine LeO.bind ?_ (fun _ => ?_)
set_option maxHeartbeats 8000000 in
set_option maxRecDepth 100000 in
theorem spec_GetFrame.calls (k : Nat) (A0 : Option Addr) (c0 : Nat) (l0 : List Int) (r1 : Int) (r2 : ByteArray) (r3 : Int) (r4 : Int) (r5 : Int) (w : World) (hr0 : Kd.C (Kd.int .u8) w A0 l0.length l0) (hc0 : l0.length ≤ c0) (h : spec_GetFrame.f k l0 = some (r1, r2, r3, r4, r5)) :
  Calls Try.prog 116 #[.slice A0 l0.length c0] w fun e w' => e = .returned (.tuple #[.agg #[.int .i64 r1, .string r2, .int .i64 r3], .int .i64 r4, .int .i64 r5]) ∧ Below w.heap.size w w' := by
 have hu91 := Try.underlying91
 have HR0 := Aside0.mk hr0
 have HC0 := Aside0.mk hc0
 clear hr0 hc0
 have HB := Aside0.mk (Below.refl w.heap.size w)
 have H : (if (l0.length : Int) = 0 then (some (0, (⟨#[]⟩ : ByteArray), 0, 0, 1)) else (if 0 < (l0.length : Int) then ((spec_l1In.f (wrap64 (rd l0 0)) 1 6).bind fun t157 => (if t157 = true then (if (wrap64 (rd l0 0)) = 3 then ((spec_FrameOk.f k (wrap64 (rd l0 0)) (⟨#[]⟩ : ByteArray) 0).bind fun t158 => (if t158 = true then (some (wrap64 (rd l0 0), (⟨#[]⟩ : ByteArray), 0, 1, 0)) else (some (0, (⟨#[]⟩ : ByteArray), 0, 0, 2)))) else (if (l0.length : Int) = 1 then (some (0, (⟨#[]⟩ : ByteArray), 0, 0, 1)) else (if (wrap64 (rd l0 0)) = 5 then (if 1 < (l0.length : Int) then ((spec_FrameOk.f k (wrap64 (rd l0 0)) (⟨#[]⟩ : ByteArray) (wrap64 (rd l0 1))).bind fun t160 => (if t160 = true then (some (wrap64 (rd l0 0), (⟨#[]⟩ : ByteArray), wrap64 (rd l0 1), 2, 0)) else (some (0, (⟨#[]⟩ : ByteArray), 0, 0, 2)))) else (none)) else (if 1 < (l0.length : Int) then (if (wrap64 (rd l0 1)) > 100 then (some (0, (⟨#[]⟩ : ByteArray), 0, 0, 2)) else (if (wrap64 (rd l0 1)) > (wrap64 ((l0.length : Int) - 2)) then (some (0, (⟨#[]⟩ : ByteArray), 0, 0, 1)) else (if 2 ≤ (wrap64 (2 + (wrap64 (rd l0 1)))) then (if (wrap64 (2 + (wrap64 (rd l0 1)))) ≤ (l0.length : Int) then ((spec_FrameOk.f k (wrap64 (rd l0 0)) (strOfNums ((l0.take ((wrap64 (2 + (wrap64 (rd l0 1)))) : Int).toNat).drop 2)) 0).bind fun t163 => (if t163 = true then (some (wrap64 (rd l0 0), strOfNums ((l0.take ((wrap64 (2 + (wrap64 (rd l0 1)))) : Int).toNat).drop 2), 0, wrap64 (2 + (wrap64 (rd l0 1))), 0)) else (some (0, (⟨#[]⟩ : ByteArray), 0, 0, 2)))) else (none)) else (none)))) else (none))))) else (some (0, (⟨#[]⟩ : ByteArray), 0, 0, 2)))) else (none))) = some (r1, r2, r3, r4, r5) := h
 clear h
 have HC2 := Aside0.mk H
 clear H
 go_enter Try.func116, Try.ntmps116
 go_upto_if 10 with (first | ((with_reducible refine gate_dst (N := 2) rfl ?_); refine box_event ?hg (N := 2) ?hd (cs := #[.int .i64 0, .string (⟨#[]⟩ : ByteArray), .int .i64 0]) (t := 91) ?hr ?_; (case hd => rfl); (case hg => rfl); (case hr => first | (go_simp; done) | (go_simp; rfl)); intro gb154 hg w3 hbox hb; have BK154 := am_ (hbox); have GW154 := am_ ((gG_ hg (qB HB))); have IGW154 := gI_ GW154; have GE154 := am_ ((gG_ hg (qB HB))); have IGE154 := gI_ GE154; replace HB := am_ (below_step (qB HB) hb); clear hb hbox hg))
 (try simp only [Act.put, List.setIfInBounds_toArray, List.set_cons_zero, List.set_cons_succ])
 have H := HC2.out
 clear HC2
 by_cases c4 : (l0.length : Int) = 0
 ·
  rw [if_pos c4] at H
  have c4b0 : ((l0.length : Int) == 0) = true := beq_iff_eq.mpr c4
  have c4b1 : ((l0.length : Int) != 0) = false := bne_eq_false_iff_eq.mpr c4
  clear c4
  (first | rw [c4b0] | rw [c4b1] | (simp only [i64_w, i32_w]; rw [c4b0]) | skip)
  simp only [Option.some.injEq, Prod.mk.injEq] at H
  obtain ⟨rfl, rfl, rfl, rfl, rfl⟩ := H
  obtain ⟨z5_0, z5_1, z5_2⟩ := cz3 BK154.out
  obtain ⟨f5_0, f5_1, f5_2⟩ := fz3 BK154.out
  go_wp2
  refine bodyPost_ret (results_ctt rfl _ _ gb154 91 #[.int .i64 0, .string (⟨#[]⟩ : ByteArray), .int .i64 0] (0, 0) _ rfl (by (with_reducible repeat (first | refine blk_drewN ?_ _ | refine blk_drew ?_ | refine blk_alloc ?_ _)); refine blk_put (cs := #[.int .i64 0, .string (⟨#[]⟩ : ByteArray), .int .i64 0]) ?_ 2 _ rfl; (with_reducible repeat (first | refine blk_drewN ?_ _ | refine blk_drew ?_ | refine blk_alloc ?_ _)); refine blk_put (cs := #[.int .i64 0, .string (⟨#[]⟩ : ByteArray), .int .i64 0]) ?_ 1 _ rfl; (with_reducible repeat (first | refine blk_drewN ?_ _ | refine blk_drew ?_ | refine blk_alloc ?_ _)); refine blk_put (cs := #[.int .i64 0, .string (⟨#[]⟩ : ByteArray), .int .i64 0]) ?_ 0 _ rfl; (with_reducible repeat (first | refine blk_drewN ?_ _ | refine blk_drew ?_ | refine blk_alloc ?_ _)); exact BK154.out) Try.underlying91 rfl (by kernel_rfl)) rfl ?_
  exact ⟨by first | rfl | (simp [errW_none, errW_some] <;> rfl) | (simp [*, errW_none, errW_some] <;> rfl), qB HB⟩
 ·
  rw [if_neg c4] at H
  have c4b0 : ((l0.length : Int) == 0) = false := beq_eq_false_iff_ne.mpr c4
  have c4b1 : ((l0.length : Int) != 0) = true := bne_iff_ne.mpr c4
  have c4b2 : ¬ (l0 = []) := fun h_ => c4 (by rw [h_]; rfl)
  (first | rw [c4b0] | rw [c4b1] | rw [c4b2] | (simp only [i64_w, i32_w]; rw [c4b0]) | skip)
  by_cases c6 : 0 < (l0.length : Int)
  ·
   rw [if_pos c6] at H
   have c6b0 : decide (0 < (l0.length : Int)) = true := decide_eq_true c6
   have c6b1 : decide (0 < l0.length) = true := decide_eq_true (by omega)
   clear c6
   obtain ⟨t157, A7, H⟩ := bd_ H
   have HC8 := Aside0.mk H
   clear H
   have p155 : 0 ≤ (0 : Int) := (by omega)
   have q155 : 0 < (l0.length : Int) := od_
   obtain ⟨ad155, e155, hx155_0⟩ := Kd.at_int HR0.out 0 p155 q155
   cases e155
   have qi155 : (0 < l0.length) = True := eq_true (by omega)
   (try rw [show ((0 : Int)).toNat = 0 from rfl] at hx155_0)
   (try rw [Addr.add_zero'] at hx155_0)
   replace hx155_0 := lb_ HB hx155_0
   replace p155 := eq_true p155
   replace q155 := eq_true q155
   go_upto_if 38 with (first | ((with_reducible refine gate_dst (N := 5) rfl ?_); refine box_event ?hg (N := 5) ?hd (cs := #[.int .i64 0, .string (⟨#[]⟩ : ByteArray), .int .i64 0]) (t := 91) ?hr ?_; (case hd => rfl); (case hg => rfl); (case hr => first | (go_simp; done) | (go_simp; rfl)); intro gb156 hg w9 hbox hb; have BK156 := am_ (hbox); have GW156 := am_ ((gG_ hg (qB HB))); have IGW156 := gI_ GW156; have GE156 := am_ ((gG_ hg (qB HB))); have IGE156 := gI_ GE156; replace HB := am_ (below_step (qB HB) hb); have NB154_156 := am_ ((gN_ hg (qK BK154))); have NB156_154 := am_ ((gM_ hg (qK BK154))); replace BK154 := am_ (blk_below (qK BK154) hb); clear hb hbox hg; have hnb10 := NB156_154.out; have hnc10 := NB154_156.out; obtain ⟨z11_0, z11_1, z11_2⟩ := cz3 BK156.out; obtain ⟨f11_0, f11_1, f11_2⟩ := fz3 BK156.out) | ((with_reducible refine gate_callee (f := 91) rfl ?_); refine goesL_ (some 41) rfl rfl Try.func91 (by kernel_rfl) rfl #[.int .i64 (wrap64 (rd l0 0)), .int .i64 1, .int .i64 6] rfl la_ ?_; (with_reducible refine (spec_l1In.calls (wrap64 (rd l0 0)) 1 6 t157 _ A7.out).mono ?_); rintro e w' ⟨rfl, ⟨nd, rfl⟩⟩; refine ⟨_, rfl, ?_⟩))
   (try simp only [Act.put, List.setIfInBounds_toArray, List.set_cons_zero, List.set_cons_succ])
   have n0_ : Aside0 ((((w9.setCell ⟨gb156, 0, none⟩ (.int .i64 (wrap64 (rd l0 0)))).setCell ⟨gb156, 1, none⟩ (.string (⟨#[]⟩ : ByteArray))).setCell ⟨gb156, 2, none⟩ (.int .i64 0)).heap[gb154]? = some (.cells #[.int .i64 0, .string (⟨#[]⟩ : ByteArray), .int .i64 0] 91 (0, 0))) := ⟨by (with_reducible repeat (first | refine blk_drewN ?_ _ | refine blk_drew ?_ | refine blk_alloc ?_ _)); refine Go.Proofs.YthmfmpmljndjhaaV.blk_far3 ?_ NB154_156.out; (with_reducible repeat (first | refine blk_drewN ?_ _ | refine blk_drew ?_ | refine blk_alloc ?_ _)); exact BK154.out⟩
   have n1_ : Aside0 ((((w9.setCell ⟨gb156, 0, none⟩ (.int .i64 (wrap64 (rd l0 0)))).setCell ⟨gb156, 1, none⟩ (.string (⟨#[]⟩ : ByteArray))).setCell ⟨gb156, 2, none⟩ (.int .i64 0)).heap[gb156]? = some (.cells #[.int .i64 (wrap64 (rd l0 0)), .string (⟨#[]⟩ : ByteArray), .int .i64 0] 91 (0, 0))) := ⟨by (with_reducible repeat (first | refine blk_drewN ?_ _ | refine blk_drew ?_ | refine blk_alloc ?_ _)); refine Go.Proofs.YthmfmpmljndjhaaV.blk_all3 (show _ = some (Go.Obj.cells #[.int .i64 0, .string (⟨#[]⟩ : ByteArray), .int .i64 0] _ (0, 0)) from ?_); (with_reducible repeat (first | refine blk_drewN ?_ _ | refine blk_drew ?_ | refine blk_alloc ?_ _)); exact BK156.out⟩
   have n2_ : Aside0 (Below w.heap.size w (((w9.setCell ⟨gb156, 0, none⟩ (.int .i64 (wrap64 (rd l0 0)))).setCell ⟨gb156, 1, none⟩ (.string (⟨#[]⟩ : ByteArray))).setCell ⟨gb156, 2, none⟩ (.int .i64 0))) := ⟨qB HB⟩
   (try clear BK154)
   (try clear BK156)
   (try clear HB)
   generalize (((w9.setCell ⟨gb156, 0, none⟩ (.int .i64 (wrap64 (rd l0 0)))).setCell ⟨gb156, 1, none⟩ (.string (⟨#[]⟩ : ByteArray))).setCell ⟨gb156, 2, none⟩ (.int .i64 0)) = w12 at n0_ n1_ n2_ ⊢
   have BK154 := n0_
   have BK156 := n1_
   have HB := n2_
   clear n0_ n1_ n2_
   (try (rw [drewN_self w12]; generalize hq_ : World.drewN w12 _ = w12; have n0_ : Aside0 (w12.heap[gb154]? = some (.cells #[.int .i64 0, .string (⟨#[]⟩ : ByteArray), .int .i64 0] 91 (0, 0))) := ⟨by rw [← hq_]; exact (qK BK154)⟩; have n1_ : Aside0 (w12.heap[gb156]? = some (.cells #[.int .i64 (wrap64 (rd l0 0)), .string (⟨#[]⟩ : ByteArray), .int .i64 0] 91 (0, 0))) := ⟨by rw [← hq_]; exact (qK BK156)⟩; have n2_ : Aside0 (Below w.heap.size w w12) := ⟨by rw [← hq_]; exact (qB HB)⟩; clear BK154 BK156 HB hq_; have BK154 := n0_; have BK156 := n1_; have HB := n2_; clear n0_ n1_ n2_))
   have H := HC8.out
   clear HC8
   by_cases c13 : t157 = true
   ·
    subst c13
    rw [if_pos rfl] at H
    by_cases c14 : (wrap64 (rd l0 0)) = 3
    ·
     rw [if_pos c14] at H
     have c14b0 : ((wrap64 (rd l0 0)) == 3) = true := beq_iff_eq.mpr c14
     have c14b1 : ((wrap64 (rd l0 0)) != 3) = false := bne_eq_false_iff_eq.mpr c14
     clear c14
     (first | rw [c14b0] | rw [c14b1] | (simp only [i64_w, i32_w]; rw [c14b0]) | skip)
     obtain ⟨t158, A15, H⟩ := bd_ H
     have HC16 := Aside0.mk H
     clear H
     have hnb17 := NB156_154.out
     have hnc17 := NB154_156.out
     obtain ⟨z18_0, z18_1, z18_2⟩ := cz3 BK156.out
     obtain ⟨f18_0, f18_1, f18_2⟩ := fz3 BK156.out
     go_upto_if 64 with (first | ((with_reducible refine gate_callee (f := 124) rfl ?_); refine goesL_ (some 63) rfl rfl Try.func124 (by kernel_rfl) rfl #[.agg #[.int .i64 (wrap64 (rd l0 0)), .string (⟨#[]⟩ : ByteArray), .int .i64 0]] rfl la_ ?_; (with_reducible refine (spec_FrameOk.calls k (wrap64 (rd l0 0)) (⟨#[]⟩ : ByteArray) 0 t158 _ A15.out).mono ?_); rintro e w19 ⟨rfl, hb⟩; refine ⟨_, rfl, ?_⟩; replace BK154 := am_ (blk_below (qK BK154) hb); replace BK156 := am_ (blk_below (qK BK156) hb); replace HB := am_ (below_step (qB HB) hb); (try clear hb); (try clear hb2); (try clear hk); (try clear hi)))
     (try simp only [Act.put, List.setIfInBounds_toArray, List.set_cons_zero, List.set_cons_succ])
     have H := HC16.out
     clear HC16
     by_cases c20 : t158 = true
     ·
      subst c20
      rw [if_pos rfl] at H
      simp only [Option.some.injEq, Prod.mk.injEq] at H
      obtain ⟨rfl, rfl, rfl, rfl, rfl⟩ := H
      have hnb21 := NB156_154.out
      have hnc21 := NB154_156.out
      obtain ⟨z22_0, z22_1, z22_2⟩ := cz3 BK156.out
      obtain ⟨f22_0, f22_1, f22_2⟩ := fz3 BK156.out
      obtain ⟨z23_0, z23_1, z23_2⟩ := cz3 BK154.out
      obtain ⟨f23_0, f23_1, f23_2⟩ := fz3 BK154.out
      go_wp2
      refine bodyPost_ret (results_ctt rfl _ _ gb154 91 #[.int .i64 (wrap64 (rd l0 0)), .string (⟨#[]⟩ : ByteArray), .int .i64 0] (0, 0) _ rfl (by (with_reducible repeat (first | refine blk_drewN ?_ _ | refine blk_drew ?_ | refine blk_alloc ?_ _)); refine blk_put (cs := #[.int .i64 (wrap64 (rd l0 0)), .string (⟨#[]⟩ : ByteArray), .int .i64 0]) ?_ 2 _ rfl; (with_reducible repeat (first | refine blk_drewN ?_ _ | refine blk_drew ?_ | refine blk_alloc ?_ _)); refine blk_put (cs := #[.int .i64 (wrap64 (rd l0 0)), .string (⟨#[]⟩ : ByteArray), .int .i64 0]) ?_ 1 _ rfl; (with_reducible repeat (first | refine blk_drewN ?_ _ | refine blk_drew ?_ | refine blk_alloc ?_ _)); refine blk_put (cs := #[.int .i64 0, .string (⟨#[]⟩ : ByteArray), .int .i64 0]) ?_ 0 _ rfl; (with_reducible repeat (first | refine blk_drewN ?_ _ | refine blk_drew ?_ | refine blk_alloc ?_ _)); exact BK154.out) Try.underlying91 rfl (by kernel_rfl)) rfl ?_
      exact ⟨by first | rfl | (simp [errW_none, errW_some] <;> rfl) | (simp [*, errW_none, errW_some] <;> rfl), qB HB⟩
     ·
      replace c20 := Bool.eq_false_iff.mpr c20
      subst c20
      rw [if_neg (show ¬ (false = true) by decide)] at H
      simp only [Option.some.injEq, Prod.mk.injEq] at H
      obtain ⟨rfl, rfl, rfl, rfl, rfl⟩ := H
      have hnb24 := NB154_156.out
      have hnc24 := NB156_154.out
      obtain ⟨z25_0, z25_1, z25_2⟩ := cz3 BK154.out
      obtain ⟨f25_0, f25_1, f25_2⟩ := fz3 BK154.out
      go_wp2
      refine bodyPost_ret (results_ctt rfl _ _ gb154 91 #[.int .i64 0, .string (⟨#[]⟩ : ByteArray), .int .i64 0] (0, 0) _ rfl (by (with_reducible repeat (first | refine blk_drewN ?_ _ | refine blk_drew ?_ | refine blk_alloc ?_ _)); refine blk_put (cs := #[.int .i64 0, .string (⟨#[]⟩ : ByteArray), .int .i64 0]) ?_ 2 _ rfl; (with_reducible repeat (first | refine blk_drewN ?_ _ | refine blk_drew ?_ | refine blk_alloc ?_ _)); refine blk_put (cs := #[.int .i64 0, .string (⟨#[]⟩ : ByteArray), .int .i64 0]) ?_ 1 _ rfl; (with_reducible repeat (first | refine blk_drewN ?_ _ | refine blk_drew ?_ | refine blk_alloc ?_ _)); refine blk_put (cs := #[.int .i64 0, .string (⟨#[]⟩ : ByteArray), .int .i64 0]) ?_ 0 _ rfl; (with_reducible repeat (first | refine blk_drewN ?_ _ | refine blk_drew ?_ | refine blk_alloc ?_ _)); exact BK154.out) Try.underlying91 rfl (by kernel_rfl)) rfl ?_
      exact ⟨by first | rfl | (simp [errW_none, errW_some] <;> rfl) | (simp [*, errW_none, errW_some] <;> rfl), qB HB⟩
    ·
     rw [if_neg c14] at H
     have c14b0 : ((wrap64 (rd l0 0)) == 3) = false := beq_eq_false_iff_ne.mpr c14
     have c14b1 : ((wrap64 (rd l0 0)) != 3) = true := bne_iff_ne.mpr c14
     (first | rw [c14b0] | rw [c14b1] | (simp only [i64_w, i32_w]; rw [c14b0]) | skip)
     by_cases c26 : (l0.length : Int) = 1
     ·
      rw [if_pos c26] at H
      have c26b0 : ((l0.length : Int) == 1) = true := beq_iff_eq.mpr c26
      have c26b1 : ((l0.length : Int) != 1) = false := bne_eq_false_iff_eq.mpr c26
      clear c26
      simp only [Option.some.injEq, Prod.mk.injEq] at H
      obtain ⟨rfl, rfl, rfl, rfl, rfl⟩ := H
      have hnb27 := NB156_154.out
      have hnc27 := NB154_156.out
      obtain ⟨z28_0, z28_1, z28_2⟩ := cz3 BK156.out
      obtain ⟨f28_0, f28_1, f28_2⟩ := fz3 BK156.out
      obtain ⟨z29_0, z29_1, z29_2⟩ := cz3 BK154.out
      obtain ⟨f29_0, f29_1, f29_2⟩ := fz3 BK154.out
      go_wp2
      refine bodyPost_ret (results_ctt rfl _ _ gb154 91 #[.int .i64 0, .string (⟨#[]⟩ : ByteArray), .int .i64 0] (0, 0) _ rfl (by (with_reducible repeat (first | refine blk_drewN ?_ _ | refine blk_drew ?_ | refine blk_alloc ?_ _)); refine blk_put (cs := #[.int .i64 0, .string (⟨#[]⟩ : ByteArray), .int .i64 0]) ?_ 2 _ rfl; (with_reducible repeat (first | refine blk_drewN ?_ _ | refine blk_drew ?_ | refine blk_alloc ?_ _)); refine blk_put (cs := #[.int .i64 0, .string (⟨#[]⟩ : ByteArray), .int .i64 0]) ?_ 1 _ rfl; (with_reducible repeat (first | refine blk_drewN ?_ _ | refine blk_drew ?_ | refine blk_alloc ?_ _)); refine blk_put (cs := #[.int .i64 0, .string (⟨#[]⟩ : ByteArray), .int .i64 0]) ?_ 0 _ rfl; (with_reducible repeat (first | refine blk_drewN ?_ _ | refine blk_drew ?_ | refine blk_alloc ?_ _)); exact BK154.out) Try.underlying91 rfl (by kernel_rfl)) rfl ?_
      exact ⟨by first | rfl | (simp [errW_none, errW_some] <;> rfl) | (simp [*, errW_none, errW_some] <;> rfl), qB HB⟩
     ·
      rw [if_neg c26] at H
      have c26b0 : ((l0.length : Int) == 1) = false := beq_eq_false_iff_ne.mpr c26
      have c26b1 : ((l0.length : Int) != 1) = true := bne_iff_ne.mpr c26
      by_cases c30 : (wrap64 (rd l0 0)) = 5
      ·
       rw [if_pos c30] at H
       have c30b0 : ((wrap64 (rd l0 0)) == 5) = true := beq_iff_eq.mpr c30
       have c30b1 : ((wrap64 (rd l0 0)) != 5) = false := bne_eq_false_iff_eq.mpr c30
       clear c30
       by_cases c31 : 1 < (l0.length : Int)
       ·
        rw [if_pos c31] at H
        have c31b0 : decide (1 < (l0.length : Int)) = true := decide_eq_true c31
        have c31b1 : decide (1 < l0.length) = true := decide_eq_true (by omega)
        clear c31
        obtain ⟨t160, A32, H⟩ := bd_ H
        have HC33 := Aside0.mk H
        clear H
        have hnb34 := NB156_154.out
        have hnc34 := NB154_156.out
        obtain ⟨z35_0, z35_1, z35_2⟩ := cz3 BK156.out
        obtain ⟨f35_0, f35_1, f35_2⟩ := fz3 BK156.out
        have p159 : 0 ≤ (1 : Int) := (by omega)
        have q159 : 1 < (l0.length : Int) := od_
        obtain ⟨ad159, e159, hx159_0⟩ := Kd.at_int HR0.out 1 p159 q159
        obtain rfl : ad155 = ad159 := (by injection e159)
        (try simp only [show (1 : Int).toNat = 1 from rfl, Nat.reduceMul, Nat.reduceEqDiff, Go.Addr.add, ↓reduceIte] at hx159_0)
        have qi159 : (1 < l0.length) = True := eq_true (by omega)
        (try rw [show ((1 : Int)).toNat = 1 from rfl] at hx159_0)
        replace hx159_0 := lb_ HB hx159_0
        replace p159 := eq_true p159
        replace q159 := eq_true q159
        go_upto_if 64 with (first | ((with_reducible refine gate_callee (f := 124) rfl ?_); refine goesL_ (some 63) rfl rfl Try.func124 (by kernel_rfl) rfl #[.agg #[.int .i64 (wrap64 (rd l0 0)), .string (⟨#[]⟩ : ByteArray), .int .i64 (wrap64 (rd l0 1))]] rfl la_ ?_; (with_reducible refine (spec_FrameOk.calls k (wrap64 (rd l0 0)) (⟨#[]⟩ : ByteArray) (wrap64 (rd l0 1)) t160 _ A32.out).mono ?_); rintro e w36 ⟨rfl, hb⟩; refine ⟨_, rfl, ?_⟩; replace BK154 := am_ (blk_below (g := gb154) (o := .cells #[.int .i64 0, .string (⟨#[]⟩ : ByteArray), .int .i64 0] 91 (0, 0)) (by (with_reducible repeat (first | refine blk_drewN ?_ _ | refine blk_drew ?_ | refine blk_alloc ?_ _)); refine blk_far ?_ NB154_156.out _; (with_reducible repeat (first | refine blk_drewN ?_ _ | refine blk_drew ?_ | refine blk_alloc ?_ _)); exact BK154.out) hb); replace BK156 := am_ (blk_below (g := gb156) (o := .cells #[.int .i64 (wrap64 (rd l0 0)), .string (⟨#[]⟩ : ByteArray), .int .i64 (wrap64 (rd l0 1))] 91 (0, 0)) (by (with_reducible repeat (first | refine blk_drewN ?_ _ | refine blk_drew ?_ | refine blk_alloc ?_ _)); refine blk_put (cs := #[.int .i64 (wrap64 (rd l0 0)), .string (⟨#[]⟩ : ByteArray), .int .i64 0]) ?_ 2 _ rfl; (with_reducible repeat (first | refine blk_drewN ?_ _ | refine blk_drew ?_ | refine blk_alloc ?_ _)); exact BK156.out) hb); replace HB := am_ (below_step (qB HB) hb); (try clear hb); (try clear hb2); (try clear hk); (try clear hi)))
        (try simp only [Act.put, List.setIfInBounds_toArray, List.set_cons_zero, List.set_cons_succ])
        have H := HC33.out
        clear HC33
        by_cases c37 : t160 = true
        ·
         subst c37
         rw [if_pos rfl] at H
         simp only [Option.some.injEq, Prod.mk.injEq] at H
         obtain ⟨rfl, rfl, rfl, rfl, rfl⟩ := H
         have hnb38 := NB156_154.out
         have hnc38 := NB154_156.out
         obtain ⟨z39_0, z39_1, z39_2⟩ := cz3 BK156.out
         obtain ⟨f39_0, f39_1, f39_2⟩ := fz3 BK156.out
         obtain ⟨z40_0, z40_1, z40_2⟩ := cz3 BK154.out
         obtain ⟨f40_0, f40_1, f40_2⟩ := fz3 BK154.out
         go_wp2
         refine bodyPost_ret (results_ctt rfl _ _ gb154 91 #[.int .i64 (wrap64 (rd l0 0)), .string (⟨#[]⟩ : ByteArray), .int .i64 (wrap64 (rd l0 1))] (0, 0) _ rfl (by (with_reducible repeat (first | refine blk_drewN ?_ _ | refine blk_drew ?_ | refine blk_alloc ?_ _)); refine blk_put (cs := #[.int .i64 (wrap64 (rd l0 0)), .string (⟨#[]⟩ : ByteArray), .int .i64 0]) ?_ 2 _ rfl; (with_reducible repeat (first | refine blk_drewN ?_ _ | refine blk_drew ?_ | refine blk_alloc ?_ _)); refine blk_put (cs := #[.int .i64 (wrap64 (rd l0 0)), .string (⟨#[]⟩ : ByteArray), .int .i64 0]) ?_ 1 _ rfl; (with_reducible repeat (first | refine blk_drewN ?_ _ | refine blk_drew ?_ | refine blk_alloc ?_ _)); refine blk_put (cs := #[.int .i64 0, .string (⟨#[]⟩ : ByteArray), .int .i64 0]) ?_ 0 _ rfl; (with_reducible repeat (first | refine blk_drewN ?_ _ | refine blk_drew ?_ | refine blk_alloc ?_ _)); exact BK154.out) Try.underlying91 rfl (by kernel_rfl)) rfl ?_
         exact ⟨by first | rfl | (simp [errW_none, errW_some] <;> rfl) | (simp [*, errW_none, errW_some] <;> rfl), qB HB⟩
        ·
         replace c37 := Bool.eq_false_iff.mpr c37
         subst c37
         rw [if_neg (show ¬ (false = true) by decide)] at H
         simp only [Option.some.injEq, Prod.mk.injEq] at H
         obtain ⟨rfl, rfl, rfl, rfl, rfl⟩ := H
         have hnb41 := NB154_156.out
         have hnc41 := NB156_154.out
         obtain ⟨z42_0, z42_1, z42_2⟩ := cz3 BK154.out
         obtain ⟨f42_0, f42_1, f42_2⟩ := fz3 BK154.out
         go_wp2
         refine bodyPost_ret (results_ctt rfl _ _ gb154 91 #[.int .i64 0, .string (⟨#[]⟩ : ByteArray), .int .i64 0] (0, 0) _ rfl (by (with_reducible repeat (first | refine blk_drewN ?_ _ | refine blk_drew ?_ | refine blk_alloc ?_ _)); refine blk_put (cs := #[.int .i64 0, .string (⟨#[]⟩ : ByteArray), .int .i64 0]) ?_ 2 _ rfl; (with_reducible repeat (first | refine blk_drewN ?_ _ | refine blk_drew ?_ | refine blk_alloc ?_ _)); refine blk_put (cs := #[.int .i64 0, .string (⟨#[]⟩ : ByteArray), .int .i64 0]) ?_ 1 _ rfl; (with_reducible repeat (first | refine blk_drewN ?_ _ | refine blk_drew ?_ | refine blk_alloc ?_ _)); refine blk_put (cs := #[.int .i64 0, .string (⟨#[]⟩ : ByteArray), .int .i64 0]) ?_ 0 _ rfl; (with_reducible repeat (first | refine blk_drewN ?_ _ | refine blk_drew ?_ | refine blk_alloc ?_ _)); exact BK154.out) Try.underlying91 rfl (by kernel_rfl)) rfl ?_
         exact ⟨by first | rfl | (simp [errW_none, errW_some] <;> rfl) | (simp [*, errW_none, errW_some] <;> rfl), qB HB⟩
       ·
        rw [if_neg c31] at H
        exact absurd H (by simp)
      ·
       rw [if_neg c30] at H
       have c30b0 : ((wrap64 (rd l0 0)) == 5) = false := beq_eq_false_iff_ne.mpr c30
       have c30b1 : ((wrap64 (rd l0 0)) != 5) = true := bne_iff_ne.mpr c30
       by_cases c43 : 1 < (l0.length : Int)
       ·
        rw [if_pos c43] at H
        have c43b0 : decide (1 < (l0.length : Int)) = true := decide_eq_true c43
        have c43b1 : decide (1 < l0.length) = true := decide_eq_true (by omega)
        clear c43
        by_cases c44 : (wrap64 (rd l0 1)) > 100
        ·
         rw [if_pos c44] at H
         have c44b0 : decide (100 < (wrap64 (rd l0 1))) = true := decide_eq_true c44
         clear c44
         simp only [Option.some.injEq, Prod.mk.injEq] at H
         obtain ⟨rfl, rfl, rfl, rfl, rfl⟩ := H
         have hnb45 := NB156_154.out
         have hnc45 := NB154_156.out
         obtain ⟨z46_0, z46_1, z46_2⟩ := cz3 BK156.out
         obtain ⟨f46_0, f46_1, f46_2⟩ := fz3 BK156.out
         have p161 : 0 ≤ (1 : Int) := (by omega)
         have q161 : 1 < (l0.length : Int) := od_
         obtain ⟨ad161, e161, hx161_0⟩ := Kd.at_int HR0.out 1 p161 q161
         obtain rfl : ad155 = ad161 := (by injection e161)
         (try simp only [show (1 : Int).toNat = 1 from rfl, Nat.reduceMul, Nat.reduceEqDiff, Go.Addr.add, ↓reduceIte] at hx161_0)
         have qi161 : (1 < l0.length) = True := eq_true (by omega)
         (try rw [show ((1 : Int)).toNat = 1 from rfl] at hx161_0)
         replace hx161_0 := lb_ HB hx161_0
         replace p161 := eq_true p161
         replace q161 := eq_true q161
         obtain ⟨z47_0, z47_1, z47_2⟩ := cz3 BK154.out
         obtain ⟨f47_0, f47_1, f47_2⟩ := fz3 BK154.out
         go_wp2
         refine bodyPost_ret (results_ctt rfl _ _ gb154 91 #[.int .i64 0, .string (⟨#[]⟩ : ByteArray), .int .i64 0] (0, 0) _ rfl (by (with_reducible repeat (first | refine blk_drewN ?_ _ | refine blk_drew ?_ | refine blk_alloc ?_ _)); refine blk_put (cs := #[.int .i64 0, .string (⟨#[]⟩ : ByteArray), .int .i64 0]) ?_ 2 _ rfl; (with_reducible repeat (first | refine blk_drewN ?_ _ | refine blk_drew ?_ | refine blk_alloc ?_ _)); refine blk_put (cs := #[.int .i64 0, .string (⟨#[]⟩ : ByteArray), .int .i64 0]) ?_ 1 _ rfl; (with_reducible repeat (first | refine blk_drewN ?_ _ | refine blk_drew ?_ | refine blk_alloc ?_ _)); refine blk_put (cs := #[.int .i64 0, .string (⟨#[]⟩ : ByteArray), .int .i64 0]) ?_ 0 _ rfl; (with_reducible repeat (first | refine blk_drewN ?_ _ | refine blk_drew ?_ | refine blk_alloc ?_ _)); exact BK154.out) Try.underlying91 rfl (by kernel_rfl)) rfl ?_
         exact ⟨by first | rfl | (simp [errW_none, errW_some] <;> rfl) | (simp [*, errW_none, errW_some] <;> rfl), qB HB⟩
        ·
         rw [if_neg c44] at H
         have c44b0 : decide (100 < (wrap64 (rd l0 1))) = false := decide_eq_false c44
         clear c44
         by_cases c48 : (wrap64 (rd l0 1)) > (wrap64 ((l0.length : Int) - 2))
         ·
          rw [if_pos c48] at H
          have c48b0 : decide ((wrap64 ((l0.length : Int) - 2)) < (wrap64 (rd l0 1))) = true := decide_eq_true c48
          clear c48
          simp only [Option.some.injEq, Prod.mk.injEq] at H
          obtain ⟨rfl, rfl, rfl, rfl, rfl⟩ := H
          have hnb49 := NB156_154.out
          have hnc49 := NB154_156.out
          obtain ⟨z50_0, z50_1, z50_2⟩ := cz3 BK156.out
          obtain ⟨f50_0, f50_1, f50_2⟩ := fz3 BK156.out
          have p161 : 0 ≤ (1 : Int) := (by omega)
          have q161 : 1 < (l0.length : Int) := od_
          obtain ⟨ad161, e161, hx161_0⟩ := Kd.at_int HR0.out 1 p161 q161
          obtain rfl : ad155 = ad161 := (by injection e161)
          (try simp only [show (1 : Int).toNat = 1 from rfl, Nat.reduceMul, Nat.reduceEqDiff, Go.Addr.add, ↓reduceIte] at hx161_0)
          have qi161 : (1 < l0.length) = True := eq_true (by omega)
          (try rw [show ((1 : Int)).toNat = 1 from rfl] at hx161_0)
          replace hx161_0 := lb_ HB hx161_0
          replace p161 := eq_true p161
          replace q161 := eq_true q161
          obtain ⟨z51_0, z51_1, z51_2⟩ := cz3 BK154.out
          obtain ⟨f51_0, f51_1, f51_2⟩ := fz3 BK154.out
          go_wp2
          refine bodyPost_ret (results_ctt rfl _ _ gb154 91 #[.int .i64 0, .string (⟨#[]⟩ : ByteArray), .int .i64 0] (0, 0) _ rfl (by (with_reducible repeat (first | refine blk_drewN ?_ _ | refine blk_drew ?_ | refine blk_alloc ?_ _)); refine blk_put (cs := #[.int .i64 0, .string (⟨#[]⟩ : ByteArray), .int .i64 0]) ?_ 2 _ rfl; (with_reducible repeat (first | refine blk_drewN ?_ _ | refine blk_drew ?_ | refine blk_alloc ?_ _)); refine blk_put (cs := #[.int .i64 0, .string (⟨#[]⟩ : ByteArray), .int .i64 0]) ?_ 1 _ rfl; (with_reducible repeat (first | refine blk_drewN ?_ _ | refine blk_drew ?_ | refine blk_alloc ?_ _)); refine blk_put (cs := #[.int .i64 0, .string (⟨#[]⟩ : ByteArray), .int .i64 0]) ?_ 0 _ rfl; (with_reducible repeat (first | refine blk_drewN ?_ _ | refine blk_drew ?_ | refine blk_alloc ?_ _)); exact BK154.out) Try.underlying91 rfl (by kernel_rfl)) rfl ?_
          exact ⟨by first | rfl | (simp [errW_none, errW_some] <;> rfl) | (simp [*, errW_none, errW_some] <;> rfl), qB HB⟩
         ·
          rw [if_neg c48] at H
          have c48b0 : decide ((wrap64 ((l0.length : Int) - 2)) < (wrap64 (rd l0 1))) = false := decide_eq_false c48
          clear c48
          by_cases c52 : 2 ≤ (wrap64 (2 + (wrap64 (rd l0 1))))
          ·
           rw [if_pos c52] at H
           have c52b0 := eq_true c52
           have c52b1 : decide (2 ≤ (wrap64 (2 + (wrap64 (rd l0 1))))) = true := decide_eq_true c52
           by_cases c53 : (wrap64 (2 + (wrap64 (rd l0 1)))) ≤ (l0.length : Int)
           ·
            rw [if_pos c53] at H
            have c53b0 := eq_true c53
            have c53b1 : decide ((wrap64 (2 + (wrap64 (rd l0 1)))) ≤ (l0.length : Int)) = true := decide_eq_true c53
            obtain ⟨t163, A54, H⟩ := bd_ H
            have HC55 := Aside0.mk H
            clear H
            have hnb56 := NB156_154.out
            have hnc56 := NB154_156.out
            obtain ⟨z57_0, z57_1, z57_2⟩ := cz3 BK156.out
            obtain ⟨f57_0, f57_1, f57_2⟩ := fz3 BK156.out
            have p161 : 0 ≤ (1 : Int) := (by omega)
            have q161 : 1 < (l0.length : Int) := od_
            obtain ⟨ad161, e161, hx161_0⟩ := Kd.at_int HR0.out 1 p161 q161
            obtain rfl : ad155 = ad161 := (by injection e161)
            (try simp only [show (1 : Int).toNat = 1 from rfl, Nat.reduceMul, Nat.reduceEqDiff, Go.Addr.add, ↓reduceIte] at hx161_0)
            have qi161 : (1 < l0.length) = True := eq_true (by omega)
            (try rw [show ((1 : Int)).toNat = 1 from rfl] at hx161_0)
            replace hx161_0 := lb_ HB hx161_0
            replace p161 := eq_true p161
            replace q161 := eq_true q161
            obtain ⟨i058, hi058, _, hsz58, _⟩ := info_parts info5
            obtain ⟨A58, hcut58, hA58, hC58⟩ := print_mid_of (P := Try.prog) (Value.int .u8) 0 22 5 .i64 .i64 Try.underlying22 hi058 hsz58 (some ad155) c0 l0 2 (wrap64 (2 + (wrap64 (rd l0 1)))) (by omega) (by first | omega | exact od_) od_ HC0.out
            have HR162 := Aside0.mk (Kd.C_of_reads (h1 := fun _ => rfl) (hA58 _ (Kd.reads_of_C HR0.out)))
            have HC162 := Aside0.mk hC58
            clear hA58 hC58 hi058 hsz58
            have hcv59 := Go.Proofs.YthmfmpmljndjhaaV.conv_len (Kd.C_string (P := Try.prog) (A := A58) (c := (c0 - 2)) Try.underlying22 Try.underlying5 Try.underlying9 (Kd.C_below HR162.out HB.out))
            go_upto_if 64 with (first | ((with_reducible refine gate_callee (f := 124) rfl ?_); refine goesL_ (some 63) rfl rfl Try.func124 (by kernel_rfl) rfl #[.agg #[.int .i64 (wrap64 (rd l0 0)), .string (strOfNums ((l0.take ((wrap64 (2 + (wrap64 (rd l0 1)))) : Int).toNat).drop 2)), .int .i64 0]] rfl la_ ?_; (with_reducible refine (spec_FrameOk.calls k (wrap64 (rd l0 0)) (strOfNums ((l0.take ((wrap64 (2 + (wrap64 (rd l0 1)))) : Int).toNat).drop 2)) 0 t163 _ A54.out).mono ?_); rintro e w60 ⟨rfl, hb⟩; refine ⟨_, rfl, ?_⟩; replace BK154 := am_ (blk_below (g := gb154) (o := .cells #[.int .i64 0, .string (⟨#[]⟩ : ByteArray), .int .i64 0] 91 (0, 0)) (by (with_reducible repeat (first | refine blk_drewN ?_ _ | refine blk_drew ?_ | refine blk_alloc ?_ _)); refine blk_far ?_ NB154_156.out _; (with_reducible repeat (first | refine blk_drewN ?_ _ | refine blk_drew ?_ | refine blk_alloc ?_ _)); exact BK154.out) hb); replace BK156 := am_ (blk_below (g := gb156) (o := .cells #[.int .i64 (wrap64 (rd l0 0)), .string (strOfNums ((l0.take ((wrap64 (2 + (wrap64 (rd l0 1)))) : Int).toNat).drop 2)), .int .i64 0] 91 (0, 0)) (by (with_reducible repeat (first | refine blk_drewN ?_ _ | refine blk_drew ?_ | refine blk_alloc ?_ _)); refine blk_put (cs := #[.int .i64 (wrap64 (rd l0 0)), .string (⟨#[]⟩ : ByteArray), .int .i64 0]) ?_ 1 _ rfl; (with_reducible repeat (first | refine blk_drewN ?_ _ | refine blk_drew ?_ | refine blk_alloc ?_ _)); exact BK156.out) hb); replace HB := am_ (below_step (qB HB) hb); (try clear hb); (try clear hb2); (try clear hk); (try clear hi)))
            (try simp only [Act.put, List.setIfInBounds_toArray, List.set_cons_zero, List.set_cons_succ])
            have H := HC55.out
            clear HC55
            by_cases c61 : t163 = true
            ·
             subst c61
             rw [if_pos rfl] at H
             simp only [Option.some.injEq, Prod.mk.injEq] at H
             obtain ⟨rfl, rfl, rfl, rfl, rfl⟩ := H
             have hnb62 := NB156_154.out
             have hnc62 := NB154_156.out
             obtain ⟨z63_0, z63_1, z63_2⟩ := cz3 BK156.out
             obtain ⟨f63_0, f63_1, f63_2⟩ := fz3 BK156.out
             obtain ⟨z64_0, z64_1, z64_2⟩ := cz3 BK154.out
             obtain ⟨f64_0, f64_1, f64_2⟩ := fz3 BK154.out
             go_wp2
             refine bodyPost_ret (results_ctt rfl _ _ gb154 91 #[.int .i64 (wrap64 (rd l0 0)), .string (strOfNums ((l0.take ((wrap64 (2 + (wrap64 (rd l0 1)))) : Int).toNat).drop 2)), .int .i64 0] (0, 0) _ rfl (by (with_reducible repeat (first | refine blk_drewN ?_ _ | refine blk_drew ?_ | refine blk_alloc ?_ _)); refine blk_put (cs := #[.int .i64 (wrap64 (rd l0 0)), .string (strOfNums ((l0.take ((wrap64 (2 + (wrap64 (rd l0 1)))) : Int).toNat).drop 2)), .int .i64 0]) ?_ 2 _ rfl; (with_reducible repeat (first | refine blk_drewN ?_ _ | refine blk_drew ?_ | refine blk_alloc ?_ _)); refine blk_put (cs := #[.int .i64 (wrap64 (rd l0 0)), .string (⟨#[]⟩ : ByteArray), .int .i64 0]) ?_ 1 _ rfl; (with_reducible repeat (first | refine blk_drewN ?_ _ | refine blk_drew ?_ | refine blk_alloc ?_ _)); refine blk_put (cs := #[.int .i64 0, .string (⟨#[]⟩ : ByteArray), .int .i64 0]) ?_ 0 _ rfl; (with_reducible repeat (first | refine blk_drewN ?_ _ | refine blk_drew ?_ | refine blk_alloc ?_ _)); exact BK154.out) Try.underlying91 rfl (by kernel_rfl)) rfl ?_
             exact ⟨by first | rfl | (simp [errW_none, errW_some] <;> rfl) | (simp [*, errW_none, errW_some] <;> rfl), qB HB⟩
            ·
             replace c61 := Bool.eq_false_iff.mpr c61
             subst c61
             rw [if_neg (show ¬ (false = true) by decide)] at H
             simp only [Option.some.injEq, Prod.mk.injEq] at H
             obtain ⟨rfl, rfl, rfl, rfl, rfl⟩ := H
             have hnb65 := NB154_156.out
             have hnc65 := NB156_154.out
             obtain ⟨z66_0, z66_1, z66_2⟩ := cz3 BK154.out
             obtain ⟨f66_0, f66_1, f66_2⟩ := fz3 BK154.out
             go_wp2
             refine bodyPost_ret (results_ctt rfl _ _ gb154 91 #[.int .i64 0, .string (⟨#[]⟩ : ByteArray), .int .i64 0] (0, 0) _ rfl (by (with_reducible repeat (first | refine blk_drewN ?_ _ | refine blk_drew ?_ | refine blk_alloc ?_ _)); refine blk_put (cs := #[.int .i64 0, .string (⟨#[]⟩ : ByteArray), .int .i64 0]) ?_ 2 _ rfl; (with_reducible repeat (first | refine blk_drewN ?_ _ | refine blk_drew ?_ | refine blk_alloc ?_ _)); refine blk_put (cs := #[.int .i64 0, .string (⟨#[]⟩ : ByteArray), .int .i64 0]) ?_ 1 _ rfl; (with_reducible repeat (first | refine blk_drewN ?_ _ | refine blk_drew ?_ | refine blk_alloc ?_ _)); refine blk_put (cs := #[.int .i64 0, .string (⟨#[]⟩ : ByteArray), .int .i64 0]) ?_ 0 _ rfl; (with_reducible repeat (first | refine blk_drewN ?_ _ | refine blk_drew ?_ | refine blk_alloc ?_ _)); exact BK154.out) Try.underlying91 rfl (by kernel_rfl)) rfl ?_
             exact ⟨by first | rfl | (simp [errW_none, errW_some] <;> rfl) | (simp [*, errW_none, errW_some] <;> rfl), qB HB⟩
           ·
            rw [if_neg c53] at H
            exact absurd H (by simp)
          ·
           rw [if_neg c52] at H
           exact absurd H (by simp)
       ·
        rw [if_neg c43] at H
        exact absurd H (by simp)
   ·
    replace c13 := Bool.eq_false_iff.mpr c13
    subst c13
    rw [if_neg (show ¬ (false = true) by decide)] at H
    simp only [Option.some.injEq, Prod.mk.injEq] at H
    obtain ⟨rfl, rfl, rfl, rfl, rfl⟩ := H
    have hnb67 := NB154_156.out
    have hnc67 := NB156_154.out
    obtain ⟨z68_0, z68_1, z68_2⟩ := cz3 BK154.out
    obtain ⟨f68_0, f68_1, f68_2⟩ := fz3 BK154.out
    go_wp2
    refine bodyPost_ret (results_ctt rfl _ _ gb154 91 #[.int .i64 0, .string (⟨#[]⟩ : ByteArray), .int .i64 0] (0, 0) _ rfl (by (with_reducible repeat (first | refine blk_drewN ?_ _ | refine blk_drew ?_ | refine blk_alloc ?_ _)); refine blk_put (cs := #[.int .i64 0, .string (⟨#[]⟩ : ByteArray), .int .i64 0]) ?_ 2 _ rfl; (with_reducible repeat (first | refine blk_drewN ?_ _ | refine blk_drew ?_ | refine blk_alloc ?_ _)); refine blk_put (cs := #[.int .i64 0, .string (⟨#[]⟩ : ByteArray), .int .i64 0]) ?_ 1 _ rfl; (with_reducible repeat (first | refine blk_drewN ?_ _ | refine blk_drew ?_ | refine blk_alloc ?_ _)); refine blk_put (cs := #[.int .i64 0, .string (⟨#[]⟩ : ByteArray), .int .i64 0]) ?_ 0 _ rfl; (with_reducible repeat (first | refine blk_drewN ?_ _ | refine blk_drew ?_ | refine blk_alloc ?_ _)); exact BK154.out) Try.underlying91 rfl (by kernel_rfl)) rfl ?_
    exact ⟨by first | rfl | (simp [errW_none, errW_some] <;> rfl) | (simp [*, errW_none, errW_some] <;> rfl), qB HB⟩
  ·
   rw [if_neg c6] at H
   exact absurd H (by simp)

/-! ### spec_Eat: function 84 -/
def spec_Eat.f (k : Nat) (a0_0 : Int) (a0_1 : Int) (a0_2 : Int) (a0_3 : Bool) (l0_4 : List Int) (l0_5 : List Int) (a0_6 : Int) (a0_7 : Int) : Option (Int × Int × Int × Bool × List Int × List Int × Int × Int) := (spec_l8Copy.f a0_0 a0_1 a0_2 a0_3 l0_4 l0_5 a0_6 a0_7).bind fun bt166 => ((spec_GetFrame.f k l0_4).bind fun bt179 => (if bt179.2.2.2.2 = 0 then ((some (([] : List Int) : List Int)).bind fun y185 => (if 0 ≤ bt179.2.2.2.1 then (if bt179.2.2.2.1 ≤ (l0_4.length : Int) then (if y185.length + (l0_4.drop (bt179.2.2.2.1 : Int).toNat).length < 140737488355328 then (some (bt166.1, bt166.2.1, bt166.2.2.1, bt166.2.2.2.1, (y185 ++ (l0_4.drop (bt179.2.2.2.1 : Int).toNat)), bt166.2.2.2.2.2.1, bt166.2.2.2.2.2.2.1, bt166.2.2.2.2.2.2.2)) else (none)) else (none)) else (none))) else (some (bt166.1, bt166.2.1, bt166.2.2.1, bt166.2.2.2.1, bt166.2.2.2.2.1, bt166.2.2.2.2.2.1, bt166.2.2.2.2.2.2.1, bt166.2.2.2.2.2.2.2))))
theorem spec_Eat.mono : ∀ a0 a1 a2 a3 a4 a5 a6 a7 k, LeO (spec_Eat.f k a0 a1 a2 a3 a4 a5 a6 a7) (spec_Eat.f (k + 1) a0 a1 a2 a3 a4 a5 a6 a7) := by
 intro a0 a1 a2 a3 a4 a5 a6 a7 k
 unfold spec_Eat.f
 repeat' first
   | (with_reducible exact spec_GetFrame.mono _ _)
   | (with_reducible exact LeO.refl _)
   | (with_reducible exact LeO.none _)
   | (with_reducible refine LeO.ite ?_ ?_)
   | (with_reducible refine LeO.bind ?_ (fun _ => ?_))
   | exact spec_GetFrame.mono _ _
   | exact LeO.none _
   | refine LeO.ite ?_ ?_
   | refine LeO.bind ?_ (fun _ => ?_)
set_option maxHeartbeats 8000000 in
set_option maxRecDepth 100000 in
theorem spec_Eat.calls (k : Nat) (a0_0 : Int) (a0_1 : Int) (a0_2 : Int) (a0_3 : Bool) (A0_4 : Option Addr) (c0_4 : Nat) (l0_4 : List Int) (A0_5 : Option Addr) (c0_5 : Nat) (l0_5 : List Int) (a0_6 : Int) (a0_7 : Int) (r1 : Int) (r2 : Int) (r3 : Int) (r4 : Bool) (r5 : List Int) (r6 : List Int) (r7 : Int) (r8 : Int) (w : World) (hr0_4 : Kd.C (Kd.int .u8) w A0_4 l0_4.length l0_4) (hc0_4 : l0_4.length ≤ c0_4) (hr0_5 : Kd.C (Kd.int .u8) w A0_5 l0_5.length l0_5) (hc0_5 : l0_5.length ≤ c0_5) (h : spec_Eat.f k a0_0 a0_1 a0_2 a0_3 l0_4 l0_5 a0_6 a0_7 = some (r1, r2, r3, r4, r5, r6, r7, r8)) :
  Calls Try.prog 84 #[.agg #[.int .i64 a0_0, .int .i64 a0_1, .int .i64 a0_2, .bool a0_3, .slice A0_4 l0_4.length c0_4, .slice A0_5 l0_5.length c0_5, .int .i64 a0_6, .int .i64 a0_7]] w fun e w' => ∃ v4_ v5_ : Value, e = .returned (.agg #[.int .i64 r1, .int .i64 r2, .int .i64 r3, .bool r4, v4_, v5_, .int .i64 r7, .int .i64 r8]) ∧ Kd.R (Kd.int .u8) 5 w' w.heap.size (fun k_ => some k_ ≠ (v5_ : Value).ownBlock) v4_ r5 ∧ Kd.R (Kd.int .u8) 5 w' w.heap.size (fun k_ => some k_ ≠ (v4_ : Value).ownBlock) v5_ r6 ∧ Below w.heap.size w w' := by
 have hu50 := Try.underlying50
 have hu91 := Try.underlying91
 have HR0_4 := Aside0.mk hr0_4
 have HC0_4 := Aside0.mk hc0_4
 clear hr0_4 hc0_4
 have HR0_5 := Aside0.mk hr0_5
 have HC0_5 := Aside0.mk hc0_5
 clear hr0_5 hc0_5
 have HB := Aside0.mk (Below.refl w.heap.size w)
 have H : ((spec_l8Copy.f a0_0 a0_1 a0_2 a0_3 l0_4 l0_5 a0_6 a0_7).bind fun bt166 => ((spec_GetFrame.f k l0_4).bind fun bt179 => (if bt179.2.2.2.2 = 0 then ((some (([] : List Int) : List Int)).bind fun y185 => (if 0 ≤ bt179.2.2.2.1 then (if bt179.2.2.2.1 ≤ (l0_4.length : Int) then (if y185.length + (l0_4.drop (bt179.2.2.2.1 : Int).toNat).length < 140737488355328 then (some (bt166.1, bt166.2.1, bt166.2.2.1, bt166.2.2.2.1, (y185 ++ (l0_4.drop (bt179.2.2.2.1 : Int).toNat)), bt166.2.2.2.2.2.1, bt166.2.2.2.2.2.2.1, bt166.2.2.2.2.2.2.2)) else (none)) else (none)) else (none))) else (some (bt166.1, bt166.2.1, bt166.2.2.1, bt166.2.2.2.1, bt166.2.2.2.2.1, bt166.2.2.2.2.2.1, bt166.2.2.2.2.2.2.1, bt166.2.2.2.2.2.2.2))))) = some (r1, r2, r3, r4, r5, r6, r7, r8) := h
 clear h
 obtain ⟨⟨t166, t167, t168, t169, t170, t173, t176, t177⟩, A2, H⟩ := bd_ H
 (try dsimp only at H)
 obtain ⟨⟨t179, t180, t181, t182, t183⟩, A3, H⟩ := bd_ H
 (try dsimp only at H)
 have HC4 := Aside0.mk H
 clear H
 go_enter Try.func84, Try.ntmps84
 go_upto_if 17 with (first | ((with_reducible refine gate_dst (N := 1) rfl ?_); refine box_event ?hg (N := 1) ?hd (cs := #[.int .i64 a0_0, .int .i64 a0_1, .int .i64 a0_2, .bool a0_3, .slice A0_4 l0_4.length c0_4, .slice A0_5 l0_5.length c0_5, .int .i64 a0_6, .int .i64 a0_7]) (t := 50) ?hr ?_; (case hd => rfl); (case hg => rfl); (case hr => first | (go_simp; done) | (go_simp; rfl)); intro gb164 hg w5 hbox hb; have BK164 := am_ (hbox); have GW164 := am_ ((gG_ hg (qB HB))); have IGW164 := gI_ GW164; have GE164 := am_ ((gG_ hg (qB HB))); have IGE164 := gI_ GE164; replace HB := am_ (below_step (qB HB) hb); clear hb hbox hg) | ((with_reducible refine gate_dst (N := 2) rfl ?_); refine box_event ?hg (N := 2) ?hd (cs := #[.int .i64 0, .int .i64 0, .int .i64 0, .bool false, .slice none 0 0, .slice none 0 0, .int .i64 0, .int .i64 0]) (t := 50) ?hr ?_; (case hd => rfl); (case hg => rfl); (case hr => first | (go_simp; done) | (go_simp; rfl)); intro gb165 hg w6 hbox hb; have BK165 := am_ (hbox); have GW165 := am_ ((gG_ hg (qB HB))); have IGW165 := gI_ GW165; have GE165 := am_ ((gG_ hg (qB HB))); have IGE165 := gI_ GE165; replace HB := am_ (below_step (qB HB) hb); have NB164_165 := am_ ((gN_ hg (qK BK164))); have NB165_164 := am_ ((gM_ hg (qK BK164))); replace BK164 := am_ (blk_below (qK BK164) hb); clear hb hbox hg; have hnb7 := NB164_165.out; have hnc7 := NB165_164.out; obtain ⟨z8_0, z8_1, z8_2, z8_3, z8_4, z8_5, z8_6, z8_7⟩ := cz8 BK164.out; obtain ⟨f8_0, f8_1, f8_2, f8_3, f8_4, f8_5, f8_6, f8_7⟩ := fz8 BK164.out) | ((with_reducible refine gate_callee (f := 97) rfl ?_); refine goesL_ (some 8) rfl rfl Try.func97 (by kernel_rfl) rfl #[.agg #[.int .i64 a0_0, .int .i64 a0_1, .int .i64 a0_2, .bool a0_3, .slice A0_4 l0_4.length c0_4, .slice A0_5 l0_5.length c0_5, .int .i64 a0_6, .int .i64 a0_7]] rfl la_ ?_; (with_reducible refine (spec_l8Copy.calls a0_0 a0_1 a0_2 a0_3 _ _ l0_4 _ _ l0_5 a0_6 a0_7 t166 t167 t168 t169 t170 t173 t176 t177 _ ?side1 ?side2 ?side3 ?side4 A2.out).mono ?_); (case side1 => exact qC (Kd.C_below HR0_4.out HB.out)); (case side2 => exact HC0_4.out); (case side3 => exact qC (Kd.C_below HR0_5.out HB.out)); (case side4 => exact HC0_5.out); rintro e w9 ⟨v171, v174, rfl, ho0, ho1, hb⟩; refine ⟨_, rfl, ?_⟩; have HO172 := am_ (Kd.R_lower ho0 (below_size (qB HB))); have HO175 := am_ (Kd.R_lower ho1 (below_size (qB HB))); replace BK164 := am_ (blk_below (qK BK164) hb); replace BK165 := am_ (blk_below (qK BK165) hb); replace HB := am_ (below_step (qB HB) hb); (try clear hb); (try clear hb2); (try clear hk); (try clear hi); (try clear ho0); (try clear ho1)) | ((with_reducible refine gate_dst (N := 3) rfl ?_); refine box_event ?hg (N := 3) ?hd (cs := #[.int .i64 0, .int .i64 0, .int .i64 0, .bool false, .slice none 0 0, .slice none 0 0, .int .i64 0, .int .i64 0]) (t := 50) ?hr ?_; (case hd => rfl); (case hg => rfl); (case hr => first | (go_simp; done) | (go_simp; rfl)); intro gb178 hg w10 hbox hb; replace HO172 := am_ (Kd.R_below (qR HO172) hb); replace HO175 := am_ (Kd.R_below (qR HO175) hb); have BK178 := am_ (hbox); have GW178 := am_ ((gG_ hg (qB HB))); have IGW178 := gI_ GW178; have GE178 := am_ ((gG_ hg (qB HB))); have IGE178 := gI_ GE178; replace HB := am_ (below_step (qB HB) hb); have NB164_178 := am_ ((gN_ hg (qK BK164))); have NB178_164 := am_ ((gM_ hg (qK BK164))); replace BK164 := am_ (blk_below (qK BK164) hb); have NB165_178 := am_ ((gN_ hg (qK BK165))); have NB178_165 := am_ ((gM_ hg (qK BK165))); replace BK165 := am_ (blk_below (qK BK165) hb); clear hb hbox hg; have hnb11 := NB178_164.out; have hnc11 := NB164_178.out; have hnb12 := NB178_165.out; have hnc12 := NB165_178.out; obtain ⟨z13_0, z13_1, z13_2, z13_3, z13_4, z13_5, z13_6, z13_7⟩ := cz8 BK178.out; obtain ⟨f13_0, f13_1, f13_2, f13_3, f13_4, f13_5, f13_6, f13_7⟩ := fz8 BK178.out; obtain ⟨Ao14, co14, eo14⟩ := Kd.R_slice HO172.out; subst eo14; obtain ⟨Ao15, co15, eo15⟩ := Kd.R_slice HO175.out; subst eo15; obtain ⟨z16_0, z16_1, z16_2, z16_3, z16_4, z16_5, z16_6, z16_7⟩ := cz8 BK164.out; obtain ⟨f16_0, f16_1, f16_2, f16_3, f16_4, f16_5, f16_6, f16_7⟩ := fz8 BK164.out) | ((with_reducible refine gate_callee (f := 116) rfl ?_); refine goesL_ (some 12) rfl rfl Try.func116 (by kernel_rfl) rfl #[.slice A0_4 l0_4.length c0_4] rfl la_ ?_; (with_reducible refine (spec_GetFrame.calls k _ _ l0_4 t179 t180 t181 t182 t183 _ ?side1 ?side2 A3.out).mono ?_); (case side1 => exact Kd.C_below HR0_4.out (qB HB)); (case side2 => exact HC0_4.out); rintro e w17 ⟨rfl, hb⟩; refine ⟨_, rfl, ?_⟩; replace HO172 := am_ (Kd.R_below (by (with_reducible repeat (first | apply Kd.R_alloc | apply Kd.R_drewN | apply Kd.R_drew)); exact (Kd.R_mono (Go.Proofs.YthmfmpmljndjhaaV.R_far8 (g := gb178) (Kd.R_types HO172.out BK178.out (by decide)) (fun _ hk => hk.2)) (fun _ h_ => h_.1))) hb); replace HO175 := am_ (Kd.R_below (by (with_reducible repeat (first | apply Kd.R_alloc | apply Kd.R_drewN | apply Kd.R_drew)); exact (Kd.R_mono (Go.Proofs.YthmfmpmljndjhaaV.R_far8 (g := gb178) (Kd.R_types HO175.out BK178.out (by decide)) (fun _ hk => hk.2)) (fun _ h_ => h_.1))) hb); replace BK164 := am_ (blk_below (g := gb164) (o := .cells #[.int .i64 a0_0, .int .i64 a0_1, .int .i64 a0_2, .bool a0_3, .slice A0_4 l0_4.length c0_4, .slice A0_5 l0_5.length c0_5, .int .i64 a0_6, .int .i64 a0_7] 50 (0, 0)) (by (with_reducible repeat (first | refine blk_drewN ?_ _ | refine blk_drew ?_ | refine blk_alloc ?_ _)); refine Go.Proofs.YthmfmpmljndjhaaV.blk_far8 ?_ NB164_178.out; (with_reducible repeat (first | refine blk_drewN ?_ _ | refine blk_drew ?_ | refine blk_alloc ?_ _)); exact BK164.out) hb); replace BK165 := am_ (blk_below (g := gb165) (o := .cells #[.int .i64 0, .int .i64 0, .int .i64 0, .bool false, .slice none 0 0, .slice none 0 0, .int .i64 0, .int .i64 0] 50 (0, 0)) (by (with_reducible repeat (first | refine blk_drewN ?_ _ | refine blk_drew ?_ | refine blk_alloc ?_ _)); refine Go.Proofs.YthmfmpmljndjhaaV.blk_far8 ?_ NB165_178.out; (with_reducible repeat (first | refine blk_drewN ?_ _ | refine blk_drew ?_ | refine blk_alloc ?_ _)); exact BK165.out) hb); replace BK178 := am_ (blk_below (g := gb178) (o := .cells #[.int .i64 t166, .int .i64 t167, .int .i64 t168, .bool t169, .slice Ao14 t170.length co14, .slice Ao15 t173.length co15, .int .i64 t176, .int .i64 t177] 50 (0, 0)) (by (with_reducible repeat (first | refine blk_drewN ?_ _ | refine blk_drew ?_ | refine blk_alloc ?_ _)); refine Go.Proofs.YthmfmpmljndjhaaV.blk_all8 (show _ = some (Go.Obj.cells #[.int .i64 0, .int .i64 0, .int .i64 0, .bool false, .slice none 0 0, .slice none 0 0, .int .i64 0, .int .i64 0] _ (0, 0)) from ?_); (with_reducible repeat (first | refine blk_drewN ?_ _ | refine blk_drew ?_ | refine blk_alloc ?_ _)); exact BK178.out) hb); replace HB := am_ (below_step (qB HB) hb); (try clear hb); (try clear hb2); (try clear hk); (try clear hi)) | ((with_reducible refine gate_dst (N := 4) rfl ?_); refine box_event ?hg (N := 4) ?hd (cs := #[.int .i64 0, .string (⟨#[]⟩ : ByteArray), .int .i64 0]) (t := 91) ?hr ?_; (case hd => rfl); (case hg => rfl); (case hr => first | (go_simp; done) | (go_simp; rfl)); intro gb184 hg w18 hbox hb; replace HO172 := am_ (Kd.R_below (qR HO172) hb); replace HO175 := am_ (Kd.R_below (qR HO175) hb); have BK184 := am_ (hbox); have GW184 := am_ ((gG_ hg (qB HB))); have IGW184 := gI_ GW184; have GE184 := am_ ((gG_ hg (qB HB))); have IGE184 := gI_ GE184; replace HB := am_ (below_step (qB HB) hb); have NB164_184 := am_ ((gN_ hg (qK BK164))); have NB184_164 := am_ ((gM_ hg (qK BK164))); replace BK164 := am_ (blk_below (qK BK164) hb); have NB165_184 := am_ ((gN_ hg (qK BK165))); have NB184_165 := am_ ((gM_ hg (qK BK165))); replace BK165 := am_ (blk_below (qK BK165) hb); have NB178_184 := am_ ((gN_ hg (qK BK178))); have NB184_178 := am_ ((gM_ hg (qK BK178))); replace BK178 := am_ (blk_below (qK BK178) hb); clear hb hbox hg; have hnb19 := NB184_164.out; have hnc19 := NB164_184.out; have hnb20 := NB184_165.out; have hnc20 := NB165_184.out; have hnb21 := NB184_178.out; have hnc21 := NB178_184.out; obtain ⟨z22_0, z22_1, z22_2⟩ := cz3 BK184.out; obtain ⟨f22_0, f22_1, f22_2⟩ := fz3 BK184.out))
 (try simp only [Act.put, List.setIfInBounds_toArray, List.set_cons_zero, List.set_cons_succ])
 have H := HC4.out
 clear HC4
 by_cases c23 : t183 = 0
 ·
  rw [if_pos c23] at H
  have c23b0 : (t183 == 0) = true := beq_iff_eq.mpr c23
  have c23b1 : (t183 != 0) = false := bne_eq_false_iff_eq.mpr c23
  clear c23
  (first | rw [c23b0] | rw [c23b1] | (simp only [i64_w, i32_w]; rw [c23b0]) | skip)
  obtain ⟨y185, hy185⟩ : ∃ y_ : List Int, y_ = (([] : List Int)) := ⟨_, rfl⟩
  replace H := mk_ H hy185
  (try dsimp only at H)
  have Ny185 := Aside0.mk hy185
  clear hy185
  by_cases c24 : 0 ≤ t182
  ·
   rw [if_pos c24] at H
   have c24b0 := eq_true c24
   have c24b1 : decide (0 ≤ t182) = true := decide_eq_true c24
   clear c24
   by_cases c25 : t182 ≤ (l0_4.length : Int)
   ·
    rw [if_pos c25] at H
    have c25b0 := eq_true c25
    have c25b1 : decide (t182 ≤ (l0_4.length : Int)) = true := decide_eq_true c25
    clear c25
    by_cases c26 : y185.length + (l0_4.drop (t182 : Int).toNat).length < 140737488355328
    ·
     rw [if_pos c26] at H
     have LMc26 := Aside0.mk c26
     clear c26
     obtain ⟨y189, hy189⟩ : ∃ y_ : List Int, y_ = (y185 ++ (l0_4.drop (t182 : Int).toNat)) := ⟨_, rfl⟩
     rw [← hy189] at H
     have Ny189 := Aside0.mk hy189
     clear hy189
     simp only [Option.some.injEq, Prod.mk.injEq] at H
     obtain ⟨rfl, rfl, rfl, rfl, rfl, rfl, rfl, rfl⟩ := H
     go_wp2_with (first | ((with_reducible refine gate_dst (N := 18) rfl ?_); refine Kd.R_lit (Kd.int .u8) _ 5 ?hg (N := 18) ?hd (xs := ([] : List Int)) (inner := []) (ok := fun _ => True) (okp := fun _ => True) ?hr ?hp (fun _ hk => hk) trivial (Below.refl _ _) (Nat.le_refl _) (by simp) ?_; (case hd => rfl); (case hg => rfl); (case hr => first | (go_simp; done) | (go_simp; rfl)); (case hp => exact (Reps.none _ _)); intro v186 w27 ho28 hb hg_ hnew_; clear hg_ hnew_; (first | rw [← Ny185.out] at ho28 | (simp only [Int.reduceToNat] at ho28; rw [← Ny185.out] at ho28)); have HO187 := am_ (Kd.R_lower (Kd.R_new' (Kd.R_new' ho28 (Kd.R_lt (by (with_reducible repeat (first | apply Kd.R_alloc | apply Kd.R_drewN | apply Kd.R_drew)); exact (Kd.R_mono (Go.Proofs.YthmfmpmljndjhaaV.R_far3 (g := gb184) (Kd.R_types HO172.out BK184.out (by decide)) (fun _ hk => hk.2)) (fun _ h_ => h_.1))))) (Kd.R_lt (by (with_reducible repeat (first | apply Kd.R_alloc | apply Kd.R_drewN | apply Kd.R_drew)); exact (Kd.R_mono (Go.Proofs.YthmfmpmljndjhaaV.R_far3 (g := gb184) (Kd.R_types HO175.out BK184.out (by decide)) (fun _ hk => hk.2)) (fun _ h_ => h_.1))))) (below_size (qB HB))); replace HO172 := am_ (Kd.R_elder' (by (with_reducible repeat (first | apply Kd.R_alloc | apply Kd.R_drewN | apply Kd.R_drew)); exact (Kd.R_mono (Go.Proofs.YthmfmpmljndjhaaV.R_far3 (g := gb184) (Kd.R_types HO172.out BK184.out (by decide)) (fun _ hk => hk.2)) (fun _ h_ => h_.1))) (Kd.R_base ho28) hb); replace HO175 := am_ (Kd.R_elder' (by (with_reducible repeat (first | apply Kd.R_alloc | apply Kd.R_drewN | apply Kd.R_drew)); exact (Kd.R_mono (Go.Proofs.YthmfmpmljndjhaaV.R_far3 (g := gb184) (Kd.R_types HO175.out BK184.out (by decide)) (fun _ hk => hk.2)) (fun _ h_ => h_.1))) (Kd.R_base ho28) hb); replace BK164 := am_ (blk_below (g := gb164) (o := .cells #[.int .i64 a0_0, .int .i64 a0_1, .int .i64 a0_2, .bool a0_3, .slice A0_4 l0_4.length c0_4, .slice A0_5 l0_5.length c0_5, .int .i64 a0_6, .int .i64 a0_7] 50 (0, 0)) (by (with_reducible repeat (first | refine blk_drewN ?_ _ | refine blk_drew ?_ | refine blk_alloc ?_ _)); refine Go.Proofs.YthmfmpmljndjhaaV.blk_far3 ?_ NB164_184.out; (with_reducible repeat (first | refine blk_drewN ?_ _ | refine blk_drew ?_ | refine blk_alloc ?_ _)); exact BK164.out) hb); replace BK165 := am_ (blk_below (g := gb165) (o := .cells #[.int .i64 0, .int .i64 0, .int .i64 0, .bool false, .slice none 0 0, .slice none 0 0, .int .i64 0, .int .i64 0] 50 (0, 0)) (by (with_reducible repeat (first | refine blk_drewN ?_ _ | refine blk_drew ?_ | refine blk_alloc ?_ _)); refine Go.Proofs.YthmfmpmljndjhaaV.blk_far3 ?_ NB165_184.out; (with_reducible repeat (first | refine blk_drewN ?_ _ | refine blk_drew ?_ | refine blk_alloc ?_ _)); exact BK165.out) hb); replace BK178 := am_ (blk_below (g := gb178) (o := .cells #[.int .i64 t166, .int .i64 t167, .int .i64 t168, .bool t169, .slice Ao14 t170.length co14, .slice Ao15 t173.length co15, .int .i64 t176, .int .i64 t177] 50 (0, 0)) (by (with_reducible repeat (first | refine blk_drewN ?_ _ | refine blk_drew ?_ | refine blk_alloc ?_ _)); refine Go.Proofs.YthmfmpmljndjhaaV.blk_far3 ?_ NB178_184.out; (with_reducible repeat (first | refine blk_drewN ?_ _ | refine blk_drew ?_ | refine blk_alloc ?_ _)); exact BK178.out) hb); replace BK184 := am_ (blk_below (g := gb184) (o := .cells #[.int .i64 t179, .string t180, .int .i64 t181] 91 (0, 0)) (by (with_reducible repeat (first | refine blk_drewN ?_ _ | refine blk_drew ?_ | refine blk_alloc ?_ _)); refine Go.Proofs.YthmfmpmljndjhaaV.blk_all3 (show _ = some (Go.Obj.cells #[.int .i64 0, .string (⟨#[]⟩ : ByteArray), .int .i64 0] _ (0, 0)) from ?_); (with_reducible repeat (first | refine blk_drewN ?_ _ | refine blk_drew ?_ | refine blk_alloc ?_ _)); exact BK184.out) hb); replace HB := am_ (below_step (qB HB) hb); clear hb ho28; have hnb29 := NB164_165.out; have hnc29 := NB165_164.out; have hnb30 := NB164_178.out; have hnc30 := NB178_164.out; have hnb31 := NB164_184.out; have hnc31 := NB184_164.out; obtain ⟨z32_0, z32_1, z32_2, z32_3, z32_4, z32_5, z32_6, z32_7⟩ := cz8 BK164.out; obtain ⟨f32_0, f32_1, f32_2, f32_3, f32_4, f32_5, f32_6, f32_7⟩ := fz8 BK164.out; obtain ⟨i033, hi033, _, hsz33, _⟩ := info_parts info5; obtain ⟨A33, hcut33, hA33, hC33⟩ := print_drop_of (P := Try.prog) (Value.int .u8) 0 22 5 .i64 Try.underlying22 hi033 hsz33 A0_4 c0_4 l0_4 t182 od_ od_ HC0_4.out; (try simp only [Int.reduceToNat] at hcut33 hA33 hC33); have HR188 := Aside0.mk (Kd.C_of_reads (h1 := fun _ => rfl) (hA33 _ (Kd.reads_of_C HR0_4.out))); have HC188 := Aside0.mk hC33; clear hA33 hC33 hi033 hsz33) | ((with_reducible refine gate_builtin (b := .append) (xs := #[.tmp 18, .tmp 22]) rfl ?_); at_builtin; refine Kd.R_append_rows (Kd.int .u8) (w0 := w) w.heap.size rfl (.tmp 18) (.tmp 22) 22 5 (.int .u8 0) 1 rfl Try.underlying22 info5 rfl (by decide) (by omega) v186 y185 (l0_4.drop (t182 : Int).toNat) _ _ _ (fun k_ => some k_ ≠ (.slice Ao14 t170.length co14 : Value).ownBlock ∧ some k_ ≠ (.slice Ao15 t173.length co15 : Value).ownBlock) (fun _ => False) rfl rfl ?aO ?aR (fun _ _ h => h) (fun _ h => h.elim) ?aF ?aB ?aS ?aL ?_; (case aR => first | (rw [← show (l0_4.drop (t182 : Int).toNat).length = (l0_4.length - t182.toNat) from List.length_drop]; exact qC (Kd.C_below HR188.out HB.out)) | (exact qC (Kd.C_below HR188.out HB.out))); (case aB => exact (qB HB)); (case aF => exact (fun k_ hk => ⟨Kd.fresh' (Kd.R_lt (qR HO172)) k_ hk, Kd.fresh' (Kd.R_lt (qR HO175)) k_ hk⟩)); (case aO => exact (tR (Kd.R_mono HO187.out (fun _ hk => ⟨hk.1.2, hk.2⟩)))); (case aS => exact (below_size (qB HB))); (case aL => have := LMc26.out; have hlx_ := (show (l0_4.drop (t182 : Int).toNat).length = (l0_4.length - t182.toNat) from List.length_drop); omega); intro v190 w34 ho hb hg hat; rw [← Ny189.out] at ho; replace BK164 := am_ (blk_grown (qK BK164) hg (Kd.R_ne HO187.out BK164.out (by decide))); replace BK165 := am_ (blk_grown (qK BK165) hg (Kd.R_ne HO187.out BK165.out (by decide))); replace HO172 := am_ (Kd.R_after (ok := (fun k_ => some k_ ≠ (.slice Ao15 t173.length co15 : Value).ownBlock)) (qR HO172) hg hat); replace HO175 := am_ (Kd.R_after (ok := (fun k_ => some k_ ≠ (.slice Ao14 t170.length co14 : Value).ownBlock)) (qR HO175) hg hat); replace BK178 := am_ (blk_grown (qK BK178) hg (Kd.R_ne HO187.out BK178.out (by decide))); replace BK184 := am_ (blk_grown (qK BK184) hg (Kd.R_ne HO187.out BK184.out (by decide))); replace HB := am_ (hb); have HO191 := am_ (ho); clear HO187; clear ho hb hg hat; obtain ⟨Ao35, co35, eo35⟩ := Kd.R_slice HO191.out; subst eo35; have hnb36 := NB178_165.out; have hnc36 := NB165_178.out; have hnb37 := NB178_184.out; have hnc37 := NB184_178.out; obtain ⟨z38_0, z38_1, z38_2, z38_3, z38_4, z38_5, z38_6, z38_7⟩ := cz8 BK178.out; obtain ⟨f38_0, f38_1, f38_2, f38_3, f38_4, f38_5, f38_6, f38_7⟩ := fz8 BK178.out; have hnb39 := NB165_184.out; have hnc39 := NB184_165.out; obtain ⟨z40_0, z40_1, z40_2, z40_3, z40_4, z40_5, z40_6, z40_7⟩ := cz8 BK165.out; obtain ⟨f40_0, f40_1, f40_2, f40_3, f40_4, f40_5, f40_6, f40_7⟩ := fz8 BK165.out))
     refine bodyPost_ret (results_cell_row rfl _ _ gb165 50 #[.int .i64 t166, .int .i64 t167, .int .i64 t168, .bool t169, .slice Ao35 y189.length co35, .slice Ao15 t173.length co15, .int .i64 t176, .int .i64 t177] (0, 0) _ rfl (by (with_reducible repeat (first | refine blk_drewN ?_ _ | refine blk_drew ?_ | refine blk_alloc ?_ _)); refine blk_put (cs := #[.int .i64 t166, .int .i64 t167, .int .i64 t168, .bool t169, .slice Ao35 y189.length co35, .slice Ao15 t173.length co15, .int .i64 t176, .int .i64 0]) ?_ 7 _ rfl; (with_reducible repeat (first | refine blk_drewN ?_ _ | refine blk_drew ?_ | refine blk_alloc ?_ _)); refine blk_put (cs := #[.int .i64 t166, .int .i64 t167, .int .i64 t168, .bool t169, .slice Ao35 y189.length co35, .slice Ao15 t173.length co15, .int .i64 0, .int .i64 0]) ?_ 6 _ rfl; (with_reducible repeat (first | refine blk_drewN ?_ _ | refine blk_drew ?_ | refine blk_alloc ?_ _)); refine blk_put (cs := #[.int .i64 t166, .int .i64 t167, .int .i64 t168, .bool t169, .slice Ao35 y189.length co35, .slice none 0 0, .int .i64 0, .int .i64 0]) ?_ 5 _ rfl; (with_reducible repeat (first | refine blk_drewN ?_ _ | refine blk_drew ?_ | refine blk_alloc ?_ _)); refine blk_put (cs := #[.int .i64 t166, .int .i64 t167, .int .i64 t168, .bool t169, .slice none 0 0, .slice none 0 0, .int .i64 0, .int .i64 0]) ?_ 4 _ rfl; (with_reducible repeat (first | refine blk_drewN ?_ _ | refine blk_drew ?_ | refine blk_alloc ?_ _)); refine blk_put (cs := #[.int .i64 t166, .int .i64 t167, .int .i64 t168, .bool false, .slice none 0 0, .slice none 0 0, .int .i64 0, .int .i64 0]) ?_ 3 _ rfl; (with_reducible repeat (first | refine blk_drewN ?_ _ | refine blk_drew ?_ | refine blk_alloc ?_ _)); refine blk_put (cs := #[.int .i64 t166, .int .i64 t167, .int .i64 0, .bool false, .slice none 0 0, .slice none 0 0, .int .i64 0, .int .i64 0]) ?_ 2 _ rfl; (with_reducible repeat (first | refine blk_drewN ?_ _ | refine blk_drew ?_ | refine blk_alloc ?_ _)); refine blk_put (cs := #[.int .i64 t166, .int .i64 0, .int .i64 0, .bool false, .slice none 0 0, .slice none 0 0, .int .i64 0, .int .i64 0]) ?_ 1 _ rfl; (with_reducible repeat (first | refine blk_drewN ?_ _ | refine blk_drew ?_ | refine blk_alloc ?_ _)); refine blk_put (cs := #[.int .i64 0, .int .i64 0, .int .i64 0, .bool false, .slice none 0 0, .slice none 0 0, .int .i64 0, .int .i64 0]) ?_ 0 _ rfl; (with_reducible repeat (first | refine blk_drewN ?_ _ | refine blk_drew ?_ | refine blk_alloc ?_ _)); refine blk_far ?_ NB165_178.out _; (with_reducible repeat (first | refine blk_drewN ?_ _ | refine blk_drew ?_ | refine blk_alloc ?_ _)); exact BK165.out) Try.underlying50 rfl (by kernel_rfl)) rfl ?_
     exact ⟨_, _, by first | rfl | (simp [errW_none, errW_some] <;> rfl) | (simp [*, errW_none, errW_some] <;> rfl), by (with_reducible repeat (first | apply Kd.R_alloc | apply Kd.R_drewN | apply Kd.R_drew)); exact Kd.R_mono (Go.Proofs.YthmfmpmljndjhaaV.R_far8 (g := gb165) (Kd.R_far (p := ⟨gb178, 4, none⟩) (Kd.R_types (Kd.R_types HO191.out BK178.out (by decide)) BK165.out (by decide)) (fun _ hk => hk.1.2) (.slice Ao35 y189.length co35)) (fun _ hk => hk.2)) (fun _ hk => hk.1.1.2), by (with_reducible repeat (first | apply Kd.R_alloc | apply Kd.R_drewN | apply Kd.R_drew)); exact Kd.R_mono (Go.Proofs.YthmfmpmljndjhaaV.R_far8 (g := gb165) (Kd.R_far (p := ⟨gb178, 4, none⟩) (Kd.R_types (Kd.R_types HO175.out BK178.out (by decide)) BK165.out (by decide)) (fun _ hk => hk.1.2) (.slice Ao35 y189.length co35)) (fun _ hk => hk.2)) (fun _ hk => hk.1.1.2), qB HB⟩
    ·
     rw [if_neg c26] at H
     exact absurd H (by simp)
   ·
    rw [if_neg c25] at H
    exact absurd H (by simp)
  ·
   rw [if_neg c24] at H
   exact absurd H (by simp)
 ·
  rw [if_neg c23] at H
  have c23b0 : (t183 == 0) = false := beq_eq_false_iff_ne.mpr c23
  have c23b1 : (t183 != 0) = true := bne_iff_ne.mpr c23
  (first | rw [c23b0] | rw [c23b1] | (simp only [i64_w, i32_w]; rw [c23b0]) | skip)
  simp only [Option.some.injEq, Prod.mk.injEq] at H
  obtain ⟨rfl, rfl, rfl, rfl, rfl, rfl, rfl, rfl⟩ := H
  have hnb41 := NB178_164.out
  have hnc41 := NB164_178.out
  have hnb42 := NB178_165.out
  have hnc42 := NB165_178.out
  have hnb43 := NB178_184.out
  have hnc43 := NB184_178.out
  obtain ⟨z44_0, z44_1, z44_2, z44_3, z44_4, z44_5, z44_6, z44_7⟩ := cz8 BK178.out
  obtain ⟨f44_0, f44_1, f44_2, f44_3, f44_4, f44_5, f44_6, f44_7⟩ := fz8 BK178.out
  have hnb45 := NB165_164.out
  have hnc45 := NB164_165.out
  have hnb46 := NB165_184.out
  have hnc46 := NB184_165.out
  obtain ⟨z47_0, z47_1, z47_2, z47_3, z47_4, z47_5, z47_6, z47_7⟩ := cz8 BK165.out
  obtain ⟨f47_0, f47_1, f47_2, f47_3, f47_4, f47_5, f47_6, f47_7⟩ := fz8 BK165.out
  go_wp2
  refine bodyPost_ret (results_cell_row rfl _ _ gb165 50 #[.int .i64 t166, .int .i64 t167, .int .i64 t168, .bool t169, .slice Ao14 t170.length co14, .slice Ao15 t173.length co15, .int .i64 t176, .int .i64 t177] (0, 0) _ rfl (by (with_reducible repeat (first | refine blk_drewN ?_ _ | refine blk_drew ?_ | refine blk_alloc ?_ _)); refine blk_put (cs := #[.int .i64 t166, .int .i64 t167, .int .i64 t168, .bool t169, .slice Ao14 t170.length co14, .slice Ao15 t173.length co15, .int .i64 t176, .int .i64 0]) ?_ 7 _ rfl; (with_reducible repeat (first | refine blk_drewN ?_ _ | refine blk_drew ?_ | refine blk_alloc ?_ _)); refine blk_put (cs := #[.int .i64 t166, .int .i64 t167, .int .i64 t168, .bool t169, .slice Ao14 t170.length co14, .slice Ao15 t173.length co15, .int .i64 0, .int .i64 0]) ?_ 6 _ rfl; (with_reducible repeat (first | refine blk_drewN ?_ _ | refine blk_drew ?_ | refine blk_alloc ?_ _)); refine blk_put (cs := #[.int .i64 t166, .int .i64 t167, .int .i64 t168, .bool t169, .slice Ao14 t170.length co14, .slice none 0 0, .int .i64 0, .int .i64 0]) ?_ 5 _ rfl; (with_reducible repeat (first | refine blk_drewN ?_ _ | refine blk_drew ?_ | refine blk_alloc ?_ _)); refine blk_put (cs := #[.int .i64 t166, .int .i64 t167, .int .i64 t168, .bool t169, .slice none 0 0, .slice none 0 0, .int .i64 0, .int .i64 0]) ?_ 4 _ rfl; (with_reducible repeat (first | refine blk_drewN ?_ _ | refine blk_drew ?_ | refine blk_alloc ?_ _)); refine blk_put (cs := #[.int .i64 t166, .int .i64 t167, .int .i64 t168, .bool false, .slice none 0 0, .slice none 0 0, .int .i64 0, .int .i64 0]) ?_ 3 _ rfl; (with_reducible repeat (first | refine blk_drewN ?_ _ | refine blk_drew ?_ | refine blk_alloc ?_ _)); refine blk_put (cs := #[.int .i64 t166, .int .i64 t167, .int .i64 0, .bool false, .slice none 0 0, .slice none 0 0, .int .i64 0, .int .i64 0]) ?_ 2 _ rfl; (with_reducible repeat (first | refine blk_drewN ?_ _ | refine blk_drew ?_ | refine blk_alloc ?_ _)); refine blk_put (cs := #[.int .i64 t166, .int .i64 0, .int .i64 0, .bool false, .slice none 0 0, .slice none 0 0, .int .i64 0, .int .i64 0]) ?_ 1 _ rfl; (with_reducible repeat (first | refine blk_drewN ?_ _ | refine blk_drew ?_ | refine blk_alloc ?_ _)); refine blk_put (cs := #[.int .i64 0, .int .i64 0, .int .i64 0, .bool false, .slice none 0 0, .slice none 0 0, .int .i64 0, .int .i64 0]) ?_ 0 _ rfl; (with_reducible repeat (first | refine blk_drewN ?_ _ | refine blk_drew ?_ | refine blk_alloc ?_ _)); refine blk_far ?_ NB165_184.out _; (with_reducible repeat (first | refine blk_drewN ?_ _ | refine blk_drew ?_ | refine blk_alloc ?_ _)); refine blk_far ?_ NB165_184.out _; (with_reducible repeat (first | refine blk_drewN ?_ _ | refine blk_drew ?_ | refine blk_alloc ?_ _)); refine blk_far ?_ NB165_184.out _; (with_reducible repeat (first | refine blk_drewN ?_ _ | refine blk_drew ?_ | refine blk_alloc ?_ _)); exact BK165.out) Try.underlying50 rfl (by kernel_rfl)) rfl ?_
  exact ⟨_, _, by first | rfl | (simp [errW_none, errW_some] <;> rfl) | (simp [*, errW_none, errW_some] <;> rfl), by (with_reducible repeat (first | apply Kd.R_alloc | apply Kd.R_drewN | apply Kd.R_drew)); exact Kd.R_mono (Go.Proofs.YthmfmpmljndjhaaV.R_far8 (g := gb165) (Go.Proofs.YthmfmpmljndjhaaV.R_far3 (g := gb184) (Kd.R_types (Kd.R_types HO172.out BK184.out (by decide)) BK165.out (by decide)) (fun _ hk => hk.1.2)) (fun _ hk => hk.2)) (fun _ hk => hk.1.1), by (with_reducible repeat (first | apply Kd.R_alloc | apply Kd.R_drewN | apply Kd.R_drew)); exact Kd.R_mono (Go.Proofs.YthmfmpmljndjhaaV.R_far8 (g := gb165) (Go.Proofs.YthmfmpmljndjhaaV.R_far3 (g := gb184) (Kd.R_types (Kd.R_types HO175.out BK184.out (by decide)) BK165.out (by decide)) (fun _ hk => hk.1.2)) (fun _ hk => hk.2)) (fun _ hk => hk.1.1), qB HB⟩

end Go.Proofs.Ythmfmpmljndjhaa.PFnExactEat
