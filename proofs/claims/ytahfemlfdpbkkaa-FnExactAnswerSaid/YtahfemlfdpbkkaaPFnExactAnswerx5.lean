-- Written by a program of this session (myprint.py, over the kit's print): contracts of FnExactAnswer
import Derived.Test.YtahfemlfdpbkkaaPFnExactAnswerx0
import Derived.Test.YtahfemlfdpbkkaaPFnExactAnswerx3
import Derived.Test.YtahfemlfdpbkkaaPFnExactAnswerx4
namespace Go.Proofs.Ytahfemlfdpbkkaa.PFnExactAnswer
open Go.RowKit Go.Proofs.YtahfemlfdpbkkaaW.PrintWords Go.Proofs.YtahfemlfdpbkkaaW.PrintLast Go.Proofs.YtahfemlfdpbkkaaW.PrintMore Go.Proofs.YtahfemlfdpbkkaaV
attribute [local go_sem] max2_int min2_int max_two min_two max_three min_three max_four min_four   -- for this text's walks alone
set_option linter.unusedVariables false
set_option linter.unusedSimpArgs false

/-! ### spec_FrameOk: function 140 -/
def spec_FrameOk.j0 : Nat → Int → Bool → Int → ByteArray → Int → Option (Bool)
 | 0, _, _, _, _, _ => none
 | k + 1, x4, x15, x170000, x170001, x170002 => if x15 = true then ((spec_TextOk.f k x170001).bind fun t171 => (if t171 = true then (some (x170002 == 0)) else (some false))) else (if x4 = 5 then (if x170001.toList = ([] : List UInt8) then ((spec_l1In.f x170002 0 2).bind fun t172 => (some t172)) else (some false)) else (if x170000 = 3 then (if x170001.toList = ([] : List UInt8) then (some (x170002 == 0)) else (some false)) else (some false)))
def spec_FrameOk.f (k : Nat) (a0_0 : Int) (a0_1 : ByteArray) (a0_2 : Int) : Option (Bool) := if a0_0 = 1 then ((spec_l1Name.f k a0_1).bind fun t170 => (if t170 = true then (some (a0_2 == 0)) else (some false))) else (if a0_0 = 2 then (spec_FrameOk.j0 k a0_0 (a0_0 == 2) a0_0 a0_1 a0_2) else (if a0_0 = 4 then (spec_FrameOk.j0 k a0_0 (a0_0 == 4) a0_0 a0_1 a0_2) else (spec_FrameOk.j0 k a0_0 (a0_0 == 6) a0_0 a0_1 a0_2)))
theorem spec_FrameOk.mono_l : ∀ k, (∀ y0 y1 y2 y3 y4, LeO (spec_FrameOk.j0 k y0 y1 y2 y3 y4) (spec_FrameOk.j0 (k + 1) y0 y1 y2 y3 y4))
 | 0 => fun _ _ _ _ _ r h => by simp [spec_FrameOk.j0] at h
 | k + 1 => by
  have ih0 := spec_FrameOk.mono_l k
  ·
   intro y0 y1 y2 y3 y4
   unfold spec_FrameOk.j0
   repeat' first
   | (with_reducible exact ih0 _ _ _ _ _)
   | (with_reducible exact spec_TextOk.mono _ _)
   | (with_reducible exact spec_l1Name.mono _ _)
   | (with_reducible exact LeO.refl _)
   | (with_reducible exact LeO.none _)
   | (with_reducible refine LeO.ite ?_ ?_)
   | (with_reducible refine LeO.bind ?_ (fun _ => ?_))
   | exact ih0 _ _ _ _ _
   | exact spec_TextOk.mono _ _
   | exact spec_l1Name.mono _ _
   | exact LeO.none _
   | refine LeO.ite ?_ ?_
   | refine LeO.bind ?_ (fun _ => ?_)
theorem spec_FrameOk.mono : ∀ a0 a1 a2 k, LeO (spec_FrameOk.f k a0 a1 a2) (spec_FrameOk.f (k + 1) a0 a1 a2) := by
 intro a0 a1 a2 k
 have ih0 := spec_FrameOk.mono_l k
 unfold spec_FrameOk.f
 repeat' first
   | (with_reducible exact ih0 _ _ _ _ _)
   | (with_reducible exact spec_TextOk.mono _ _)
   | (with_reducible exact spec_l1Name.mono _ _)
   | (with_reducible exact LeO.refl _)
   | (with_reducible exact LeO.none _)
   | (with_reducible refine LeO.ite ?_ ?_)
   | (with_reducible refine LeO.bind ?_ (fun _ => ?_))
   | exact ih0 _ _ _ _ _
   | exact spec_TextOk.mono _ _
   | exact spec_l1Name.mono _ _
   | exact LeO.none _
   | refine LeO.ite ?_ ?_
   | refine LeO.bind ?_ (fun _ => ?_)
set_option maxHeartbeats 8000000 in
set_option maxRecDepth 100000 in
theorem spec_FrameOk.calls (k : Nat) (a0_0 : Int) (a0_1 : ByteArray) (a0_2 : Int) (r : Bool) (w : World) (h : spec_FrameOk.f k a0_0 a0_1 a0_2 = some r) :
  Calls Try.prog 140 #[.agg #[.int .i64 a0_0, .string a0_1, .int .i64 a0_2]] w fun e w' => e = .returned (.bool r) ∧ Below w.heap.size w w' := by
 have hu32 := Try.underlying32
 have HB := Aside0.mk (Below.refl w.heap.size w)
 have H : (if a0_0 = 1 then ((spec_l1Name.f k a0_1).bind fun t170 => (if t170 = true then (some (a0_2 == 0)) else (some false))) else (if a0_0 = 2 then (spec_FrameOk.j0 k a0_0 (a0_0 == 2) a0_0 a0_1 a0_2) else (if a0_0 = 4 then (spec_FrameOk.j0 k a0_0 (a0_0 == 4) a0_0 a0_1 a0_2) else (spec_FrameOk.j0 k a0_0 (a0_0 == 6) a0_0 a0_1 a0_2)))) = some r := h
 clear h
 have HC2 := Aside0.mk H
 clear H
 go_enter Try.func140, Try.ntmps140
 go_upto_if 5 with (first | ((with_reducible refine gate_dst (N := 1) rfl ?_); refine box_event ?hg (N := 1) ?hd (cs := #[.int .i64 a0_0, .string a0_1, .int .i64 a0_2]) (t := 32) ?hr ?_; (case hd => rfl); (case hg => rfl); (case hr => first | (go_simp; done) | (go_simp; rfl)); intro gb169 hg w3 hbox hb; have BK169 := am_ (hbox); have GW169 := am_ ((gG_ hg (qB HB))); have IGW169 := gI_ GW169; have GE169 := am_ ((gG_ hg (qB HB))); have IGE169 := gI_ GE169; replace HB := am_ (below_step (qB HB) hb); clear hb hbox hg; obtain ⟨hcz4_0, hcz4_1, hcz4_2⟩ := cz3 BK169.out; obtain ⟨hfz4_0, hfz4_1, hfz4_2⟩ := fz3 BK169.out))
 (try simp only [Act.put, List.setIfInBounds_toArray, List.set_cons_zero, List.set_cons_succ])
 have H := HC2.out
 clear HC2
 by_cases c5 : a0_0 = 1
 ·
  rw [if_pos c5] at H
  have c5b0 : (a0_0 == 1) = true := beq_iff_eq.mpr c5
  have c5b1 : (a0_0 != 1) = false := bne_eq_false_iff_eq.mpr c5
  clear c5
  (first | rw [c5b0] | (simp only [i64_w, i32_w]; rw [c5b0]) | skip)
  replace H := Option.bind_eq_some_iff.mp H
  obtain ⟨t170, A60, H⟩ := H
  replace H : (if t170 = true then (some (a0_2 == 0)) else (some false)) = some r := H
  have A6 := Aside0.mk A60
  clear A60
  by_cases c7 : t170 = true
  ·
   subst c7
   have H1 : (some (a0_2 == 0)) = some r := by rw [if_pos rfl] at H; exact H
   clear H
   have H := H1
   clear H1
   obtain rfl := Option.some.inj H
   obtain ⟨hcz8_0, hcz8_1, hcz8_2⟩ := cz3 BK169.out
   obtain ⟨hfz8_0, hfz8_1, hfz8_2⟩ := fz3 BK169.out
   go_wp2_with (first | ((with_reducible refine gate_callee (f := 144) rfl ?_); refine goesL_ (some 9) rfl rfl Try.func144 (by kernel_rfl) rfl #[.string a0_1] rfl (by (try simp only [List.map_toArray, List.map_cons, List.map_nil]); first | done | rfl | (simp only [List.length_drop, List.length_take]; rfl)) ?_; (with_reducible refine (spec_l1Name.calls k a0_1 true _ A6.out).mono ?_); rintro e w' ⟨rfl, ⟨nd, rfl⟩⟩; refine ⟨_, rfl, ?_⟩))
   go_ret
   exact ⟨by first | rfl | (simp [errW_none, errW_some] <;> rfl) | (simp [*, errW_none, errW_some] <;> rfl), qB HB⟩
  ·
   replace c7 := Bool.eq_false_iff.mpr c7
   subst c7
   have H1 : (some false) = some r := by rw [if_neg (show ¬ (false = true) by decide)] at H; exact H
   clear H
   have H := H1
   clear H1
   obtain rfl := Option.some.inj H
   obtain ⟨hcz9_0, hcz9_1, hcz9_2⟩ := cz3 BK169.out
   obtain ⟨hfz9_0, hfz9_1, hfz9_2⟩ := fz3 BK169.out
   go_wp2_with (first | ((with_reducible refine gate_callee (f := 144) rfl ?_); refine goesL_ (some 9) rfl rfl Try.func144 (by kernel_rfl) rfl #[.string a0_1] rfl (by (try simp only [List.map_toArray, List.map_cons, List.map_nil]); first | done | rfl | (simp only [List.length_drop, List.length_take]; rfl)) ?_; (with_reducible refine (spec_l1Name.calls k a0_1 false _ A6.out).mono ?_); rintro e w' ⟨rfl, ⟨nd, rfl⟩⟩; refine ⟨_, rfl, ?_⟩))
   go_ret
   exact ⟨by first | rfl | (simp [errW_none, errW_some] <;> rfl) | (simp [*, errW_none, errW_some] <;> rfl), qB HB⟩
 ·
  rw [if_neg c5] at H
  have c5b0 : (a0_0 == 1) = false := beq_eq_false_iff_ne.mpr c5
  have c5b1 : (a0_0 != 1) = true := bne_iff_ne.mpr c5
  (first | rw [c5b0] | (simp only [i64_w, i32_w]; rw [c5b0]) | skip)
  have HC10 := Aside0.mk H
  clear H
  go_upto_if 15 with (fail)
  go_cut [15] (fun v15 wc => ∃ (kq : Nat) (x15_9 : Bool), v15 = .bool x15_9 ∧ Aside0 (spec_FrameOk.j0 kq a0_0 x15_9 a0_0 a0_1 a0_2 = some r) ∧ Aside0 (kq ≤ k) ∧ Aside0 (wc.heap[gb169]? = some (.cells #[.int .i64 a0_0, .string a0_1, .int .i64 a0_2] 32 (0, 0))) ∧ Aside0 (Below w.heap.size w wc))
  case first =>
   have H := HC10.out
   clear HC10
   by_cases c11 : a0_0 = 2
   ·
    rw [if_pos c11] at H
    have c11b0 : (a0_0 == 2) = true := beq_iff_eq.mpr c11
    have c11b1 : (a0_0 != 2) = false := bne_eq_false_iff_eq.mpr c11
    clear c11
    (first | rw [c11b0] | (simp only [i64_w, i32_w]; rw [c11b0]) | skip)
    have H' := Aside0.mk H
    clear H
    go_wp2
    go_meet
    case rel => exact ⟨_, ((a0_0 == 2)), (by first | rfl | (simp; done) | (simp [*]; done) | (simp [Go.Proofs.YtahfemlfdpbkkaaV.bne_nil, Go.Proofs.YtahfemlfdpbkkaaV.beq_nil]; done)), H', ⟨by first | omega | exact Nat.le_refl _⟩, ⟨qK BK169⟩, ⟨qB HB⟩⟩
   ·
    rw [if_neg c11] at H
    have c11b0 : (a0_0 == 2) = false := beq_eq_false_iff_ne.mpr c11
    have c11b1 : (a0_0 != 2) = true := bne_iff_ne.mpr c11
    (first | rw [c11b0] | (simp only [i64_w, i32_w]; rw [c11b0]) | skip)
    by_cases c12 : a0_0 = 4
    ·
     rw [if_pos c12] at H
     have c12b0 : (a0_0 == 4) = true := beq_iff_eq.mpr c12
     have c12b1 : (a0_0 != 4) = false := bne_eq_false_iff_eq.mpr c12
     clear c12
     have H' := Aside0.mk H
     clear H
     go_wp2
     go_meet
     case rel => exact ⟨_, ((a0_0 == 4)), (by first | rfl | (simp; done) | (simp [*]; done) | (simp [Go.Proofs.YtahfemlfdpbkkaaV.bne_nil, Go.Proofs.YtahfemlfdpbkkaaV.beq_nil]; done)), H', ⟨by first | omega | exact Nat.le_refl _⟩, ⟨qK BK169⟩, ⟨qB HB⟩⟩
    ·
     rw [if_neg c12] at H
     have c12b0 : (a0_0 == 4) = false := beq_eq_false_iff_ne.mpr c12
     have c12b1 : (a0_0 != 4) = true := bne_iff_ne.mpr c12
     have H' := Aside0.mk H
     clear H
     go_wp2
     go_meet
     case rel => exact ⟨_, ((a0_0 == 6)), (by first | rfl | (simp; done) | (simp [*]; done) | (simp [Go.Proofs.YtahfemlfdpbkkaaV.bne_nil, Go.Proofs.YtahfemlfdpbkkaaV.beq_nil]; done)), H', ⟨by first | omega | exact Nat.le_refl _⟩, ⟨qK BK169⟩, ⟨qB HB⟩⟩
  case rest =>
   clear HC10
   try clear c1
   try clear p2
   try clear c5
   try clear c5b0
   try clear c5b1
   try clear c7
   try clear c11
   try clear c11b0
   try clear c11b1
   try clear c12
   try clear c12b0
   try clear c12b1
   (try clear hcz4_0 hcz4_1 hcz4_2)
   (try clear hcz8_0 hcz8_1 hcz8_2)
   (try clear hcz9_0 hcz9_1 hcz9_2)
   (try clear hfz4_0 hfz4_1 hfz4_2)
   (try clear hfz8_0 hfz8_1 hfz8_2)
   (try clear hfz9_0 hfz9_1 hfz9_2)
   obtain ⟨kq, x15_9, rfl, HA, HJ9, BK169, HB⟩ := hcut
   cases kq with
   | zero => exact absurd HA.out (by simp [spec_FrameOk.j0])
   | succ kj9 =>
    have H := HA.out
    clear HA
    simp only [spec_FrameOk.j0] at H
    by_cases c13 : x15_9 = true
    ·
     subst c13
     have H1 : ((spec_TextOk.f kj9 a0_1).bind fun t171 => (if t171 = true then (some (a0_2 == 0)) else (some false))) = some r := by rw [if_pos rfl] at H; exact H
     clear H
     have H := H1
     clear H1
     replace H := Option.bind_eq_some_iff.mp H
     obtain ⟨t171, A140, H⟩ := H
     replace H : (if t171 = true then (some (a0_2 == 0)) else (some false)) = some r := H
     have A14 := Aside0.mk A140
     clear A140
     by_cases c15 : t171 = true
     ·
      subst c15
      have H1 : (some (a0_2 == 0)) = some r := by rw [if_pos rfl] at H; exact H
      clear H
      have H := H1
      clear H1
      obtain rfl := Option.some.inj H
      obtain ⟨hcz16_0, hcz16_1, hcz16_2⟩ := cz3 BK169.out
      obtain ⟨hfz16_0, hfz16_1, hfz16_2⟩ := fz3 BK169.out
      go_wp2_with (first | ((with_reducible refine gate_callee (f := 145) rfl ?_); refine goesL_ (some 21) rfl rfl Try.func145 (by kernel_rfl) rfl #[.string a0_1] rfl (by (try simp only [List.map_toArray, List.map_cons, List.map_nil]); first | done | rfl | (simp only [List.length_drop, List.length_take]; rfl)) ?_; (with_reducible refine (spec_TextOk.calls kj9 a0_1 true _ A14.out).mono ?_); rintro e w' ⟨rfl, ⟨nd, rfl⟩⟩; refine ⟨_, rfl, ?_⟩))
      go_ret
      exact ⟨by first | rfl | (simp [errW_none, errW_some] <;> rfl) | (simp [*, errW_none, errW_some] <;> rfl), qB HB⟩
     ·
      replace c15 := Bool.eq_false_iff.mpr c15
      subst c15
      have H1 : (some false) = some r := by rw [if_neg (show ¬ (false = true) by decide)] at H; exact H
      clear H
      have H := H1
      clear H1
      obtain rfl := Option.some.inj H
      obtain ⟨hcz17_0, hcz17_1, hcz17_2⟩ := cz3 BK169.out
      obtain ⟨hfz17_0, hfz17_1, hfz17_2⟩ := fz3 BK169.out
      go_wp2_with (first | ((with_reducible refine gate_callee (f := 145) rfl ?_); refine goesL_ (some 21) rfl rfl Try.func145 (by kernel_rfl) rfl #[.string a0_1] rfl (by (try simp only [List.map_toArray, List.map_cons, List.map_nil]); first | done | rfl | (simp only [List.length_drop, List.length_take]; rfl)) ?_; (with_reducible refine (spec_TextOk.calls kj9 a0_1 false _ A14.out).mono ?_); rintro e w' ⟨rfl, ⟨nd, rfl⟩⟩; refine ⟨_, rfl, ?_⟩))
      go_ret
      exact ⟨by first | rfl | (simp [errW_none, errW_some] <;> rfl) | (simp [*, errW_none, errW_some] <;> rfl), qB HB⟩
    ·
     replace c13 := Bool.eq_false_iff.mpr c13
     subst c13
     have H1 : (if a0_0 = 5 then (if a0_1.toList = ([] : List UInt8) then ((spec_l1In.f a0_2 0 2).bind fun t172 => (some t172)) else (some false)) else (if a0_0 = 3 then (if a0_1.toList = ([] : List UInt8) then (some (a0_2 == 0)) else (some false)) else (some false))) = some r := by rw [if_neg (show ¬ (false = true) by decide)] at H; exact H
     clear H
     have H := H1
     clear H1
     by_cases c18 : a0_0 = 5
     ·
      rw [if_pos c18] at H
      have c18b0 : (a0_0 == 5) = true := beq_iff_eq.mpr c18
      have c18b1 : (a0_0 != 5) = false := bne_eq_false_iff_eq.mpr c18
      clear c18
      by_cases c19 : a0_1.toList = ([] : List UInt8)
      ·
       rw [if_pos c19] at H
       have c19b0 : (a0_1.toList == ([] : List UInt8)) = true := beq_iff_eq.mpr c19
       (try (have c19b0e := c19b0; simp only [Go.Proofs.YtahfemlfdpbkkaaV.beq_nil, Go.Proofs.YtahfemlfdpbkkaaV.bne_nil] at c19b0e))
       have c19b1 : (a0_1.toList != ([] : List UInt8)) = false := bne_eq_false_iff_eq.mpr c19
       clear c19
       replace H := Option.bind_eq_some_iff.mp H
       obtain ⟨t172, A200, H⟩ := H
       replace H : (some t172) = some r := H
       have A20 := Aside0.mk A200
       clear A200
       obtain rfl := Option.some.inj H
       obtain ⟨hcz21_0, hcz21_1, hcz21_2⟩ := cz3 BK169.out
       obtain ⟨hfz21_0, hfz21_1, hfz21_2⟩ := fz3 BK169.out
       go_wp2_with (first | (go_at_call 110; (with_reducible refine (spec_l1In.calls a0_2 0 2 t172 _ A20.out).mono ?_); rintro e w' ⟨rfl, ⟨nd, rfl⟩⟩))
       go_ret
       exact ⟨by first | rfl | (simp [errW_none, errW_some] <;> rfl) | (simp [*, errW_none, errW_some] <;> rfl), qB HB⟩
      ·
       rw [if_neg c19] at H
       have c19b0 : (a0_1.toList == ([] : List UInt8)) = false := beq_eq_false_iff_ne.mpr c19
       (try (have c19b0e := c19b0; simp only [Go.Proofs.YtahfemlfdpbkkaaV.beq_nil, Go.Proofs.YtahfemlfdpbkkaaV.bne_nil] at c19b0e))
       have c19b1 : (a0_1.toList != ([] : List UInt8)) = true := bne_iff_ne.mpr c19
       obtain rfl := Option.some.inj H
       obtain ⟨hcz22_0, hcz22_1, hcz22_2⟩ := cz3 BK169.out
       obtain ⟨hfz22_0, hfz22_1, hfz22_2⟩ := fz3 BK169.out
       go_wp2
       go_ret
       exact ⟨by first | rfl | (simp [errW_none, errW_some] <;> rfl) | (simp [*, errW_none, errW_some] <;> rfl), qB HB⟩
     ·
      rw [if_neg c18] at H
      have c18b0 : (a0_0 == 5) = false := beq_eq_false_iff_ne.mpr c18
      have c18b1 : (a0_0 != 5) = true := bne_iff_ne.mpr c18
      by_cases c23 : a0_0 = 3
      ·
       rw [if_pos c23] at H
       have c23b0 : (a0_0 == 3) = true := beq_iff_eq.mpr c23
       have c23b1 : (a0_0 != 3) = false := bne_eq_false_iff_eq.mpr c23
       clear c23
       by_cases c24 : a0_1.toList = ([] : List UInt8)
       ·
        rw [if_pos c24] at H
        have c24b0 : (a0_1.toList == ([] : List UInt8)) = true := beq_iff_eq.mpr c24
        (try (have c24b0e := c24b0; simp only [Go.Proofs.YtahfemlfdpbkkaaV.beq_nil, Go.Proofs.YtahfemlfdpbkkaaV.bne_nil] at c24b0e))
        have c24b1 : (a0_1.toList != ([] : List UInt8)) = false := bne_eq_false_iff_eq.mpr c24
        clear c24
        obtain rfl := Option.some.inj H
        obtain ⟨hcz25_0, hcz25_1, hcz25_2⟩ := cz3 BK169.out
        obtain ⟨hfz25_0, hfz25_1, hfz25_2⟩ := fz3 BK169.out
        go_wp2
        go_ret
        exact ⟨by first | rfl | (simp [errW_none, errW_some] <;> rfl) | (simp [*, errW_none, errW_some] <;> rfl), qB HB⟩
       ·
        rw [if_neg c24] at H
        have c24b0 : (a0_1.toList == ([] : List UInt8)) = false := beq_eq_false_iff_ne.mpr c24
        (try (have c24b0e := c24b0; simp only [Go.Proofs.YtahfemlfdpbkkaaV.beq_nil, Go.Proofs.YtahfemlfdpbkkaaV.bne_nil] at c24b0e))
        have c24b1 : (a0_1.toList != ([] : List UInt8)) = true := bne_iff_ne.mpr c24
        obtain rfl := Option.some.inj H
        obtain ⟨hcz26_0, hcz26_1, hcz26_2⟩ := cz3 BK169.out
        obtain ⟨hfz26_0, hfz26_1, hfz26_2⟩ := fz3 BK169.out
        go_wp2
        go_ret
        exact ⟨by first | rfl | (simp [errW_none, errW_some] <;> rfl) | (simp [*, errW_none, errW_some] <;> rfl), qB HB⟩
      ·
       rw [if_neg c23] at H
       have c23b0 : (a0_0 == 3) = false := beq_eq_false_iff_ne.mpr c23
       have c23b1 : (a0_0 != 3) = true := bne_iff_ne.mpr c23
       obtain rfl := Option.some.inj H
       obtain ⟨hcz27_0, hcz27_1, hcz27_2⟩ := cz3 BK169.out
       obtain ⟨hfz27_0, hfz27_1, hfz27_2⟩ := fz3 BK169.out
       go_wp2
       go_ret
       exact ⟨by first | rfl | (simp [errW_none, errW_some] <;> rfl) | (simp [*, errW_none, errW_some] <;> rfl), qB HB⟩

/-! ### spec_PutFrame: function 67 -/
def spec_PutFrame.f (k : Nat) (a0_0 : Int) (a0_1 : ByteArray) (a0_2 : Int) : Option (List Int) := (spec_FrameOk.f k a0_0 a0_1 a0_2).bind fun t174 => (if t174 = true then ((some (([(a0_0) % 256] : List Int) : List Int)).bind fun y178 => (if a0_0 = 5 then (if y178.length < 140737488355328 then (some (y178 ++ [(a0_2) % 256])) else (none)) else (if a0_0 = 3 then (some y178) else ((spec_PutText.f k y178 a0_1).bind fun t184 => (some t184))))) else (some (([] : List Int))))
theorem spec_PutFrame.mono : ∀ a0 a1 a2 k, LeO (spec_PutFrame.f k a0 a1 a2) (spec_PutFrame.f (k + 1) a0 a1 a2) := by
 intro a0 a1 a2 k
 unfold spec_PutFrame.f
 repeat' first
   | (with_reducible exact spec_FrameOk.mono _ _ _ _)
   | (with_reducible exact spec_PutText.mono _ _ _)
   | (with_reducible exact LeO.refl _)
   | (with_reducible exact LeO.none _)
   | (with_reducible refine LeO.ite ?_ ?_)
   | (with_reducible refine LeO.bind ?_ (fun _ => ?_))
   | exact spec_FrameOk.mono _ _ _ _
   | exact spec_PutText.mono _ _ _
   | exact LeO.none _
   | refine LeO.ite ?_ ?_
   | refine LeO.bind ?_ (fun _ => ?_)
set_option maxHeartbeats 8000000 in
set_option maxRecDepth 100000 in
theorem spec_PutFrame.calls (k : Nat) (a0_0 : Int) (a0_1 : ByteArray) (a0_2 : Int) (r : List Int) (w : World) (h : spec_PutFrame.f k a0_0 a0_1 a0_2 = some r) :
  Calls Try.prog 67 #[.agg #[.int .i64 a0_0, .string a0_1, .int .i64 a0_2]] w fun e w' => ∃ v0_ : Value, e = .returned (v0_) ∧ Kd.R (Kd.int .u8) 5 w' w.heap.size (fun _ => True) v0_ r ∧ Below w.heap.size w w' := by
 have hu32 := Try.underlying32
 have HB := Aside0.mk (Below.refl w.heap.size w)
 have H : ((spec_FrameOk.f k a0_0 a0_1 a0_2).bind fun t174 => (if t174 = true then ((some (([(a0_0) % 256] : List Int) : List Int)).bind fun y178 => (if a0_0 = 5 then (if y178.length < 140737488355328 then (some (y178 ++ [(a0_2) % 256])) else (none)) else (if a0_0 = 3 then (some y178) else ((spec_PutText.f k y178 a0_1).bind fun t184 => (some t184))))) else (some (([] : List Int))))) = some r := h
 clear h
 replace H := Option.bind_eq_some_iff.mp H
 obtain ⟨t174, A20, H⟩ := H
 replace H : (if t174 = true then ((some (([(a0_0) % 256] : List Int) : List Int)).bind fun y178 => (if a0_0 = 5 then (if y178.length < 140737488355328 then (some (y178 ++ [(a0_2) % 256])) else (none)) else (if a0_0 = 3 then (some y178) else ((spec_PutText.f k y178 a0_1).bind fun t184 => (some t184))))) else (some (([] : List Int)))) = some r := H
 have A2 := Aside0.mk A20
 clear A20
 have HC3 := Aside0.mk H
 clear H
 go_enter Try.func67, Try.ntmps67
 go_upto_if 6 with (first | ((with_reducible refine gate_dst (N := 1) rfl ?_); refine box_event ?hg (N := 1) ?hd (cs := #[.int .i64 a0_0, .string a0_1, .int .i64 a0_2]) (t := 32) ?hr ?_; (case hd => rfl); (case hg => rfl); (case hr => first | (go_simp; done) | (go_simp; rfl)); intro gb173 hg w4 hbox hb; have BK173 := am_ (hbox); have GW173 := am_ ((gG_ hg (qB HB))); have IGW173 := gI_ GW173; have GE173 := am_ ((gG_ hg (qB HB))); have IGE173 := gI_ GE173; replace HB := am_ (below_step (qB HB) hb); clear hb hbox hg; obtain ⟨hcz5_0, hcz5_1, hcz5_2⟩ := cz3 BK173.out; obtain ⟨hfz5_0, hfz5_1, hfz5_2⟩ := fz3 BK173.out) | ((with_reducible refine gate_callee (f := 140) rfl ?_); refine goesL_ (some 5) rfl rfl Try.func140 (by kernel_rfl) rfl #[.agg #[.int .i64 a0_0, .string a0_1, .int .i64 a0_2]] rfl (by (try simp only [List.map_toArray, List.map_cons, List.map_nil]); first | done | rfl | (simp only [List.length_drop, List.length_take]; rfl)) ?_; (with_reducible refine (spec_FrameOk.calls k a0_0 a0_1 a0_2 t174 _ A2.out).mono ?_); rintro e w6 ⟨rfl, hb⟩; refine ⟨_, rfl, ?_⟩; replace BK173 := am_ (blk_below (qK BK173) hb); replace HB := am_ (below_step (qB HB) hb); (try clear hb); (try clear hb2); (try clear hk); (try clear hi)))
 (try simp only [Act.put, List.setIfInBounds_toArray, List.set_cons_zero, List.set_cons_succ])
 have H := HC3.out
 clear HC3
 by_cases c7 : t174 = true
 ·
  subst c7
  have H1 : ((some (([(a0_0) % 256] : List Int) : List Int)).bind fun y178 => (if a0_0 = 5 then (if y178.length < 140737488355328 then (some (y178 ++ [(a0_2) % 256])) else (none)) else (if a0_0 = 3 then (some y178) else ((spec_PutText.f k y178 a0_1).bind fun t184 => (some t184))))) = some r := by rw [if_pos rfl] at H; exact H
  clear H
  have H := H1
  clear H1
  obtain ⟨y178, hy178⟩ : ∃ y_ : List Int, y_ = (([(a0_0) % 256] : List Int)) := ⟨_, rfl⟩
  replace H : (if a0_0 = 5 then (if y178.length < 140737488355328 then (some (y178 ++ [(a0_2) % 256])) else (none)) else (if a0_0 = 3 then (some y178) else ((spec_PutText.f k y178 a0_1).bind fun t184 => (some t184)))) = some r := by first | (rw [hy178]; with_reducible exact H) | (have H2_ := (Option.bind_some _ _).symm.trans H; rw [hy178]; with_reducible exact H2_) | (have H2_ := (Option.bind_some _ _).symm.trans H; with_reducible exact H2_) | with_reducible exact H | (rw [hy178]; exact H) | exact H
  have Ny178 := Aside0.mk hy178
  clear hy178
  have HC8 := Aside0.mk H
  clear H
  obtain ⟨hcz9_0, hcz9_1, hcz9_2⟩ := cz3 BK173.out
  obtain ⟨hfz9_0, hfz9_1, hfz9_2⟩ := fz3 BK173.out
  go_upto_if 14 with (first | ((with_reducible refine gate_dst (N := 11) rfl ?_); refine Kd.R_lit (Kd.int .u8) _ 5 ?hg (N := 11) ?hd (xs := ([(a0_0) % 256] : List Int)) (inner := [.int .u8 ((a0_0) % 256)]) (ok := fun _ => True) (okp := fun _ => True) ?hr ?hp (fun _ hk => hk) trivial (Below.refl _ _) (Nat.le_refl _) (by simp) ?_; (case hd => rfl); (case hg => rfl); (case hr => first | (go_simp; done) | (go_simp; rfl)); (case hp => exact (Reps.one (show Kd.M (Kd.int .u8) _ _ _ ((a0_0) % 256) [.int .u8 ((a0_0) % 256)] from rfl) (Reps.none _ _))); intro v179 w10 ho11 hb hg_ hnew_; clear hg_ hnew_; (first | rw [← Ny178.out] at ho11 | (simp only [Int.reduceToNat] at ho11; rw [← Ny178.out] at ho11)); have HO180 := am_ (Kd.R_lower ho11 (below_size (qB HB))); replace BK173 := am_ (blk_below (qK BK173) hb); replace HB := am_ (below_step (qB HB) hb); clear hb ho11; obtain ⟨hcz12_0, hcz12_1, hcz12_2⟩ := cz3 BK173.out; obtain ⟨hfz12_0, hfz12_1, hfz12_2⟩ := fz3 BK173.out))
  (try simp only [Act.put, List.setIfInBounds_toArray, List.set_cons_zero, List.set_cons_succ])
  have H := HC8.out
  clear HC8
  by_cases c13 : a0_0 = 5
  ·
   rw [if_pos c13] at H
   have c13b0 : (a0_0 == 5) = true := beq_iff_eq.mpr c13
   have c13b1 : (a0_0 != 5) = false := bne_eq_false_iff_eq.mpr c13
   clear c13
   (first | rw [c13b0] | (simp only [i64_w, i32_w]; rw [c13b0]) | skip)
   by_cases c14 : y178.length < 140737488355328
   ·
    rw [if_pos c14] at H
    have LMc14 := Aside0.mk c14
    clear c14
    obtain ⟨y181, hy181⟩ : ∃ y_ : List Int, y_ = (y178 ++ [(a0_2) % 256]) := ⟨_, rfl⟩
    replace H : (some y181) = some r := by first | (rw [hy181]; with_reducible exact H) | (have H2_ := (Option.bind_some _ _).symm.trans H; rw [hy181]; with_reducible exact H2_) | (have H2_ := (Option.bind_some _ _).symm.trans H; with_reducible exact H2_) | with_reducible exact H | (rw [hy181]; exact H) | exact H
    have Ny181 := Aside0.mk hy181
    clear hy181
    obtain rfl := Option.some.inj H
    obtain ⟨hcz15_0, hcz15_1, hcz15_2⟩ := cz3 BK173.out
    obtain ⟨hfz15_0, hfz15_1, hfz15_2⟩ := fz3 BK173.out
    go_wp2_with (first | ((with_reducible refine gate_builtin (b := .append) (xs := #[.tmp 16, .tmp 20]) rfl ?_); at_builtin; refine Kd.R_append (Kd.int .u8) (w0 := w) w.heap.size rfl (.tmp 16) (.tmp 20) 22 5 (.int .u8 0) 1 rfl Try.underlying22 info5 rfl (by decide) (by omega) v179 y178 ((a0_2) % 256) [.int .u8 ((a0_2) % 256)] (fun _ => True) (fun _ => False) rfl rfl ?aP (fun _ hk => hk.elim) ?aF ?aO ?aB ?aS ?aL ?_; (case aP => exact rfl); (case aB => exact (qB HB)); (case aF => exact (fun _ _ => trivial)); (case aO => exact (qR HO180)); (case aS => exact (below_size (qB HB))); (case aL => have := LMc14.out; omega); intro v182 w16 ho hb hg hat; rw [← Ny181.out] at ho; replace BK173 := am_ (blk_grown (qK BK173) hg (Kd.R_ne HO180.out BK173.out (by decide))); replace HB := am_ (hb); have HO183 := am_ (ho); clear HO180; clear ho hb hg hat))
    go_ret
    exact ⟨_, by first | rfl | (simp [errW_none, errW_some] <;> rfl) | (simp [*, errW_none, errW_some] <;> rfl), qR HO183, qB HB⟩
   ·
    rw [if_neg c14] at H
    exact absurd H (by simp)
  ·
   rw [if_neg c13] at H
   have c13b0 : (a0_0 == 5) = false := beq_eq_false_iff_ne.mpr c13
   have c13b1 : (a0_0 != 5) = true := bne_iff_ne.mpr c13
   (first | rw [c13b0] | (simp only [i64_w, i32_w]; rw [c13b0]) | skip)
   by_cases c17 : a0_0 = 3
   ·
    rw [if_pos c17] at H
    have c17b0 : (a0_0 == 3) = true := beq_iff_eq.mpr c17
    have c17b1 : (a0_0 != 3) = false := bne_eq_false_iff_eq.mpr c17
    clear c17
    obtain rfl := Option.some.inj H
    go_wp2
    go_ret
    exact ⟨_, by first | rfl | (simp [errW_none, errW_some] <;> rfl) | (simp [*, errW_none, errW_some] <;> rfl), qR HO180, qB HB⟩
   ·
    rw [if_neg c17] at H
    have c17b0 : (a0_0 == 3) = false := beq_eq_false_iff_ne.mpr c17
    have c17b1 : (a0_0 != 3) = true := bne_iff_ne.mpr c17
    replace H := Option.bind_eq_some_iff.mp H
    obtain ⟨t184, A180, H⟩ := H
    replace H : (some t184) = some r := H
    have A18 := Aside0.mk A180
    clear A180
    obtain rfl := Option.some.inj H
    obtain ⟨hcz19_0, hcz19_1, hcz19_2⟩ := cz3 BK173.out
    obtain ⟨hfz19_0, hfz19_1, hfz19_2⟩ := fz3 BK173.out
    obtain ⟨Ao20, co20, eo20⟩ := Kd.R_slice HO180.out
    subst eo20
    go_wp2_with (first | ((with_reducible refine gate_callee (f := 74) rfl ?_); refine goesL_ (some 28) rfl rfl Try.func74 (by kernel_rfl) rfl #[.slice Ao20 y178.length co20, .string a0_1] rfl (by (try simp only [List.map_toArray, List.map_cons, List.map_nil]); first | done | rfl | (simp only [List.length_drop, List.length_take]; rfl)) ?_; (with_reducible refine (spec_PutText.calls k _ _ y178 a0_1 t184 _ ?side1 ?side2 A18.out).mono ?_); (case side1 => exact qC ((Kd.R_reads' HO180.out).2.2)); (case side2 => exact (Kd.R_reads' HO180.out).2.1); rintro e w21 ⟨v185, rfl, ho0, hb⟩; refine ⟨_, rfl, ?_⟩; have HO186 := am_ (Kd.R_lower (Kd.R_new' ho0 (Kd.R_lt (qR HO180))) (below_size (qB HB))); replace HO180 := am_ (Kd.R_elder' (qR HO180) (Kd.R_base ho0) hb); replace BK173 := am_ (blk_below (qK BK173) hb); replace HB := am_ (below_step (qB HB) hb); (try clear hb); (try clear hb2); (try clear hk); (try clear hi); (try clear ho0)))
    go_ret
    exact ⟨_, by first | rfl | (simp [errW_none, errW_some] <;> rfl) | (simp [*, errW_none, errW_some] <;> rfl), by (with_reducible repeat (first | apply Kd.R_alloc | apply Kd.R_drewN | apply Kd.R_drew)); exact Kd.R_mono HO186.out (fun _ hk => trivial), qB HB⟩
 ·
  replace c7 := Bool.eq_false_iff.mpr c7
  subst c7
  have H1 : (some (([] : List Int))) = some r := by rw [if_neg (show ¬ (false = true) by decide)] at H; exact H
  clear H
  have H := H1
  clear H1
  obtain ⟨y175, hy175⟩ : ∃ y_ : List Int, y_ = (([] : List Int)) := ⟨_, rfl⟩
  replace H : (some y175) = some r := by first | (rw [hy175]; with_reducible exact H) | (have H2_ := (Option.bind_some _ _).symm.trans H; rw [hy175]; with_reducible exact H2_) | (have H2_ := (Option.bind_some _ _).symm.trans H; with_reducible exact H2_) | with_reducible exact H | (rw [hy175]; exact H) | exact H
  have Ny175 := Aside0.mk hy175
  clear hy175
  obtain rfl := Option.some.inj H
  go_wp2_with (first | ((with_reducible refine gate_dst (N := 7) rfl ?_); refine Kd.R_lit (Kd.int .u8) _ 5 ?hg (N := 7) ?hd (xs := ([] : List Int)) (inner := []) (ok := fun _ => True) (okp := fun _ => True) ?hr ?hp (fun _ hk => hk) trivial (Below.refl _ _) (Nat.le_refl _) (by simp) ?_; (case hd => rfl); (case hg => rfl); (case hr => first | (go_simp; done) | (go_simp; rfl)); (case hp => exact (Reps.none _ _)); intro v176 w22 ho23 hb hg_ hnew_; clear hg_ hnew_; (first | rw [← Ny175.out] at ho23 | (simp only [Int.reduceToNat] at ho23; rw [← Ny175.out] at ho23)); have HO177 := am_ (Kd.R_lower ho23 (below_size (qB HB))); replace BK173 := am_ (blk_below (qK BK173) hb); replace HB := am_ (below_step (qB HB) hb); clear hb ho23))
  go_ret
  exact ⟨_, by first | rfl | (simp [errW_none, errW_some] <;> rfl) | (simp [*, errW_none, errW_some] <;> rfl), qR HO177, qB HB⟩

end Go.Proofs.Ytahfemlfdpbkkaa.PFnExactAnswer
