-- Written by a program of this session (myprint.py, over the kit's print): contracts of FnExactTell
import Derived.Test.YtahfemlfdpbkkaaPFnExactTellx0
import Derived.Test.YtahfemlfdpbkkaaPFnExactTellx1
import Derived.Test.YtahfemlfdpbkkaaPFnExactTellx4
import Derived.Test.YtahfemlfdpbkkaaPFnExactTellx5
namespace Go.Proofs.Ytahfemlfdpbkkaa.PFnExactTell
open Go.RowKit Go.Proofs.YtahfemlfdpbkkaaW.PrintWords Go.Proofs.YtahfemlfdpbkkaaW.PrintLast Go.Proofs.YtahfemlfdpbkkaaW.PrintMore Go.Proofs.YtahfemlfdpbkkaaV
attribute [local go_sem] max2_int min2_int max_two min_two max_three min_three max_four min_four   -- for this text's walks alone
set_option linter.unusedVariables false
set_option linter.unusedSimpArgs false

attribute [local go_sem high] eqA32
/-! ### impl_FrameOk: function 143 -/
def impl_FrameOk.j0 : Nat → Int → Bool → Int → ByteArray → Int → Option (Bool)
 | 0, _, _, _, _, _ => none
 | k + 1, x4, x15, x230000, x230001, x230002 => if x15 = true then ((impl_TextOk.f k x230001).bind fun t231 => (if t231 = true then (some (x230002 == 0)) else (some false))) else (if x4 = 5 then (if x230001.toList = ([] : List UInt8) then ((impl_isIn.f x230002 0 2).bind fun t232 => (some t232)) else (some false)) else (if x4 = 3 then (some (x230000 == 3 && (x230001.toList == ([] : List UInt8) && (x230002 == 0)))) else (some false)))
def impl_FrameOk.f (k : Nat) (a0_0 : Int) (a0_1 : ByteArray) (a0_2 : Int) : Option (Bool) := if a0_0 = 1 then ((impl_nameOk.f k a0_1).bind fun t230 => (if t230 = true then (some (a0_2 == 0)) else (some false))) else (if a0_0 = 2 then (impl_FrameOk.j0 k a0_0 (a0_0 == 2) a0_0 a0_1 a0_2) else (if a0_0 = 4 then (impl_FrameOk.j0 k a0_0 (a0_0 == 4) a0_0 a0_1 a0_2) else (impl_FrameOk.j0 k a0_0 (a0_0 == 6) a0_0 a0_1 a0_2)))
theorem impl_FrameOk.mono_l : ∀ k, (∀ y0 y1 y2 y3 y4, LeO (impl_FrameOk.j0 k y0 y1 y2 y3 y4) (impl_FrameOk.j0 (k + 1) y0 y1 y2 y3 y4))
 | 0 => fun _ _ _ _ _ r h => by simp [impl_FrameOk.j0] at h
 | k + 1 => by
  have ih0 := impl_FrameOk.mono_l k
  ·
   intro y0 y1 y2 y3 y4
   unfold impl_FrameOk.j0
   repeat' first
   | (with_reducible exact ih0 _ _ _ _ _)
   | (with_reducible exact impl_TextOk.mono _ _)
   | (with_reducible exact impl_nameOk.mono _ _)
   | (with_reducible exact LeO.refl _)
   | (with_reducible exact LeO.none _)
   | (with_reducible refine LeO.ite ?_ ?_)
   | (with_reducible refine LeO.bind ?_ (fun _ => ?_))
   | exact ih0 _ _ _ _ _
   | exact impl_TextOk.mono _ _
   | exact impl_nameOk.mono _ _
   | exact LeO.none _
   | refine LeO.ite ?_ ?_
   | refine LeO.bind ?_ (fun _ => ?_)
theorem impl_FrameOk.mono : ∀ a0 a1 a2 k, LeO (impl_FrameOk.f k a0 a1 a2) (impl_FrameOk.f (k + 1) a0 a1 a2) := by
 intro a0 a1 a2 k
 have ih0 := impl_FrameOk.mono_l k
 unfold impl_FrameOk.f
 repeat' first
   | (with_reducible exact ih0 _ _ _ _ _)
   | (with_reducible exact impl_TextOk.mono _ _)
   | (with_reducible exact impl_nameOk.mono _ _)
   | (with_reducible exact LeO.refl _)
   | (with_reducible exact LeO.none _)
   | (with_reducible refine LeO.ite ?_ ?_)
   | (with_reducible refine LeO.bind ?_ (fun _ => ?_))
   | exact ih0 _ _ _ _ _
   | exact impl_TextOk.mono _ _
   | exact impl_nameOk.mono _ _
   | exact LeO.none _
   | refine LeO.ite ?_ ?_
   | refine LeO.bind ?_ (fun _ => ?_)
set_option maxHeartbeats 8000000 in
set_option maxRecDepth 100000 in
theorem impl_FrameOk.calls (k : Nat) (a0_0 : Int) (a0_1 : ByteArray) (a0_2 : Int) (r : Bool) (w : World) (h : impl_FrameOk.f k a0_0 a0_1 a0_2 = some r) :
  Calls Try.prog 143 #[.agg #[.int .i64 a0_0, .string a0_1, .int .i64 a0_2]] w fun e w' => e = .returned (.bool r) ∧ Below w.heap.size w w' := by
 have hu32 := Try.underlying32
 have HB := Aside0.mk (Below.refl w.heap.size w)
 have H : (if a0_0 = 1 then ((impl_nameOk.f k a0_1).bind fun t230 => (if t230 = true then (some (a0_2 == 0)) else (some false))) else (if a0_0 = 2 then (impl_FrameOk.j0 k a0_0 (a0_0 == 2) a0_0 a0_1 a0_2) else (if a0_0 = 4 then (impl_FrameOk.j0 k a0_0 (a0_0 == 4) a0_0 a0_1 a0_2) else (impl_FrameOk.j0 k a0_0 (a0_0 == 6) a0_0 a0_1 a0_2)))) = some r := h
 clear h
 have HC2 := Aside0.mk H
 clear H
 go_enter Try.func143, Try.ntmps143
 go_upto_if 5 with (first | ((with_reducible refine gate_dst (N := 1) rfl ?_); refine box_event ?hg (N := 1) ?hd (cs := #[.int .i64 a0_0, .string a0_1, .int .i64 a0_2]) (t := 32) ?hr ?_; (case hd => rfl); (case hg => rfl); (case hr => first | (go_simp; done) | (go_simp; rfl)); intro gb229 hg w3 hbox hb; have BK229 := am_ (hbox); have GW229 := am_ ((gG_ hg (qB HB))); have IGW229 := gI_ GW229; have GE229 := am_ ((gG_ hg (qB HB))); have IGE229 := gI_ GE229; replace HB := am_ (below_step (qB HB) hb); clear hb hbox hg; obtain ⟨hcz4_0, hcz4_1, hcz4_2⟩ := cz3 BK229.out; obtain ⟨hfz4_0, hfz4_1, hfz4_2⟩ := fz3 BK229.out))
 (try simp only [Act.put, List.setIfInBounds_toArray, List.set_cons_zero, List.set_cons_succ])
 have H := HC2.out
 clear HC2
 by_cases c5 : a0_0 = 1
 ·
  rw [if_pos c5] at H
  have c5b0 : (a0_0 == 1) = true := beq_iff_eq.mpr c5
  have c5b1 : (a0_0 != 1) = false := bne_eq_false_iff_eq.mpr c5
  clear c5
  (first | rw [c5b0] | (simp only [i64_w, i32_w]; rw [c5b0]) | skip)
  replace H := Option.bind_eq_some_iff.mp H
  obtain ⟨t230, A60, H⟩ := H
  replace H : (if t230 = true then (some (a0_2 == 0)) else (some false)) = some r := H
  have A6 := Aside0.mk A60
  clear A60
  by_cases c7 : t230 = true
  ·
   subst c7
   have H1 : (some (a0_2 == 0)) = some r := by rw [if_pos rfl] at H; exact H
   clear H
   have H := H1
   clear H1
   obtain rfl := Option.some.inj H
   obtain ⟨hcz8_0, hcz8_1, hcz8_2⟩ := cz3 BK229.out
   obtain ⟨hfz8_0, hfz8_1, hfz8_2⟩ := fz3 BK229.out
   go_wp2_with (first | ((with_reducible refine gate_callee (f := 146) rfl ?_); refine goesL_ (some 9) rfl rfl Try.func146 (by kernel_rfl) rfl #[.string a0_1] rfl (by (try simp only [List.map_toArray, List.map_cons, List.map_nil]); first | done | rfl | (simp only [List.length_drop, List.length_take]; rfl)) ?_; (with_reducible refine (impl_nameOk.calls k a0_1 true _ A6.out).mono ?_); rintro e w' ⟨rfl, ⟨nd, rfl⟩⟩; refine ⟨_, rfl, ?_⟩))
   go_ret
   exact ⟨by first | rfl | (simp [errW_none, errW_some] <;> rfl) | (simp [*, errW_none, errW_some] <;> rfl), qB HB⟩
  ·
   replace c7 := Bool.eq_false_iff.mpr c7
   subst c7
   have H1 : (some false) = some r := by rw [if_neg (show ¬ (false = true) by decide)] at H; exact H
   clear H
   have H := H1
   clear H1
   obtain rfl := Option.some.inj H
   obtain ⟨hcz9_0, hcz9_1, hcz9_2⟩ := cz3 BK229.out
   obtain ⟨hfz9_0, hfz9_1, hfz9_2⟩ := fz3 BK229.out
   go_wp2_with (first | ((with_reducible refine gate_callee (f := 146) rfl ?_); refine goesL_ (some 9) rfl rfl Try.func146 (by kernel_rfl) rfl #[.string a0_1] rfl (by (try simp only [List.map_toArray, List.map_cons, List.map_nil]); first | done | rfl | (simp only [List.length_drop, List.length_take]; rfl)) ?_; (with_reducible refine (impl_nameOk.calls k a0_1 false _ A6.out).mono ?_); rintro e w' ⟨rfl, ⟨nd, rfl⟩⟩; refine ⟨_, rfl, ?_⟩))
   go_ret
   exact ⟨by first | rfl | (simp [errW_none, errW_some] <;> rfl) | (simp [*, errW_none, errW_some] <;> rfl), qB HB⟩
 ·
  rw [if_neg c5] at H
  have c5b0 : (a0_0 == 1) = false := beq_eq_false_iff_ne.mpr c5
  have c5b1 : (a0_0 != 1) = true := bne_iff_ne.mpr c5
  (first | rw [c5b0] | (simp only [i64_w, i32_w]; rw [c5b0]) | skip)
  have HC10 := Aside0.mk H
  clear H
  go_upto_if 15 with (fail)
  go_cut [15] (fun v15 wc => ∃ (kq : Nat) (x15_9 : Bool), v15 = .bool x15_9 ∧ Aside0 (impl_FrameOk.j0 kq a0_0 x15_9 a0_0 a0_1 a0_2 = some r) ∧ Aside0 (kq ≤ k) ∧ Aside0 (wc.heap[gb229]? = some (.cells #[.int .i64 a0_0, .string a0_1, .int .i64 a0_2] 32 (0, 0))) ∧ Aside0 (Below w.heap.size w wc))
  case first =>
   have H := HC10.out
   clear HC10
   by_cases c11 : a0_0 = 2
   ·
    rw [if_pos c11] at H
    have c11b0 : (a0_0 == 2) = true := beq_iff_eq.mpr c11
    have c11b1 : (a0_0 != 2) = false := bne_eq_false_iff_eq.mpr c11
    clear c11
    (first | rw [c11b0] | (simp only [i64_w, i32_w]; rw [c11b0]) | skip)
    have H' := Aside0.mk H
    clear H
    go_wp2
    go_meet
    case rel => exact ⟨_, ((a0_0 == 2)), (by first | rfl | (simp; done) | (simp [*]; done) | (simp [Go.Proofs.YtahfemlfdpbkkaaV.bne_nil, Go.Proofs.YtahfemlfdpbkkaaV.beq_nil]; done)), H', ⟨by first | omega | exact Nat.le_refl _⟩, ⟨qK BK229⟩, ⟨qB HB⟩⟩
   ·
    rw [if_neg c11] at H
    have c11b0 : (a0_0 == 2) = false := beq_eq_false_iff_ne.mpr c11
    have c11b1 : (a0_0 != 2) = true := bne_iff_ne.mpr c11
    (first | rw [c11b0] | (simp only [i64_w, i32_w]; rw [c11b0]) | skip)
    by_cases c12 : a0_0 = 4
    ·
     rw [if_pos c12] at H
     have c12b0 : (a0_0 == 4) = true := beq_iff_eq.mpr c12
     have c12b1 : (a0_0 != 4) = false := bne_eq_false_iff_eq.mpr c12
     clear c12
     have H' := Aside0.mk H
     clear H
     go_wp2
     go_meet
     case rel => exact ⟨_, ((a0_0 == 4)), (by first | rfl | (simp; done) | (simp [*]; done) | (simp [Go.Proofs.YtahfemlfdpbkkaaV.bne_nil, Go.Proofs.YtahfemlfdpbkkaaV.beq_nil]; done)), H', ⟨by first | omega | exact Nat.le_refl _⟩, ⟨qK BK229⟩, ⟨qB HB⟩⟩
    ·
     rw [if_neg c12] at H
     have c12b0 : (a0_0 == 4) = false := beq_eq_false_iff_ne.mpr c12
     have c12b1 : (a0_0 != 4) = true := bne_iff_ne.mpr c12
     have H' := Aside0.mk H
     clear H
     go_wp2
     go_meet
     case rel => exact ⟨_, ((a0_0 == 6)), (by first | rfl | (simp; done) | (simp [*]; done) | (simp [Go.Proofs.YtahfemlfdpbkkaaV.bne_nil, Go.Proofs.YtahfemlfdpbkkaaV.beq_nil]; done)), H', ⟨by first | omega | exact Nat.le_refl _⟩, ⟨qK BK229⟩, ⟨qB HB⟩⟩
  case rest =>
   clear HC10
   try clear c1
   try clear p2
   try clear c5
   try clear c5b0
   try clear c5b1
   try clear c7
   try clear c11
   try clear c11b0
   try clear c11b1
   try clear c12
   try clear c12b0
   try clear c12b1
   (try clear hcz4_0 hcz4_1 hcz4_2)
   (try clear hcz8_0 hcz8_1 hcz8_2)
   (try clear hcz9_0 hcz9_1 hcz9_2)
   (try clear hfz4_0 hfz4_1 hfz4_2)
   (try clear hfz8_0 hfz8_1 hfz8_2)
   (try clear hfz9_0 hfz9_1 hfz9_2)
   obtain ⟨kq, x15_9, rfl, HA, HJ9, BK229, HB⟩ := hcut
   cases kq with
   | zero => exact absurd HA.out (by simp [impl_FrameOk.j0])
   | succ kj9 =>
    have H := HA.out
    clear HA
    simp only [impl_FrameOk.j0] at H
    by_cases c13 : x15_9 = true
    ·
     subst c13
     have H1 : ((impl_TextOk.f kj9 a0_1).bind fun t231 => (if t231 = true then (some (a0_2 == 0)) else (some false))) = some r := by rw [if_pos rfl] at H; exact H
     clear H
     have H := H1
     clear H1
     replace H := Option.bind_eq_some_iff.mp H
     obtain ⟨t231, A140, H⟩ := H
     replace H : (if t231 = true then (some (a0_2 == 0)) else (some false)) = some r := H
     have A14 := Aside0.mk A140
     clear A140
     by_cases c15 : t231 = true
     ·
      subst c15
      have H1 : (some (a0_2 == 0)) = some r := by rw [if_pos rfl] at H; exact H
      clear H
      have H := H1
      clear H1
      obtain rfl := Option.some.inj H
      obtain ⟨hcz16_0, hcz16_1, hcz16_2⟩ := cz3 BK229.out
      obtain ⟨hfz16_0, hfz16_1, hfz16_2⟩ := fz3 BK229.out
      go_wp2_with (first | ((with_reducible refine gate_callee (f := 147) rfl ?_); refine goesL_ (some 21) rfl rfl Try.func147 (by kernel_rfl) rfl #[.string a0_1] rfl (by (try simp only [List.map_toArray, List.map_cons, List.map_nil]); first | done | rfl | (simp only [List.length_drop, List.length_take]; rfl)) ?_; (with_reducible refine (impl_TextOk.calls kj9 a0_1 true _ A14.out).mono ?_); rintro e w' ⟨rfl, ⟨nd, rfl⟩⟩; refine ⟨_, rfl, ?_⟩))
      go_ret
      exact ⟨by first | rfl | (simp [errW_none, errW_some] <;> rfl) | (simp [*, errW_none, errW_some] <;> rfl), qB HB⟩
     ·
      replace c15 := Bool.eq_false_iff.mpr c15
      subst c15
      have H1 : (some false) = some r := by rw [if_neg (show ¬ (false = true) by decide)] at H; exact H
      clear H
      have H := H1
      clear H1
      obtain rfl := Option.some.inj H
      obtain ⟨hcz17_0, hcz17_1, hcz17_2⟩ := cz3 BK229.out
      obtain ⟨hfz17_0, hfz17_1, hfz17_2⟩ := fz3 BK229.out
      go_wp2_with (first | ((with_reducible refine gate_callee (f := 147) rfl ?_); refine goesL_ (some 21) rfl rfl Try.func147 (by kernel_rfl) rfl #[.string a0_1] rfl (by (try simp only [List.map_toArray, List.map_cons, List.map_nil]); first | done | rfl | (simp only [List.length_drop, List.length_take]; rfl)) ?_; (with_reducible refine (impl_TextOk.calls kj9 a0_1 false _ A14.out).mono ?_); rintro e w' ⟨rfl, ⟨nd, rfl⟩⟩; refine ⟨_, rfl, ?_⟩))
      go_ret
      exact ⟨by first | rfl | (simp [errW_none, errW_some] <;> rfl) | (simp [*, errW_none, errW_some] <;> rfl), qB HB⟩
    ·
     replace c13 := Bool.eq_false_iff.mpr c13
     subst c13
     have H1 : (if a0_0 = 5 then (if a0_1.toList = ([] : List UInt8) then ((impl_isIn.f a0_2 0 2).bind fun t232 => (some t232)) else (some false)) else (if a0_0 = 3 then (some (a0_0 == 3 && (a0_1.toList == ([] : List UInt8) && (a0_2 == 0)))) else (some false))) = some r := by rw [if_neg (show ¬ (false = true) by decide)] at H; exact H
     clear H
     have H := H1
     clear H1
     by_cases c18 : a0_0 = 5
     ·
      rw [if_pos c18] at H
      have c18b0 : (a0_0 == 5) = true := beq_iff_eq.mpr c18
      have c18b1 : (a0_0 != 5) = false := bne_eq_false_iff_eq.mpr c18
      clear c18
      by_cases c19 : a0_1.toList = ([] : List UInt8)
      ·
       rw [if_pos c19] at H
       have c19b0 : (a0_1.toList == ([] : List UInt8)) = true := beq_iff_eq.mpr c19
       have c19b1 : (a0_1.toList != ([] : List UInt8)) = false := bne_eq_false_iff_eq.mpr c19
       clear c19
       replace H := Option.bind_eq_some_iff.mp H
       obtain ⟨t232, A200, H⟩ := H
       replace H : (some t232) = some r := H
       have A20 := Aside0.mk A200
       clear A200
       obtain rfl := Option.some.inj H
       obtain ⟨hcz21_0, hcz21_1, hcz21_2⟩ := cz3 BK229.out
       obtain ⟨hfz21_0, hfz21_1, hfz21_2⟩ := fz3 BK229.out
       go_wp2_with (first | (go_at_call 112; (with_reducible refine (impl_isIn.calls a0_2 0 2 t232 _ A20.out).mono ?_); rintro e w' ⟨rfl, ⟨nd, rfl⟩⟩))
       go_ret
       exact ⟨by first | rfl | (simp [errW_none, errW_some] <;> rfl) | (simp [*, errW_none, errW_some] <;> rfl), qB HB⟩
      ·
       rw [if_neg c19] at H
       have c19b0 : (a0_1.toList == ([] : List UInt8)) = false := beq_eq_false_iff_ne.mpr c19
       have c19b1 : (a0_1.toList != ([] : List UInt8)) = true := bne_iff_ne.mpr c19
       obtain rfl := Option.some.inj H
       obtain ⟨hcz22_0, hcz22_1, hcz22_2⟩ := cz3 BK229.out
       obtain ⟨hfz22_0, hfz22_1, hfz22_2⟩ := fz3 BK229.out
       go_wp2
       go_ret
       exact ⟨by first | rfl | (simp [errW_none, errW_some] <;> rfl) | (simp [*, errW_none, errW_some] <;> rfl), qB HB⟩
     ·
      rw [if_neg c18] at H
      have c18b0 : (a0_0 == 5) = false := beq_eq_false_iff_ne.mpr c18
      have c18b1 : (a0_0 != 5) = true := bne_iff_ne.mpr c18
      by_cases c23 : a0_0 = 3
      ·
       rw [if_pos c23] at H
       have c23b0 : (a0_0 == 3) = true := beq_iff_eq.mpr c23
       have c23b1 : (a0_0 != 3) = false := bne_eq_false_iff_eq.mpr c23
       clear c23
       obtain rfl := Option.some.inj H
       obtain ⟨hcz24_0, hcz24_1, hcz24_2⟩ := cz3 BK229.out
       obtain ⟨hfz24_0, hfz24_1, hfz24_2⟩ := fz3 BK229.out
       go_wp2
       go_ret
       exact ⟨by first | rfl | (simp [errW_none, errW_some] <;> rfl) | (simp [*, errW_none, errW_some] <;> rfl), qB HB⟩
      ·
       rw [if_neg c23] at H
       have c23b0 : (a0_0 == 3) = false := beq_eq_false_iff_ne.mpr c23
       have c23b1 : (a0_0 != 3) = true := bne_iff_ne.mpr c23
       obtain rfl := Option.some.inj H
       go_wp2
       go_ret
       exact ⟨by first | rfl | (simp [errW_none, errW_some] <;> rfl) | (simp [*, errW_none, errW_some] <;> rfl), qB HB⟩

/-! ### impl_PutFrame: function 70 -/
def impl_PutFrame.f (k : Nat) (a0_0 : Int) (a0_1 : ByteArray) (a0_2 : Int) : Option (List Int) := (impl_FrameOk.f k a0_0 a0_1 a0_2).bind fun t234 => (if t234 = true then ((some (([(a0_0) % 256] : List Int) : List Int)).bind fun y238 => (if a0_0 = 5 then (if y238.length < 140737488355328 then (some (y238 ++ [(a0_2) % 256])) else (none)) else (if a0_0 = 3 then (some y238) else ((impl_PutText.f k y238 a0_1).bind fun t244 => (some t244))))) else (some (([] : List Int))))
theorem impl_PutFrame.mono : ∀ a0 a1 a2 k, LeO (impl_PutFrame.f k a0 a1 a2) (impl_PutFrame.f (k + 1) a0 a1 a2) := by
 intro a0 a1 a2 k
 unfold impl_PutFrame.f
 repeat' first
   | (with_reducible exact impl_FrameOk.mono _ _ _ _)
   | (with_reducible exact impl_PutText.mono _ _ _)
   | (with_reducible exact LeO.refl _)
   | (with_reducible exact LeO.none _)
   | (with_reducible refine LeO.ite ?_ ?_)
   | (with_reducible refine LeO.bind ?_ (fun _ => ?_))
   | exact impl_FrameOk.mono _ _ _ _
   | exact impl_PutText.mono _ _ _
   | exact LeO.none _
   | refine LeO.ite ?_ ?_
   | refine LeO.bind ?_ (fun _ => ?_)
set_option maxHeartbeats 8000000 in
set_option maxRecDepth 100000 in
theorem impl_PutFrame.calls (k : Nat) (a0_0 : Int) (a0_1 : ByteArray) (a0_2 : Int) (r : List Int) (w : World) (h : impl_PutFrame.f k a0_0 a0_1 a0_2 = some r) :
  Calls Try.prog 70 #[.agg #[.int .i64 a0_0, .string a0_1, .int .i64 a0_2]] w fun e w' => ∃ v0_ : Value, e = .returned (v0_) ∧ Kd.R (Kd.int .u8) 5 w' w.heap.size (fun _ => True) v0_ r ∧ Below w.heap.size w w' := by
 have hu32 := Try.underlying32
 have HB := Aside0.mk (Below.refl w.heap.size w)
 have H : ((impl_FrameOk.f k a0_0 a0_1 a0_2).bind fun t234 => (if t234 = true then ((some (([(a0_0) % 256] : List Int) : List Int)).bind fun y238 => (if a0_0 = 5 then (if y238.length < 140737488355328 then (some (y238 ++ [(a0_2) % 256])) else (none)) else (if a0_0 = 3 then (some y238) else ((impl_PutText.f k y238 a0_1).bind fun t244 => (some t244))))) else (some (([] : List Int))))) = some r := h
 clear h
 replace H := Option.bind_eq_some_iff.mp H
 obtain ⟨t234, A20, H⟩ := H
 replace H : (if t234 = true then ((some (([(a0_0) % 256] : List Int) : List Int)).bind fun y238 => (if a0_0 = 5 then (if y238.length < 140737488355328 then (some (y238 ++ [(a0_2) % 256])) else (none)) else (if a0_0 = 3 then (some y238) else ((impl_PutText.f k y238 a0_1).bind fun t244 => (some t244))))) else (some (([] : List Int)))) = some r := H
 have A2 := Aside0.mk A20
 clear A20
 have HC3 := Aside0.mk H
 clear H
 go_enter Try.func70, Try.ntmps70
 go_upto_if 6 with (first | ((with_reducible refine gate_dst (N := 1) rfl ?_); refine box_event ?hg (N := 1) ?hd (cs := #[.int .i64 a0_0, .string a0_1, .int .i64 a0_2]) (t := 32) ?hr ?_; (case hd => rfl); (case hg => rfl); (case hr => first | (go_simp; done) | (go_simp; rfl)); intro gb233 hg w4 hbox hb; have BK233 := am_ (hbox); have GW233 := am_ ((gG_ hg (qB HB))); have IGW233 := gI_ GW233; have GE233 := am_ ((gG_ hg (qB HB))); have IGE233 := gI_ GE233; replace HB := am_ (below_step (qB HB) hb); clear hb hbox hg; obtain ⟨hcz5_0, hcz5_1, hcz5_2⟩ := cz3 BK233.out; obtain ⟨hfz5_0, hfz5_1, hfz5_2⟩ := fz3 BK233.out) | ((with_reducible refine gate_callee (f := 143) rfl ?_); refine goesL_ (some 5) rfl rfl Try.func143 (by kernel_rfl) rfl #[.agg #[.int .i64 a0_0, .string a0_1, .int .i64 a0_2]] rfl (by (try simp only [List.map_toArray, List.map_cons, List.map_nil]); first | done | rfl | (simp only [List.length_drop, List.length_take]; rfl)) ?_; (with_reducible refine (impl_FrameOk.calls k a0_0 a0_1 a0_2 t234 _ A2.out).mono ?_); rintro e w6 ⟨rfl, hb⟩; refine ⟨_, rfl, ?_⟩; replace BK233 := am_ (blk_below (qK BK233) hb); replace HB := am_ (below_step (qB HB) hb); (try clear hb); (try clear hb2); (try clear hk); (try clear hi)))
 (try simp only [Act.put, List.setIfInBounds_toArray, List.set_cons_zero, List.set_cons_succ])
 have H := HC3.out
 clear HC3
 by_cases c7 : t234 = true
 ·
  subst c7
  have H1 : ((some (([(a0_0) % 256] : List Int) : List Int)).bind fun y238 => (if a0_0 = 5 then (if y238.length < 140737488355328 then (some (y238 ++ [(a0_2) % 256])) else (none)) else (if a0_0 = 3 then (some y238) else ((impl_PutText.f k y238 a0_1).bind fun t244 => (some t244))))) = some r := by rw [if_pos rfl] at H; exact H
  clear H
  have H := H1
  clear H1
  obtain ⟨y238, hy238⟩ : ∃ y_ : List Int, y_ = (([(a0_0) % 256] : List Int)) := ⟨_, rfl⟩
  replace H : (if a0_0 = 5 then (if y238.length < 140737488355328 then (some (y238 ++ [(a0_2) % 256])) else (none)) else (if a0_0 = 3 then (some y238) else ((impl_PutText.f k y238 a0_1).bind fun t244 => (some t244)))) = some r := by first | (rw [hy238]; with_reducible exact H) | (have H2_ := (Option.bind_some _ _).symm.trans H; rw [hy238]; with_reducible exact H2_) | (have H2_ := (Option.bind_some _ _).symm.trans H; with_reducible exact H2_) | with_reducible exact H | (rw [hy238]; exact H) | exact H
  have Ny238 := Aside0.mk hy238
  clear hy238
  have HC8 := Aside0.mk H
  clear H
  obtain ⟨hcz9_0, hcz9_1, hcz9_2⟩ := cz3 BK233.out
  obtain ⟨hfz9_0, hfz9_1, hfz9_2⟩ := fz3 BK233.out
  go_upto_if 14 with (first | ((with_reducible refine gate_dst (N := 11) rfl ?_); refine Kd.R_lit (Kd.int .u8) _ 5 ?hg (N := 11) ?hd (xs := ([(a0_0) % 256] : List Int)) (inner := [.int .u8 ((a0_0) % 256)]) (ok := fun _ => True) (okp := fun _ => True) ?hr ?hp (fun _ hk => hk) trivial (Below.refl _ _) (Nat.le_refl _) (by simp) ?_; (case hd => rfl); (case hg => rfl); (case hr => first | (go_simp; done) | (go_simp; rfl)); (case hp => exact (Reps.one (show Kd.M (Kd.int .u8) _ _ _ ((a0_0) % 256) [.int .u8 ((a0_0) % 256)] from rfl) (Reps.none _ _))); intro v239 w10 ho11 hb hg_ hnew_; clear hg_ hnew_; (first | rw [← Ny238.out] at ho11 | (simp only [Int.reduceToNat] at ho11; rw [← Ny238.out] at ho11)); have HO240 := am_ (Kd.R_lower ho11 (below_size (qB HB))); replace BK233 := am_ (blk_below (qK BK233) hb); replace HB := am_ (below_step (qB HB) hb); clear hb ho11; obtain ⟨hcz12_0, hcz12_1, hcz12_2⟩ := cz3 BK233.out; obtain ⟨hfz12_0, hfz12_1, hfz12_2⟩ := fz3 BK233.out))
  (try simp only [Act.put, List.setIfInBounds_toArray, List.set_cons_zero, List.set_cons_succ])
  have H := HC8.out
  clear HC8
  by_cases c13 : a0_0 = 5
  ·
   rw [if_pos c13] at H
   have c13b0 : (a0_0 == 5) = true := beq_iff_eq.mpr c13
   have c13b1 : (a0_0 != 5) = false := bne_eq_false_iff_eq.mpr c13
   clear c13
   (first | rw [c13b0] | (simp only [i64_w, i32_w]; rw [c13b0]) | skip)
   by_cases c14 : y238.length < 140737488355328
   ·
    rw [if_pos c14] at H
    have LMc14 := Aside0.mk c14
    clear c14
    obtain ⟨y241, hy241⟩ : ∃ y_ : List Int, y_ = (y238 ++ [(a0_2) % 256]) := ⟨_, rfl⟩
    replace H : (some y241) = some r := by first | (rw [hy241]; with_reducible exact H) | (have H2_ := (Option.bind_some _ _).symm.trans H; rw [hy241]; with_reducible exact H2_) | (have H2_ := (Option.bind_some _ _).symm.trans H; with_reducible exact H2_) | with_reducible exact H | (rw [hy241]; exact H) | exact H
    have Ny241 := Aside0.mk hy241
    clear hy241
    obtain rfl := Option.some.inj H
    obtain ⟨hcz15_0, hcz15_1, hcz15_2⟩ := cz3 BK233.out
    obtain ⟨hfz15_0, hfz15_1, hfz15_2⟩ := fz3 BK233.out
    go_wp2_with (first | ((with_reducible refine gate_builtin (b := .append) (xs := #[.tmp 16, .tmp 20]) rfl ?_); at_builtin; refine Kd.R_append (Kd.int .u8) (w0 := w) w.heap.size rfl (.tmp 16) (.tmp 20) 22 5 (.int .u8 0) 1 rfl Try.underlying22 info5 rfl (by decide) (by omega) v239 y238 ((a0_2) % 256) [.int .u8 ((a0_2) % 256)] (fun _ => True) (fun _ => False) rfl rfl ?aP (fun _ hk => hk.elim) ?aF ?aO ?aB ?aS ?aL ?_; (case aP => exact rfl); (case aB => exact (qB HB)); (case aF => exact (fun _ _ => trivial)); (case aO => exact (qR HO240)); (case aS => exact (below_size (qB HB))); (case aL => have := LMc14.out; omega); intro v242 w16 ho hb hg hat; rw [← Ny241.out] at ho; replace BK233 := am_ (blk_grown (qK BK233) hg (Kd.R_ne HO240.out BK233.out (by decide))); replace HB := am_ (hb); have HO243 := am_ (ho); clear HO240; clear ho hb hg hat))
    go_ret
    exact ⟨_, by first | rfl | (simp [errW_none, errW_some] <;> rfl) | (simp [*, errW_none, errW_some] <;> rfl), qR HO243, qB HB⟩
   ·
    rw [if_neg c14] at H
    exact absurd H (by simp)
  ·
   rw [if_neg c13] at H
   have c13b0 : (a0_0 == 5) = false := beq_eq_false_iff_ne.mpr c13
   have c13b1 : (a0_0 != 5) = true := bne_iff_ne.mpr c13
   (first | rw [c13b0] | (simp only [i64_w, i32_w]; rw [c13b0]) | skip)
   by_cases c17 : a0_0 = 3
   ·
    rw [if_pos c17] at H
    have c17b0 : (a0_0 == 3) = true := beq_iff_eq.mpr c17
    have c17b1 : (a0_0 != 3) = false := bne_eq_false_iff_eq.mpr c17
    clear c17
    obtain rfl := Option.some.inj H
    go_wp2
    go_ret
    exact ⟨_, by first | rfl | (simp [errW_none, errW_some] <;> rfl) | (simp [*, errW_none, errW_some] <;> rfl), qR HO240, qB HB⟩
   ·
    rw [if_neg c17] at H
    have c17b0 : (a0_0 == 3) = false := beq_eq_false_iff_ne.mpr c17
    have c17b1 : (a0_0 != 3) = true := bne_iff_ne.mpr c17
    replace H := Option.bind_eq_some_iff.mp H
    obtain ⟨t244, A180, H⟩ := H
    replace H : (some t244) = some r := H
    have A18 := Aside0.mk A180
    clear A180
    obtain rfl := Option.some.inj H
    obtain ⟨hcz19_0, hcz19_1, hcz19_2⟩ := cz3 BK233.out
    obtain ⟨hfz19_0, hfz19_1, hfz19_2⟩ := fz3 BK233.out
    obtain ⟨Ao20, co20, eo20⟩ := Kd.R_slice HO240.out
    subst eo20
    go_wp2_with (first | ((with_reducible refine gate_callee (f := 81) rfl ?_); refine goesL_ (some 28) rfl rfl Try.func81 (by kernel_rfl) rfl #[.slice Ao20 y238.length co20, .string a0_1] rfl (by (try simp only [List.map_toArray, List.map_cons, List.map_nil]); first | done | rfl | (simp only [List.length_drop, List.length_take]; rfl)) ?_; (with_reducible refine (impl_PutText.calls k _ _ y238 a0_1 t244 _ ?side1 ?side2 A18.out).mono ?_); (case side1 => exact qC ((Kd.R_reads' HO240.out).2.2)); (case side2 => exact (Kd.R_reads' HO240.out).2.1); rintro e w21 ⟨v245, rfl, ho0, hb⟩; refine ⟨_, rfl, ?_⟩; have HO246 := am_ (Kd.R_lower (Kd.R_new' ho0 (Kd.R_lt (qR HO240))) (below_size (qB HB))); replace HO240 := am_ (Kd.R_elder' (qR HO240) (Kd.R_base ho0) hb); replace BK233 := am_ (blk_below (qK BK233) hb); replace HB := am_ (below_step (qB HB) hb); (try clear hb); (try clear hb2); (try clear hk); (try clear hi); (try clear ho0)))
    go_ret
    exact ⟨_, by first | rfl | (simp [errW_none, errW_some] <;> rfl) | (simp [*, errW_none, errW_some] <;> rfl), by (with_reducible repeat (first | apply Kd.R_alloc | apply Kd.R_drewN | apply Kd.R_drew)); exact Kd.R_mono HO246.out (fun _ hk => trivial), qB HB⟩
 ·
  replace c7 := Bool.eq_false_iff.mpr c7
  subst c7
  have H1 : (some (([] : List Int))) = some r := by rw [if_neg (show ¬ (false = true) by decide)] at H; exact H
  clear H
  have H := H1
  clear H1
  obtain ⟨y235, hy235⟩ : ∃ y_ : List Int, y_ = (([] : List Int)) := ⟨_, rfl⟩
  replace H : (some y235) = some r := by first | (rw [hy235]; with_reducible exact H) | (have H2_ := (Option.bind_some _ _).symm.trans H; rw [hy235]; with_reducible exact H2_) | (have H2_ := (Option.bind_some _ _).symm.trans H; with_reducible exact H2_) | with_reducible exact H | (rw [hy235]; exact H) | exact H
  have Ny235 := Aside0.mk hy235
  clear hy235
  obtain rfl := Option.some.inj H
  go_wp2_with (first | ((with_reducible refine gate_dst (N := 7) rfl ?_); refine Kd.R_lit (Kd.int .u8) _ 5 ?hg (N := 7) ?hd (xs := ([] : List Int)) (inner := []) (ok := fun _ => True) (okp := fun _ => True) ?hr ?hp (fun _ hk => hk) trivial (Below.refl _ _) (Nat.le_refl _) (by simp) ?_; (case hd => rfl); (case hg => rfl); (case hr => first | (go_simp; done) | (go_simp; rfl)); (case hp => exact (Reps.none _ _)); intro v236 w22 ho23 hb hg_ hnew_; clear hg_ hnew_; (first | rw [← Ny235.out] at ho23 | (simp only [Int.reduceToNat] at ho23; rw [← Ny235.out] at ho23)); have HO237 := am_ (Kd.R_lower ho23 (below_size (qB HB))); replace BK233 := am_ (blk_below (qK BK233) hb); replace HB := am_ (below_step (qB HB) hb); clear hb ho23))
  go_ret
  exact ⟨_, by first | rfl | (simp [errW_none, errW_some] <;> rfl) | (simp [*, errW_none, errW_some] <;> rfl), qR HO237, qB HB⟩

/-! ### impl_Tell: function 20 -/
def impl_Tell.f (k : Nat) (a0_0 : Int) (a0_1 : Int) (a0_2 : Int) (a0_3 : Bool) (l0_4 : List Int) (l0_5 : List Int) (a0_6 : Int) (a0_7 : Int) (a1_0 : Int) (a1_1 : ByteArray) (a1_2 : Int) : Option (Int × Int × Int × Bool × List Int × List Int × Int × Int) := (impl_sockCopy.f a0_0 a0_1 a0_2 a0_3 l0_4 l0_5 a0_6 a0_7).bind fun bt250 => ((impl_SockOk.f k a0_0 a0_1 a0_2 a0_3 l0_4 l0_5 a0_6 a0_7).bind fun t263 => (if t263 = true then ((impl_PutFrame.f k a1_0 a1_1 a1_2).bind fun t264 => (if bt250.2.2.2.2.2.1.length + t264.length < 140737488355328 then (some (bt250.1, bt250.2.1, bt250.2.2.1, bt250.2.2.2.1, bt250.2.2.2.2.1, (bt250.2.2.2.2.2.1 ++ t264), bt250.2.2.2.2.2.2.1, bt250.2.2.2.2.2.2.2)) else (none))) else (some (bt250.1, bt250.2.1, bt250.2.2.1, bt250.2.2.2.1, bt250.2.2.2.2.1, bt250.2.2.2.2.2.1, bt250.2.2.2.2.2.2.1, bt250.2.2.2.2.2.2.2))))
theorem impl_Tell.mono : ∀ a0 a1 a2 a3 a4 a5 a6 a7 a8 a9 a10 k, LeO (impl_Tell.f k a0 a1 a2 a3 a4 a5 a6 a7 a8 a9 a10) (impl_Tell.f (k + 1) a0 a1 a2 a3 a4 a5 a6 a7 a8 a9 a10) := by
 intro a0 a1 a2 a3 a4 a5 a6 a7 a8 a9 a10 k
 unfold impl_Tell.f
 repeat' first
   | (with_reducible exact impl_PutFrame.mono _ _ _ _)
   | (with_reducible exact impl_SockOk.mono _ _ _ _ _ _ _ _ _)
   | (with_reducible exact LeO.refl _)
   | (with_reducible exact LeO.none _)
   | (with_reducible refine LeO.ite ?_ ?_)
   | (with_reducible refine LeO.bind ?_ (fun _ => ?_))
   | exact impl_PutFrame.mono _ _ _ _
   | exact impl_SockOk.mono _ _ _ _ _ _ _ _ _
   | exact LeO.none _
   | refine LeO.ite ?_ ?_
   | refine LeO.bind ?_ (fun _ => ?_)
set_option maxHeartbeats 8000000 in
set_option maxRecDepth 100000 in
theorem impl_Tell.calls (k : Nat) (a0_0 : Int) (a0_1 : Int) (a0_2 : Int) (a0_3 : Bool) (A0_4 : Option Addr) (c0_4 : Nat) (l0_4 : List Int) (A0_5 : Option Addr) (c0_5 : Nat) (l0_5 : List Int) (a0_6 : Int) (a0_7 : Int) (a1_0 : Int) (a1_1 : ByteArray) (a1_2 : Int) (r1 : Int) (r2 : Int) (r3 : Int) (r4 : Bool) (r5 : List Int) (r6 : List Int) (r7 : Int) (r8 : Int) (w : World) (hr0_4 : Kd.C (Kd.int .u8) w A0_4 l0_4.length l0_4) (hc0_4 : l0_4.length ≤ c0_4) (hr0_5 : Kd.C (Kd.int .u8) w A0_5 l0_5.length l0_5) (hc0_5 : l0_5.length ≤ c0_5) (h : impl_Tell.f k a0_0 a0_1 a0_2 a0_3 l0_4 l0_5 a0_6 a0_7 a1_0 a1_1 a1_2 = some (r1, r2, r3, r4, r5, r6, r7, r8)) :
  Calls Try.prog 20 #[.agg #[.int .i64 a0_0, .int .i64 a0_1, .int .i64 a0_2, .bool a0_3, .slice A0_4 l0_4.length c0_4, .slice A0_5 l0_5.length c0_5, .int .i64 a0_6, .int .i64 a0_7], .agg #[.int .i64 a1_0, .string a1_1, .int .i64 a1_2]] w fun e w' => ∃ v4_ v5_ : Value, e = .returned (.agg #[.int .i64 r1, .int .i64 r2, .int .i64 r3, .bool r4, v4_, v5_, .int .i64 r7, .int .i64 r8]) ∧ Kd.R (Kd.int .u8) 5 w' w.heap.size (fun k_ => some k_ ≠ (v5_ : Value).ownBlock) v4_ r5 ∧ Kd.R (Kd.int .u8) 5 w' w.heap.size (fun k_ => some k_ ≠ (v4_ : Value).ownBlock) v5_ r6 ∧ Below w.heap.size w w' := by
 have hu29 := Try.underlying29
 have hu32 := Try.underlying32
 have HR0_4 := Aside0.mk hr0_4
 have HC0_4 := Aside0.mk hc0_4
 clear hr0_4 hc0_4
 have HR0_5 := Aside0.mk hr0_5
 have HC0_5 := Aside0.mk hc0_5
 clear hr0_5 hc0_5
 have HB := Aside0.mk (Below.refl w.heap.size w)
 have H : ((impl_sockCopy.f a0_0 a0_1 a0_2 a0_3 l0_4 l0_5 a0_6 a0_7).bind fun bt250 => ((impl_SockOk.f k a0_0 a0_1 a0_2 a0_3 l0_4 l0_5 a0_6 a0_7).bind fun t263 => (if t263 = true then ((impl_PutFrame.f k a1_0 a1_1 a1_2).bind fun t264 => (if bt250.2.2.2.2.2.1.length + t264.length < 140737488355328 then (some (bt250.1, bt250.2.1, bt250.2.2.1, bt250.2.2.2.1, bt250.2.2.2.2.1, (bt250.2.2.2.2.2.1 ++ t264), bt250.2.2.2.2.2.2.1, bt250.2.2.2.2.2.2.2)) else (none))) else (some (bt250.1, bt250.2.1, bt250.2.2.1, bt250.2.2.2.1, bt250.2.2.2.2.1, bt250.2.2.2.2.2.1, bt250.2.2.2.2.2.2.1, bt250.2.2.2.2.2.2.2))))) = some (r1, r2, r3, r4, r5, r6, r7, r8) := h
 clear h
 replace H := Option.bind_eq_some_iff.mp H
 obtain ⟨⟨t250, t251, t252, t253, t254, t257, t260, t261⟩, A30, H⟩ := H
 replace H : ((impl_SockOk.f k a0_0 a0_1 a0_2 a0_3 l0_4 l0_5 a0_6 a0_7).bind fun t263 => (if t263 = true then ((impl_PutFrame.f k a1_0 a1_1 a1_2).bind fun t264 => (if t257.length + t264.length < 140737488355328 then (some (t250, t251, t252, t253, t254, (t257 ++ t264), t260, t261)) else (none))) else (some (t250, t251, t252, t253, t254, t257, t260, t261)))) = some (r1, r2, r3, r4, r5, r6, r7, r8) := H
 have A3 := Aside0.mk A30
 clear A30
 replace H := Option.bind_eq_some_iff.mp H
 obtain ⟨t263, A40, H⟩ := H
 replace H : (if t263 = true then ((impl_PutFrame.f k a1_0 a1_1 a1_2).bind fun t264 => (if t257.length + t264.length < 140737488355328 then (some (t250, t251, t252, t253, t254, (t257 ++ t264), t260, t261)) else (none))) else (some (t250, t251, t252, t253, t254, t257, t260, t261))) = some (r1, r2, r3, r4, r5, r6, r7, r8) := H
 have A4 := Aside0.mk A40
 clear A40
 have HC5 := Aside0.mk H
 clear H
 go_enter Try.func20, Try.ntmps20
 go_upto_if 9 with (first | ((with_reducible refine gate_dst (N := 2) rfl ?_); refine box_event ?hg (N := 2) ?hd (cs := #[.int .i64 a0_0, .int .i64 a0_1, .int .i64 a0_2, .bool a0_3, .slice A0_4 l0_4.length c0_4, .slice A0_5 l0_5.length c0_5, .int .i64 a0_6, .int .i64 a0_7]) (t := 29) ?hr ?_; (case hd => rfl); (case hg => rfl); (case hr => first | (go_simp; done) | (go_simp; rfl)); intro gb247 hg w6 hbox hb; have BK247 := am_ (hbox); have GW247 := am_ ((gG_ hg (qB HB))); have IGW247 := gI_ GW247; have GE247 := am_ ((gG_ hg (qB HB))); have IGE247 := gI_ GE247; replace HB := am_ (below_step (qB HB) hb); clear hb hbox hg) | ((with_reducible refine gate_dst (N := 3) rfl ?_); refine box_event ?hg (N := 3) ?hd (cs := #[.int .i64 a1_0, .string a1_1, .int .i64 a1_2]) (t := 32) ?hr ?_; (case hd => rfl); (case hg => rfl); (case hr => first | (go_simp; done) | (go_simp; rfl)); intro gb248 hg w7 hbox hb; have BK248 := am_ (hbox); have GW248 := am_ ((gG_ hg (qB HB))); have IGW248 := gI_ GW248; have GE248 := am_ ((gG_ hg (qB HB))); have IGE248 := gI_ GE248; replace HB := am_ (below_step (qB HB) hb); have NB247_248 := am_ ((gN_ hg (qK BK247))); have NB248_247 := am_ ((gM_ hg (qK BK247))); replace BK247 := am_ (blk_below (qK BK247) hb); clear hb hbox hg) | ((with_reducible refine gate_dst (N := 4) rfl ?_); refine box_event ?hg (N := 4) ?hd (cs := #[.int .i64 0, .int .i64 0, .int .i64 0, .bool false, .slice none 0 0, .slice none 0 0, .int .i64 0, .int .i64 0]) (t := 29) ?hr ?_; (case hd => rfl); (case hg => rfl); (case hr => first | (go_simp; done) | (go_simp; rfl)); intro gb249 hg w8 hbox hb; have BK249 := am_ (hbox); have GW249 := am_ ((gG_ hg (qB HB))); have IGW249 := gI_ GW249; have GE249 := am_ ((gG_ hg (qB HB))); have IGE249 := gI_ GE249; replace HB := am_ (below_step (qB HB) hb); have NB247_249 := am_ ((gN_ hg (qK BK247))); have NB249_247 := am_ ((gM_ hg (qK BK247))); replace BK247 := am_ (blk_below (qK BK247) hb); have NB248_249 := am_ ((gN_ hg (qK BK248))); have NB249_248 := am_ ((gM_ hg (qK BK248))); replace BK248 := am_ (blk_below (qK BK248) hb); clear hb hbox hg; have hnb9 := NB247_248.out; have hnc9 := NB248_247.out; have hnb10 := NB247_249.out; have hnc10 := NB249_247.out; obtain ⟨hcz11_0, hcz11_1, hcz11_2, hcz11_3, hcz11_4, hcz11_5, hcz11_6, hcz11_7⟩ := cz8 BK247.out; obtain ⟨hfz11_0, hfz11_1, hfz11_2, hfz11_3, hfz11_4, hfz11_5, hfz11_6, hfz11_7⟩ := fz8 BK247.out) | ((with_reducible refine gate_callee (f := 68) rfl ?_); refine goesL_ (some 7) rfl rfl Try.func68 (by kernel_rfl) rfl #[.agg #[.int .i64 a0_0, .int .i64 a0_1, .int .i64 a0_2, .bool a0_3, .slice A0_4 l0_4.length c0_4, .slice A0_5 l0_5.length c0_5, .int .i64 a0_6, .int .i64 a0_7]] rfl (by (try simp only [List.map_toArray, List.map_cons, List.map_nil]); first | done | rfl | (simp only [List.length_drop, List.length_take]; rfl)) ?_; (with_reducible refine (impl_sockCopy.calls a0_0 a0_1 a0_2 a0_3 _ _ l0_4 _ _ l0_5 a0_6 a0_7 t250 t251 t252 t253 t254 t257 t260 t261 _ ?side1 ?side2 ?side3 ?side4 A3.out).mono ?_); (case side1 => exact qC (Kd.C_below HR0_4.out HB.out)); (case side2 => exact HC0_4.out); (case side3 => exact qC (Kd.C_below HR0_5.out HB.out)); (case side4 => exact HC0_5.out); rintro e w12 ⟨v255, v258, rfl, ho0, ho1, hb⟩; refine ⟨_, rfl, ?_⟩; have HO256 := am_ (Kd.R_lower ho0 (below_size (qB HB))); have HO259 := am_ (Kd.R_lower ho1 (below_size (qB HB))); replace BK247 := am_ (blk_below (qK BK247) hb); replace BK248 := am_ (blk_below (qK BK248) hb); replace BK249 := am_ (blk_below (qK BK249) hb); replace HB := am_ (below_step (qB HB) hb); (try clear hb); (try clear hb2); (try clear hk); (try clear hi); (try clear ho0); (try clear ho1)) | ((with_reducible refine gate_dst (N := 5) rfl ?_); refine box_event ?hg (N := 5) ?hd (cs := #[.int .i64 0, .int .i64 0, .int .i64 0, .bool false, .slice none 0 0, .slice none 0 0, .int .i64 0, .int .i64 0]) (t := 29) ?hr ?_; (case hd => rfl); (case hg => rfl); (case hr => first | (go_simp; done) | (go_simp; rfl)); intro gb262 hg w13 hbox hb; replace HO256 := am_ (Kd.R_below (qR HO256) hb); replace HO259 := am_ (Kd.R_below (qR HO259) hb); have BK262 := am_ (hbox); have GW262 := am_ ((gG_ hg (qB HB))); have IGW262 := gI_ GW262; have GE262 := am_ ((gG_ hg (qB HB))); have IGE262 := gI_ GE262; replace HB := am_ (below_step (qB HB) hb); have NB247_262 := am_ ((gN_ hg (qK BK247))); have NB262_247 := am_ ((gM_ hg (qK BK247))); replace BK247 := am_ (blk_below (qK BK247) hb); have NB248_262 := am_ ((gN_ hg (qK BK248))); have NB262_248 := am_ ((gM_ hg (qK BK248))); replace BK248 := am_ (blk_below (qK BK248) hb); have NB249_262 := am_ ((gN_ hg (qK BK249))); have NB262_249 := am_ ((gM_ hg (qK BK249))); replace BK249 := am_ (blk_below (qK BK249) hb); clear hb hbox hg; have hnb14 := NB262_247.out; have hnc14 := NB247_262.out; have hnb15 := NB262_248.out; have hnc15 := NB248_262.out; have hnb16 := NB262_249.out; have hnc16 := NB249_262.out; obtain ⟨hcz17_0, hcz17_1, hcz17_2, hcz17_3, hcz17_4, hcz17_5, hcz17_6, hcz17_7⟩ := cz8 BK262.out; obtain ⟨hfz17_0, hfz17_1, hfz17_2, hfz17_3, hfz17_4, hfz17_5, hfz17_6, hfz17_7⟩ := fz8 BK262.out; obtain ⟨Ao18, co18, eo18⟩ := Kd.R_slice HO256.out; subst eo18; obtain ⟨Ao19, co19, eo19⟩ := Kd.R_slice HO259.out; subst eo19; obtain ⟨hcz20_0, hcz20_1, hcz20_2, hcz20_3, hcz20_4, hcz20_5, hcz20_6, hcz20_7⟩ := cz8 BK247.out; obtain ⟨hfz20_0, hfz20_1, hfz20_2, hfz20_3, hfz20_4, hfz20_5, hfz20_6, hfz20_7⟩ := fz8 BK247.out) | ((with_reducible refine gate_callee (f := 69) rfl ?_); refine goesL_ (some 9) rfl rfl Try.func69 (by kernel_rfl) rfl #[.agg #[.int .i64 a0_0, .int .i64 a0_1, .int .i64 a0_2, .bool a0_3, .slice A0_4 l0_4.length c0_4, .slice A0_5 l0_5.length c0_5, .int .i64 a0_6, .int .i64 a0_7]] rfl (by (try simp only [List.map_toArray, List.map_cons, List.map_nil]); first | done | rfl | (simp only [List.length_drop, List.length_take]; rfl)) ?_; (with_reducible refine (impl_SockOk.calls k a0_0 a0_1 a0_2 a0_3 _ _ l0_4 _ _ l0_5 a0_6 a0_7 t263 _ ?side1 ?side2 ?side3 ?side4 A4.out).mono ?_); (case side1 => exact Kd.C_below HR0_4.out (qB HB)); (case side2 => exact HC0_4.out); (case side3 => exact Kd.C_below HR0_5.out (qB HB)); (case side4 => exact HC0_5.out); rintro e w21 ⟨rfl, hb⟩; refine ⟨_, rfl, ?_⟩; replace HO256 := am_ (Kd.R_below (by (with_reducible repeat (first | apply Kd.R_alloc | apply Kd.R_drewN | apply Kd.R_drew)); exact (Kd.R_mono (Go.Proofs.YtahfemlfdpbkkaaV.R_far8 (g := gb262) (Kd.R_types HO256.out BK262.out (by decide)) (fun _ hk => hk.2)) (fun _ h_ => h_.1))) hb); replace HO259 := am_ (Kd.R_below (by (with_reducible repeat (first | apply Kd.R_alloc | apply Kd.R_drewN | apply Kd.R_drew)); exact (Kd.R_mono (Go.Proofs.YtahfemlfdpbkkaaV.R_far8 (g := gb262) (Kd.R_types HO259.out BK262.out (by decide)) (fun _ hk => hk.2)) (fun _ h_ => h_.1))) hb); replace BK247 := am_ (blk_below (g := gb247) (o := .cells #[.int .i64 a0_0, .int .i64 a0_1, .int .i64 a0_2, .bool a0_3, .slice A0_4 l0_4.length c0_4, .slice A0_5 l0_5.length c0_5, .int .i64 a0_6, .int .i64 a0_7] 29 (0, 0)) (by (with_reducible repeat (first | refine blk_drewN ?_ _ | refine blk_drew ?_ | refine blk_alloc ?_ _)); refine Go.Proofs.YtahfemlfdpbkkaaV.blk_far8 ?_ NB247_262.out; (with_reducible repeat (first | refine blk_drewN ?_ _ | refine blk_drew ?_ | refine blk_alloc ?_ _)); exact BK247.out) hb); replace BK248 := am_ (blk_below (g := gb248) (o := .cells #[.int .i64 a1_0, .string a1_1, .int .i64 a1_2] 32 (0, 0)) (by (with_reducible repeat (first | refine blk_drewN ?_ _ | refine blk_drew ?_ | refine blk_alloc ?_ _)); refine Go.Proofs.YtahfemlfdpbkkaaV.blk_far8 ?_ NB248_262.out; (with_reducible repeat (first | refine blk_drewN ?_ _ | refine blk_drew ?_ | refine blk_alloc ?_ _)); exact BK248.out) hb); replace BK249 := am_ (blk_below (g := gb249) (o := .cells #[.int .i64 0, .int .i64 0, .int .i64 0, .bool false, .slice none 0 0, .slice none 0 0, .int .i64 0, .int .i64 0] 29 (0, 0)) (by (with_reducible repeat (first | refine blk_drewN ?_ _ | refine blk_drew ?_ | refine blk_alloc ?_ _)); refine Go.Proofs.YtahfemlfdpbkkaaV.blk_far8 ?_ NB249_262.out; (with_reducible repeat (first | refine blk_drewN ?_ _ | refine blk_drew ?_ | refine blk_alloc ?_ _)); exact BK249.out) hb); replace BK262 := am_ (blk_below (g := gb262) (o := .cells #[.int .i64 t250, .int .i64 t251, .int .i64 t252, .bool t253, .slice Ao18 t254.length co18, .slice Ao19 t257.length co19, .int .i64 t260, .int .i64 t261] 29 (0, 0)) (by (with_reducible repeat (first | refine blk_drewN ?_ _ | refine blk_drew ?_ | refine blk_alloc ?_ _)); refine Go.Proofs.YtahfemlfdpbkkaaV.blk_all8 (show _ = some (Go.Obj.cells #[.int .i64 0, .int .i64 0, .int .i64 0, .bool false, .slice none 0 0, .slice none 0 0, .int .i64 0, .int .i64 0] _ (0, 0)) from ?_); (with_reducible repeat (first | refine blk_drewN ?_ _ | refine blk_drew ?_ | refine blk_alloc ?_ _)); exact BK262.out) hb); replace HB := am_ (below_step (qB HB) hb); (try clear hb); (try clear hb2); (try clear hk); (try clear hi)))
 (try simp only [Act.put, List.setIfInBounds_toArray, List.set_cons_zero, List.set_cons_succ])
 have H := HC5.out
 clear HC5
 by_cases c22 : t263 = true
 ·
  subst c22
  have H1 : ((impl_PutFrame.f k a1_0 a1_1 a1_2).bind fun t264 => (if t257.length + t264.length < 140737488355328 then (some (t250, t251, t252, t253, t254, (t257 ++ t264), t260, t261)) else (none))) = some (r1, r2, r3, r4, r5, r6, r7, r8) := by rw [if_pos rfl] at H; exact H
  clear H
  have H := H1
  clear H1
  replace H := Option.bind_eq_some_iff.mp H
  obtain ⟨t264, A230, H⟩ := H
  replace H : (if t257.length + t264.length < 140737488355328 then (some (t250, t251, t252, t253, t254, (t257 ++ t264), t260, t261)) else (none)) = some (r1, r2, r3, r4, r5, r6, r7, r8) := H
  have A23 := Aside0.mk A230
  clear A230
  by_cases c24 : t257.length + t264.length < 140737488355328
  ·
   rw [if_pos c24] at H
   have LMc24 := Aside0.mk c24
   clear c24
   obtain ⟨y267, hy267⟩ : ∃ y_ : List Int, y_ = (t257 ++ t264) := ⟨_, rfl⟩
   replace H : (some (t250, t251, t252, t253, t254, y267, t260, t261)) = some (r1, r2, r3, r4, r5, r6, r7, r8) := by first | (rw [hy267]; with_reducible exact H) | (have H2_ := (Option.bind_some _ _).symm.trans H; rw [hy267]; with_reducible exact H2_) | (have H2_ := (Option.bind_some _ _).symm.trans H; with_reducible exact H2_) | with_reducible exact H | (rw [hy267]; exact H) | exact H
   have Ny267 := Aside0.mk hy267
   clear hy267
   simp only [Option.some.injEq, Prod.mk.injEq] at H
   obtain ⟨rfl, rfl, rfl, rfl, rfl, rfl, rfl, rfl⟩ := H
   try go_wp2
   replace HO256 := am_ (Kd.R_drew HO256.out)
   replace HO259 := am_ (Kd.R_drew HO259.out)
   replace BK247 := am_ (blk_drew BK247.out)
   replace BK248 := am_ (blk_drew BK248.out)
   replace BK249 := am_ (blk_drew BK249.out)
   replace BK262 := am_ (blk_drew BK262.out)
   replace HB := am_ (below_drew1 HB.out)
   refine start_ (n := 7) (S := fun w' => w'.cell? ⟨gb262, 0, none⟩ = some (.int .i64 t250) ∧ w'.cell? ⟨gb262, 1, none⟩ = some (.int .i64 t251) ∧ w'.cell? ⟨gb262, 2, none⟩ = some (.int .i64 t252) ∧ w'.cell? ⟨gb262, 3, none⟩ = some (.bool t253) ∧ w'.cell? ⟨gb262, 4, none⟩ = some (.slice Ao18 t254.length co18) ∧ w'.cell? ⟨gb262, 5, none⟩ = some (.slice Ao19 t257.length co19) ∧ w'.cell? ⟨gb262, 6, none⟩ = some (.int .i64 t260) ∧ w'.cell? ⟨gb262, 7, none⟩ = some (.int .i64 t261) ∧ w'.cell? ⟨gb248, 0, none⟩ = some (.int .i64 a1_0) ∧ w'.cell? ⟨gb248, 1, none⟩ = some (.string a1_1) ∧ w'.cell? ⟨gb248, 2, none⟩ = some (.int .i64 a1_2)) (ds := [6]) #[false, false, false, false, false, false, false] (by kernel_rfl) rfl rfl (cw8 BK262.out (cz3 BK248.out)) (fun hHeld => ?_)
   generalize w21.drew = w25 at HO256 HO259 BK247 BK248 BK249 BK262 HB hHeld ⊢
   refine pure_ (i := 0) (N := some 10) (v := ?_) (a' := ?_) #[true, false, false, false, false, false, false] rfl rfl (by kernel_rfl) (fun _ _ _ h => h) (Or.inl ⟨by rfl, ?_⟩) ?_ ?_
   rotate_left
   ·
    intro w'
    go_simp
    with_reducible rfl
   rotate_left
   ·
    simp only [Act.put, List.setIfInBounds_toArray, List.set_cons_zero, List.set_cons_succ, i64_w, i32_w]
    rfl
   refine take_ (i := 1) (N := some 11) (v := ?_) (a' := ?_) #[true, true, false, false, false, false, false] rfl rfl (by kernel_rfl) (fun _ _ _ h => h) (Or.inl ⟨by rfl, ?_⟩) hHeld ?_ ?_
   rotate_left
   ·
    rintro w' ⟨s0, s1, s2, s3, s4, s5, s6, s7, s8, s9, s10⟩
    go_simp
    with_reducible rfl
   rotate_left
   ·
    simp only [Act.put, List.setIfInBounds_toArray, List.set_cons_zero, List.set_cons_succ, i64_w, i32_w]
    rfl
   refine take_ (i := 2) (N := some 12) (v := ?_) (a' := ?_) #[true, true, true, false, false, false, false] rfl rfl (by kernel_rfl) (fun _ _ _ h => h) (Or.inl ⟨by rfl, ?_⟩) hHeld ?_ ?_
   rotate_left
   ·
    rintro w' ⟨s0, s1, s2, s3, s4, s5, s6, s7, s8, s9, s10⟩
    go_simp
    with_reducible rfl
   rotate_left
   ·
    simp only [Act.put, List.setIfInBounds_toArray, List.set_cons_zero, List.set_cons_succ, i64_w, i32_w]
    rfl
   refine one_ (i := 3) (N := some 13) #[true, true, true, true, false, false, false] rfl rfl (by kernel_rfl) (by decide) (fun K hK => ?_)
   refine goes_ Try.func70 (by kernel_rfl) rfl #[.agg #[.int .i64 a1_0, .string a1_1, .int .i64 a1_2]] (by rfl) rfl rfl (by (try simp only [List.map_toArray, List.map_cons, List.map_nil]); first | done | rfl | (simp only [List.length_drop, List.length_take]; rfl)) ?_
   with_reducible refine (impl_PutFrame.calls k a1_0 a1_1 a1_2 t264 _ A23.out).mono ?_
   rintro e w26 ⟨v265, rfl, ho0, hb⟩
   refine ⟨_, rfl, ?_⟩
   have HO266 := am_ (Kd.R_lower (Kd.R_new' (Kd.R_new' ho0 (Kd.R_lt (qR HO256))) (Kd.R_lt (qR HO259))) (below_size (qB HB)))
   replace HO256 := am_ (Kd.R_elder' (qR HO256) (Kd.R_base ho0) hb)
   replace HO259 := am_ (Kd.R_elder' (qR HO259) (Kd.R_base ho0) hb)
   replace BK247 := am_ (blk_below (qK BK247) hb)
   replace BK248 := am_ (blk_below (qK BK248) hb)
   replace BK249 := am_ (blk_below (qK BK249) hb)
   replace BK262 := am_ (blk_below (qK BK262) hb)
   replace HB := am_ (below_step (qB HB) hb)
   (try clear hb ho0)
   obtain ⟨Ao28, co28, eo28⟩ := Kd.R_slice HO266.out
   (first | subst eo28 | (injection eo28 with f1_ f2_ f3_; have f4_ := f1_.symm; have f5_ := f3_.symm; clear f1_ f2_ f3_; subst f4_; subst f5_))
   refine hK.out _ _ (cw8 BK262.out (cz3 BK248.out)) (fun hHeld => ?_)
   clear hK K
   refine norm_ (a' := ?_) ?_ ?_
   rotate_left
   ·
    show Act.put _ (some 13) _ = _
    simp only [Act.put, List.setIfInBounds_toArray, List.set_cons_zero, List.set_cons_succ, i64_w, i32_w]
    rfl
   refine one_ (i := 4) (N := some 14) #[true, true, true, true, true, false, false] rfl rfl (by kernel_rfl) (by decide) (fun K hK => ?_)
   refine Kd.R_append_rows_step (Kd.int .u8) (w0 := w) w.heap.size (by rfl) (.tmp 11) (.tmp 13) 22 5 (.int .u8 0) 1 rfl Try.underlying22 info5 rfl (by decide) (by omega) (.slice Ao19 t257.length co19) t257 t264 _ _ _ (fun k_ => some k_ ≠ (.slice Ao18 t254.length co18 : Value).ownBlock ∧ some k_ ≠ (.slice Ao28 t264.length co28 : Value).ownBlock) (fun _ => False) rfl rfl ?aO ?aR (fun _ _ h => h) (fun _ h => h.elim) ?aF ?aB ?aS ?aL ?_
   (case aR => exact qC ((Kd.R_reads' HO266.out).2.2))
   (case aB => exact (qB HB))
   (case aF => exact (fun k_ hk => ⟨Kd.fresh' (Kd.R_lt (qR HO256)) k_ hk, Kd.fresh' (Kd.R_lt (qR HO266)) k_ hk⟩))
   (case aO => exact (qR HO259))
   (case aS => exact (below_size (qB HB)))
   (case aL => have := LMc24.out; omega)
   intro v268 w27 ho hb hg hat
   rw [← Ny267.out] at ho
   replace BK247 := am_ (blk_grown (qK BK247) hg (Kd.R_ne HO259.out BK247.out (by decide)))
   replace BK248 := am_ (blk_grown (qK BK248) hg (Kd.R_ne HO259.out BK248.out (by decide)))
   replace BK249 := am_ (blk_grown (qK BK249) hg (Kd.R_ne HO259.out BK249.out (by decide)))
   replace HO256 := am_ (Kd.R_after (ok := (fun k_ => some k_ ≠ (.slice Ao28 t264.length co28 : Value).ownBlock)) (tR (Kd.R_mono HO256.out (fun _ hk => ⟨hk.2, hk.1⟩))) hg hat)
   replace BK262 := am_ (blk_grown (qK BK262) hg (Kd.R_ne HO259.out BK262.out (by decide)))
   replace HO266 := am_ (Kd.R_after (ok := (fun k_ => some k_ ≠ (.slice Ao18 t254.length co18 : Value).ownBlock)) (tR (Kd.R_mono HO266.out (fun _ hk => ⟨hk.1.2, hk.2⟩))) hg hat)
   replace HB := am_ (hb)
   have HO269 := am_ (ho)
   clear HO259
   clear ho hb hg hat
   obtain ⟨Ao29, co29, eo29⟩ := Kd.R_slice HO269.out
   (first | subst eo29 | (injection eo29 with f1_ f2_ f3_; have f4_ := f1_.symm; have f5_ := f3_.symm; clear f1_ f2_ f3_; subst f4_; subst f5_))
   refine hK.out _ _ (cw8 BK262.out (cz3 BK248.out)) (fun hHeld => ?_)
   clear hK K
   refine norm_ (a' := ?_) ?_ ?_
   rotate_left
   ·
    show Act.put _ (some 14) _ = _
    simp only [Act.put, List.setIfInBounds_toArray, List.set_cons_zero, List.set_cons_succ, i64_w, i32_w]
    rfl
   refine pure_ (i := 5) (N := some 15) (v := ?_) (a' := ?_) #[true, true, true, true, true, true, false] rfl rfl (by kernel_rfl) (fun _ _ _ h => h) (Or.inl ⟨by rfl, ?_⟩) ?_ ?_
   rotate_left
   ·
    intro w'
    go_simp
    with_reducible rfl
   rotate_left
   ·
    simp only [Act.put, List.setIfInBounds_toArray, List.set_cons_zero, List.set_cons_succ, i64_w, i32_w]
    rfl
   refine last_ (i := 6) (N := none) #[true, true, true, true, true, true, true] rfl rfl (by kernel_rfl) (by decide) (fun K hK => ?_)
   have hs30 : w27.cell? ⟨gb262, 5, none⟩ = some (.slice Ao19 t257.length co19) := (blk_cell BK262.out 5).trans rfl
   have hfs30 := blk_frozen BK262.out 5
   have hns30_0 := NB247_262.out
   have hns30_1 := NB248_262.out
   have hns30_2 := NB249_262.out
   have hms30_0 := NB262_247.out
   have hms30_1 := NB262_248.out
   have hms30_2 := NB262_249.out
   refine skip_ (w1 := ?_) (by rfl) rfl ?_ ?_
   rotate_left
   ·
    go_simp
    rfl
   refine hK.out _ _ ?_
   clear hK K
   refine done_ (by kernel_rfl) ?_
   have hnb31 := NB262_247.out
   have hnc31 := NB247_262.out
   have hnb32 := NB262_248.out
   have hnc32 := NB248_262.out
   have hnb33 := NB262_249.out
   have hnc33 := NB249_262.out
   obtain ⟨hcz34_0, hcz34_1, hcz34_2, hcz34_3, hcz34_4, hcz34_5, hcz34_6, hcz34_7⟩ := cz8 BK262.out
   obtain ⟨hfz34_0, hfz34_1, hfz34_2, hfz34_3, hfz34_4, hfz34_5, hfz34_6, hfz34_7⟩ := fz8 BK262.out
   have hnb35 := NB249_247.out
   have hnc35 := NB247_249.out
   have hnb36 := NB249_248.out
   have hnc36 := NB248_249.out
   obtain ⟨hcz37_0, hcz37_1, hcz37_2, hcz37_3, hcz37_4, hcz37_5, hcz37_6, hcz37_7⟩ := cz8 BK249.out
   obtain ⟨hfz37_0, hfz37_1, hfz37_2, hfz37_3, hfz37_4, hfz37_5, hfz37_6, hfz37_7⟩ := fz8 BK249.out
   try go_wp2
   refine bodyPost_ret (results_cell_row rfl _ _ gb249 29 #[.int .i64 t250, .int .i64 t251, .int .i64 t252, .bool t253, .slice Ao18 t254.length co18, .slice Ao29 y267.length co29, .int .i64 t260, .int .i64 t261] (0, 0) _ rfl (by (with_reducible repeat (first | refine blk_drewN ?_ _ | refine blk_drew ?_ | refine blk_alloc ?_ _)); refine Go.Proofs.YtahfemlfdpbkkaaV.blk_all8 (show _ = some (Go.Obj.cells #[.int .i64 0, .int .i64 0, .int .i64 0, .bool false, .slice none 0 0, .slice none 0 0, .int .i64 0, .int .i64 0] _ (0, 0)) from ?_); (with_reducible repeat (first | refine blk_drewN ?_ _ | refine blk_drew ?_ | refine blk_alloc ?_ _)); refine blk_far ?_ NB249_262.out _; (with_reducible repeat (first | refine blk_drewN ?_ _ | refine blk_drew ?_ | refine blk_alloc ?_ _)); exact BK249.out) Try.underlying29 rfl (by kernel_rfl)) rfl ?_
   exact ⟨_, _, by first | rfl | (simp [errW_none, errW_some] <;> rfl) | (simp [*, errW_none, errW_some] <;> rfl), by (with_reducible repeat (first | apply Kd.R_alloc | apply Kd.R_drewN | apply Kd.R_drew)); exact Kd.R_mono (Go.Proofs.YtahfemlfdpbkkaaV.R_far8 (g := gb249) (Kd.R_far (p := ⟨gb262, 5, none⟩) (Kd.R_types (Kd.R_types HO256.out BK262.out (by decide)) BK249.out (by decide)) (fun _ hk => hk.1.2) (.slice Ao29 y267.length co29)) (fun _ hk => hk.2)) (fun _ hk => hk.1.1.2), by (with_reducible repeat (first | apply Kd.R_alloc | apply Kd.R_drewN | apply Kd.R_drew)); exact Kd.R_mono (Go.Proofs.YtahfemlfdpbkkaaV.R_far8 (g := gb249) (Kd.R_far (p := ⟨gb262, 5, none⟩) (Kd.R_types (Kd.R_types HO269.out BK262.out (by decide)) BK249.out (by decide)) (fun _ hk => hk.1.2) (.slice Ao29 y267.length co29)) (fun _ hk => hk.2)) (fun _ hk => hk.1.1.1), qB HB⟩
  ·
   rw [if_neg c24] at H
   exact absurd H (by simp)
 ·
  replace c22 := Bool.eq_false_iff.mpr c22
  subst c22
  have H1 : (some (t250, t251, t252, t253, t254, t257, t260, t261)) = some (r1, r2, r3, r4, r5, r6, r7, r8) := by rw [if_neg (show ¬ (false = true) by decide)] at H; exact H
  clear H
  have H := H1
  clear H1
  simp only [Option.some.injEq, Prod.mk.injEq] at H
  obtain ⟨rfl, rfl, rfl, rfl, rfl, rfl, rfl, rfl⟩ := H
  have hnb38 := NB262_247.out
  have hnc38 := NB247_262.out
  have hnb39 := NB262_248.out
  have hnc39 := NB248_262.out
  have hnb40 := NB262_249.out
  have hnc40 := NB249_262.out
  obtain ⟨hcz41_0, hcz41_1, hcz41_2, hcz41_3, hcz41_4, hcz41_5, hcz41_6, hcz41_7⟩ := cz8 BK262.out
  obtain ⟨hfz41_0, hfz41_1, hfz41_2, hfz41_3, hfz41_4, hfz41_5, hfz41_6, hfz41_7⟩ := fz8 BK262.out
  have hnb42 := NB249_247.out
  have hnc42 := NB247_249.out
  have hnb43 := NB249_248.out
  have hnc43 := NB248_249.out
  obtain ⟨hcz44_0, hcz44_1, hcz44_2, hcz44_3, hcz44_4, hcz44_5, hcz44_6, hcz44_7⟩ := cz8 BK249.out
  obtain ⟨hfz44_0, hfz44_1, hfz44_2, hfz44_3, hfz44_4, hfz44_5, hfz44_6, hfz44_7⟩ := fz8 BK249.out
  go_wp2
  refine bodyPost_ret (results_cell_row rfl _ _ gb249 29 #[.int .i64 t250, .int .i64 t251, .int .i64 t252, .bool t253, .slice Ao18 t254.length co18, .slice Ao19 t257.length co19, .int .i64 t260, .int .i64 t261] (0, 0) _ rfl (by (with_reducible repeat (first | refine blk_drewN ?_ _ | refine blk_drew ?_ | refine blk_alloc ?_ _)); refine Go.Proofs.YtahfemlfdpbkkaaV.blk_all8 (show _ = some (Go.Obj.cells #[.int .i64 0, .int .i64 0, .int .i64 0, .bool false, .slice none 0 0, .slice none 0 0, .int .i64 0, .int .i64 0] _ (0, 0)) from ?_); (with_reducible repeat (first | refine blk_drewN ?_ _ | refine blk_drew ?_ | refine blk_alloc ?_ _)); exact BK249.out) Try.underlying29 rfl (by kernel_rfl)) rfl ?_
  exact ⟨_, _, by first | rfl | (simp [errW_none, errW_some] <;> rfl) | (simp [*, errW_none, errW_some] <;> rfl), by (with_reducible repeat (first | apply Kd.R_alloc | apply Kd.R_drewN | apply Kd.R_drew)); exact Kd.R_mono (Go.Proofs.YtahfemlfdpbkkaaV.R_far8 (g := gb249) (Kd.R_types HO256.out BK249.out (by decide)) (fun _ hk => hk.2)) (fun _ hk => hk.1), by (with_reducible repeat (first | apply Kd.R_alloc | apply Kd.R_drewN | apply Kd.R_drew)); exact Kd.R_mono (Go.Proofs.YtahfemlfdpbkkaaV.R_far8 (g := gb249) (Kd.R_types HO259.out BK249.out (by decide)) (fun _ hk => hk.2)) (fun _ hk => hk.1), qB HB⟩

end Go.Proofs.Ytahfemlfdpbkkaa.PFnExactTell
