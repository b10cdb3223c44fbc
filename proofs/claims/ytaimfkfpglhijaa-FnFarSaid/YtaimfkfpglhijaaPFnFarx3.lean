-- Written by a program of this session (myprint.py, over the kit's print): contracts of FnFar
import Derived.Test.YtaimfkfpglhijaaPFnFarx0
import Derived.Test.YtaimfkfpglhijaaPFnFarx2
namespace Go.Proofs.Ytaimfkfpglhijaa.PFnFar
open Go.RowKit Go.Proofs.YtaimfkfpglhijaaW.PrintWords Go.Proofs.YtaimfkfpglhijaaW.PrintLast Go.Proofs.YtaimfkfpglhijaaW.PrintMore Go.Proofs.YtaimfkfpglhijaaV
attribute [local go_sem] max2_int min2_int max_two min_two max_three min_three max_four min_four   -- for this text's walks alone
set_option linter.unusedVariables false
set_option linter.unusedSimpArgs false

/-! ### spec_l1Name: function 118 -/
def spec_l1Name.l0 : Nat → ByteArray → Int → Option (Bool)
 | 0, _, _ => none
 | k + 1, x0, x3 => if x3 < (x0.size : Int) then (if 0 ≤ x3 then (if (bt x0 x3) < 97 then (some false) else (if (bt x0 x3) > 122 then (some false) else (spec_l1Name.l0 k x0 (wrap64 (x3 + 1))))) else (none)) else ((spec_l1In.f (x0.size : Int) 1 8).bind fun t146 => (some t146))
def spec_l1Name.f (k : Nat) (a0 : ByteArray) : Option (Bool) := spec_l1Name.l0 k a0 0
theorem spec_l1Name.mono_l : ∀ k, (∀ y0 y1, LeO (spec_l1Name.l0 k y0 y1) (spec_l1Name.l0 (k + 1) y0 y1))
 | 0 => fun _ _ r h => by simp [spec_l1Name.l0] at h
 | k + 1 => by
  have ih0 := spec_l1Name.mono_l k
  ·
   intro y0 y1
   unfold spec_l1Name.l0
   repeat' first
   | (with_reducible exact ih0 _ _)
   | (with_reducible exact LeO.refl _)
   | (with_reducible exact LeO.none _)
   | (with_reducible refine LeO.ite ?_ ?_)
   | (with_reducible refine LeO.bind ?_ (fun _ => ?_))
   | exact ih0 _ _
   | exact LeO.none _
   | refine LeO.ite ?_ ?_
   | refine LeO.bind ?_ (fun _ => ?_)
theorem spec_l1Name.mono : ∀ a0 k, LeO (spec_l1Name.f k a0) (spec_l1Name.f (k + 1) a0) := by
 intro a0 k
 have ih0 := spec_l1Name.mono_l k
 unfold spec_l1Name.f
 repeat' first
   | (with_reducible exact ih0 _ _)
   | (with_reducible exact LeO.refl _)
   | (with_reducible exact LeO.none _)
   | (with_reducible refine LeO.ite ?_ ?_)
   | (with_reducible refine LeO.bind ?_ (fun _ => ?_))
   | exact ih0 _ _
   | exact LeO.none _
   | refine LeO.ite ?_ ?_
   | refine LeO.bind ?_ (fun _ => ?_)
set_option maxHeartbeats 8000000 in
set_option maxRecDepth 100000 in
theorem spec_l1Name.calls (k : Nat) (a0 : ByteArray) (r : Bool) (w : World) (h : spec_l1Name.f k a0 = some r) :
  Calls Try.prog 118 #[.string a0] w fun e w' => e = .returned (.bool r) ∧ Drawn0 w w' := by
 have H : (spec_l1Name.l0 k a0 0) = some r := h
 clear h
 have H' := Aside0.mk H
 clear H
 go_enter Try.func118, Try.ntmps118
 go_wp2
 go_loopg [3] k (fun kq v3 w' => ∃ (x3_1 : Int), v3 = .int .i64 x3_1 ∧ Aside0 (spec_l1Name.l0 kq a0 x3_1 = some r) ∧ Aside0 (kq ≤ k) ∧ Drawn0 w w')
 case atStart => exact ⟨(0), eqq_, H', ⟨Nat.le_refl _⟩, by repeat (first | exact Drawn0.refl _ | apply Drawn0.step)⟩
 case round =>
  clear H'
  try clear c1
  obtain ⟨x3_1, rfl, HA, HK1, ⟨m1, rfl⟩⟩ := hrel
  cases gk with
  | zero => exact absurd HA.out (by simp [spec_l1Name.l0])
  | succ k1 =>
   have H := HA.out
   clear HA
   simp only [spec_l1Name.l0] at H
   by_cases c2 : x3_1 < (a0.size : Int)
   ·
    rw [if_pos c2] at H
    have c2b0 : decide (x3_1 < (a0.size : Int)) = true := decide_eq_true c2
    clear c2
    by_cases c3 : 0 ≤ x3_1
    case neg => exact nn_ c3 H
    rw [if_pos c3] at H
    have c3b0 : decide (0 ≤ x3_1) = true := decide_eq_true c3
    clear c3
    by_cases c5 : (bt a0 x3_1) < 97
    ·
     rw [if_pos c5] at H
     have c5b0 : decide ((bt a0 x3_1) < 97) = true := decide_eq_true c5
     clear c5
     obtain rfl := Option.some.inj H
     have p4 : 0 ≤ (x3_1 : Int) := od_
     have q4 : x3_1 < (a0.size : Int) := od_
     have hx4 := bt_at a0 x3_1
     replace p4 := eq_true p4
     replace q4 := eq_true q4
     go_wp2
     go_ret
     exact ⟨by first | rfl | (simp; done) | (simp [*]; done), by repeat (first | exact Drawn0.refl _ | apply Drawn0.step)⟩
    ·
     rw [if_neg c5] at H
     have c5b0 : decide ((bt a0 x3_1) < 97) = false := decide_eq_false c5
     clear c5
     by_cases c7 : (bt a0 x3_1) > 122
     ·
      rw [if_pos c7] at H
      have c7b0 : decide (122 < (bt a0 x3_1)) = true := decide_eq_true c7
      clear c7
      obtain rfl := Option.some.inj H
      have p4 : 0 ≤ (x3_1 : Int) := od_
      have q4 : x3_1 < (a0.size : Int) := od_
      have hx4 := bt_at a0 x3_1
      replace p4 := eq_true p4
      replace q4 := eq_true q4
      have p6 : 0 ≤ (x3_1 : Int) := od_
      have q6 : x3_1 < (a0.size : Int) := od_
      have hx6 := bt_at a0 x3_1
      replace p6 := eq_true p6
      replace q6 := eq_true q6
      go_wp2
      go_ret
      exact ⟨by first | rfl | (simp; done) | (simp [*]; done), by repeat (first | exact Drawn0.refl _ | apply Drawn0.step)⟩
     ·
      rw [if_neg c7] at H
      have c7b0 : decide (122 < (bt a0 x3_1)) = false := decide_eq_false c7
      clear c7
      have H' := Aside0.mk H
      clear H
      have p4 : 0 ≤ (x3_1 : Int) := od_
      have q4 : x3_1 < (a0.size : Int) := od_
      have hx4 := bt_at a0 x3_1
      replace p4 := eq_true p4
      replace q4 := eq_true q4
      have p6 : 0 ≤ (x3_1 : Int) := od_
      have q6 : x3_1 < (a0.size : Int) := od_
      have hx6 := bt_at a0 x3_1
      replace p6 := eq_true p6
      replace q6 := eq_true q6
      go_wp2
      go_roundg k1
      case measure => have := HK1.out; omega
      case rel => exact ⟨(wrap64 (x3_1 + 1)), eqq_, H', ⟨by have := HK1.out; omega⟩, by repeat (first | exact Drawn0.refl _ | apply Drawn0.step)⟩
   ·
    rw [if_neg c2] at H
    have c2b0 : decide (x3_1 < (a0.size : Int)) = false := decide_eq_false c2
    clear c2
    obtain ⟨t146, A8, H⟩ := bd_ H
    obtain rfl := Option.some.inj H
    go_wp2_with (first | ((with_reducible refine gate_callee (f := 117) rfl ?_); refine goesL_ (some 22) rfl rfl Try.func117 (by kernel_rfl) rfl #[.int .i64 (a0.size : Int), .int .i64 1, .int .i64 8] rfl la_ ?_; (with_reducible refine (spec_l1In.calls (a0.size : Int) 1 8 t146 _ A8.out).mono ?_); rintro e w' ⟨rfl, ⟨nd, rfl⟩⟩; refine ⟨_, rfl, ?_⟩))
    go_ret
    exact ⟨by first | rfl | (simp; done) | (simp [*]; done), by repeat (first | exact Drawn0.refl _ | apply Drawn0.step)⟩

/-! ### spec_FrameOk: function 181 -/
def spec_FrameOk.j0 : Nat → Int → Bool → Int → ByteArray → Int → Option (Bool)
 | 0, _, _, _, _, _ => none
 | k + 1, x4, x15, x148000, x148001, x148002 => if x15 = true then ((spec_TextOk.f k x148001).bind fun t149 => (if t149 = true then (some (x148002 == 0)) else (some false))) else (if x4 = 5 then (if x148001.toList = ([] : List UInt8) then ((spec_l1In.f x148002 0 2).bind fun t150 => (some t150)) else (some false)) else (if x148000 = 3 then (if x148001.toList = ([] : List UInt8) then (some (x148002 == 0)) else (some false)) else (some false)))
def spec_FrameOk.f (k : Nat) (a0_0 : Int) (a0_1 : ByteArray) (a0_2 : Int) : Option (Bool) := if a0_0 = 1 then ((spec_l1Name.f k a0_1).bind fun t148 => (if t148 = true then (some (a0_2 == 0)) else (some false))) else (if a0_0 = 2 then (spec_FrameOk.j0 k a0_0 (a0_0 == 2) a0_0 a0_1 a0_2) else (if a0_0 = 4 then (spec_FrameOk.j0 k a0_0 (a0_0 == 4) a0_0 a0_1 a0_2) else (spec_FrameOk.j0 k a0_0 (a0_0 == 6) a0_0 a0_1 a0_2)))
theorem spec_FrameOk.mono_l : ∀ k, (∀ y0 y1 y2 y3 y4, LeO (spec_FrameOk.j0 k y0 y1 y2 y3 y4) (spec_FrameOk.j0 (k + 1) y0 y1 y2 y3 y4))
 | 0 => fun _ _ _ _ _ r h => by simp [spec_FrameOk.j0] at h
 | k + 1 => by
  have ih0 := spec_FrameOk.mono_l k
  ·
   intro y0 y1 y2 y3 y4
   unfold spec_FrameOk.j0
   repeat' first
   | (with_reducible exact ih0 _ _ _ _ _)
   | (with_reducible exact spec_TextOk.mono _ _)
   | (with_reducible exact spec_l1Name.mono _ _)
   | (with_reducible exact LeO.refl _)
   | (with_reducible exact LeO.none _)
   | (with_reducible refine LeO.ite ?_ ?_)
   | (with_reducible refine LeO.bind ?_ (fun _ => ?_))
   | exact ih0 _ _ _ _ _
   | exact spec_TextOk.mono _ _
   | exact spec_l1Name.mono _ _
   | exact LeO.none _
   | refine LeO.ite ?_ ?_
   | refine LeO.bind ?_ (fun _ => ?_)
theorem spec_FrameOk.mono : ∀ a0 a1 a2 k, LeO (spec_FrameOk.f k a0 a1 a2) (spec_FrameOk.f (k + 1) a0 a1 a2) := by
 intro a0 a1 a2 k
 have ih0 := spec_FrameOk.mono_l k
 unfold spec_FrameOk.f
 repeat' first
   | (with_reducible exact ih0 _ _ _ _ _)
   | (with_reducible exact spec_TextOk.mono _ _)
   | (with_reducible exact spec_l1Name.mono _ _)
   | (with_reducible exact LeO.refl _)
   | (with_reducible exact LeO.none _)
   | (with_reducible refine LeO.ite ?_ ?_)
   | (with_reducible refine LeO.bind ?_ (fun _ => ?_))
   | exact ih0 _ _ _ _ _
   | exact spec_TextOk.mono _ _
   | exact spec_l1Name.mono _ _
   | exact LeO.none _
   | refine LeO.ite ?_ ?_
   | refine LeO.bind ?_ (fun _ => ?_)
set_option maxHeartbeats 8000000 in
set_option maxRecDepth 100000 in
theorem spec_FrameOk.calls (k : Nat) (a0_0 : Int) (a0_1 : ByteArray) (a0_2 : Int) (r : Bool) (w : World) (h : spec_FrameOk.f k a0_0 a0_1 a0_2 = some r) :
  Calls Try.prog 181 #[.agg #[.int .i64 a0_0, .string a0_1, .int .i64 a0_2]] w fun e w' => e = .returned (.bool r) ∧ Below w.heap.size w w' := by
 have hu47 := Try.underlying47
 have HB := Aside0.mk (Below.refl w.heap.size w)
 have H : (if a0_0 = 1 then ((spec_l1Name.f k a0_1).bind fun t148 => (if t148 = true then (some (a0_2 == 0)) else (some false))) else (if a0_0 = 2 then (spec_FrameOk.j0 k a0_0 (a0_0 == 2) a0_0 a0_1 a0_2) else (if a0_0 = 4 then (spec_FrameOk.j0 k a0_0 (a0_0 == 4) a0_0 a0_1 a0_2) else (spec_FrameOk.j0 k a0_0 (a0_0 == 6) a0_0 a0_1 a0_2)))) = some r := h
 clear h
 have HC2 := Aside0.mk H
 clear H
 go_enter Try.func181, Try.ntmps181
 go_upto_if 5 with (first | ((with_reducible refine gate_dst (N := 1) rfl ?_); refine box_event ?hg (N := 1) ?hd (cs := #[.int .i64 a0_0, .string a0_1, .int .i64 a0_2]) (t := 47) ?hr ?_; (case hd => rfl); (case hg => rfl); (case hr => first | (go_simp; done) | (go_simp; rfl)); intro gb147 hg w3 hbox hb; have BK147 := am_ (hbox); have GW147 := am_ ((gG_ hg (qB HB))); have IGW147 := gI_ GW147; have GE147 := am_ ((gG_ hg (qB HB))); have IGE147 := gI_ GE147; replace HB := am_ (below_step (qB HB) hb); clear hb hbox hg; obtain ⟨z4_0, z4_1, z4_2⟩ := cz3 BK147.out; obtain ⟨f4_0, f4_1, f4_2⟩ := fz3 BK147.out))
 (try simp only [Act.put, List.setIfInBounds_toArray, List.set_cons_zero, List.set_cons_succ])
 have H := HC2.out
 clear HC2
 by_cases c5 : a0_0 = 1
 ·
  rw [if_pos c5] at H
  have c5b0 : (a0_0 == 1) = true := beq_iff_eq.mpr c5
  have c5b1 : (a0_0 != 1) = false := bne_eq_false_iff_eq.mpr c5
  clear c5
  (first | rw [c5b0] | rw [c5b1] | (simp only [i64_w, i32_w]; rw [c5b0]) | skip)
  obtain ⟨t148, A6, H⟩ := bd_ H
  by_cases c7 : t148 = true
  ·
   subst c7
   rw [if_pos rfl] at H
   obtain rfl := Option.some.inj H
   obtain ⟨z8_0, z8_1, z8_2⟩ := cz3 BK147.out
   obtain ⟨f8_0, f8_1, f8_2⟩ := fz3 BK147.out
   go_wp2_with (first | ((with_reducible refine gate_callee (f := 118) rfl ?_); refine goesL_ (some 9) rfl rfl Try.func118 (by kernel_rfl) rfl #[.string a0_1] rfl la_ ?_; (with_reducible refine (spec_l1Name.calls k a0_1 true _ A6.out).mono ?_); rintro e w' ⟨rfl, ⟨nd, rfl⟩⟩; refine ⟨_, rfl, ?_⟩))
   go_ret
   exact ⟨er_, qB HB⟩
  ·
   replace c7 := Bool.eq_false_iff.mpr c7
   subst c7
   rw [if_neg (show ¬ (false = true) by decide)] at H
   obtain rfl := Option.some.inj H
   obtain ⟨z9_0, z9_1, z9_2⟩ := cz3 BK147.out
   obtain ⟨f9_0, f9_1, f9_2⟩ := fz3 BK147.out
   go_wp2_with (first | ((with_reducible refine gate_callee (f := 118) rfl ?_); refine goesL_ (some 9) rfl rfl Try.func118 (by kernel_rfl) rfl #[.string a0_1] rfl la_ ?_; (with_reducible refine (spec_l1Name.calls k a0_1 false _ A6.out).mono ?_); rintro e w' ⟨rfl, ⟨nd, rfl⟩⟩; refine ⟨_, rfl, ?_⟩))
   go_ret
   exact ⟨er_, qB HB⟩
 ·
  rw [if_neg c5] at H
  have c5b0 : (a0_0 == 1) = false := beq_eq_false_iff_ne.mpr c5
  have c5b1 : (a0_0 != 1) = true := bne_iff_ne.mpr c5
  (first | rw [c5b0] | rw [c5b1] | (simp only [i64_w, i32_w]; rw [c5b0]) | skip)
  have HC10 := Aside0.mk H
  clear H
  go_upto_if 15 with (fail)
  go_cut [15] (fun v15 wc => ∃ (kq : Nat) (x15_9 : Bool), v15 = .bool x15_9 ∧ Aside0 (spec_FrameOk.j0 kq a0_0 x15_9 a0_0 a0_1 a0_2 = some r) ∧ Aside0 (kq ≤ k) ∧ Aside0 (wc.heap[gb147]? = some (.cells #[.int .i64 a0_0, .string a0_1, .int .i64 a0_2] 47 (0, 0))) ∧ Aside0 (Below w.heap.size w wc))
  case first =>
   have H := HC10.out
   clear HC10
   by_cases c11 : a0_0 = 2
   ·
    rw [if_pos c11] at H
    have c11b0 : (a0_0 == 2) = true := beq_iff_eq.mpr c11
    have c11b1 : (a0_0 != 2) = false := bne_eq_false_iff_eq.mpr c11
    clear c11
    (first | rw [c11b0] | rw [c11b1] | (simp only [i64_w, i32_w]; rw [c11b0]) | skip)
    have H' := Aside0.mk H
    clear H
    go_wp2
    go_meet
    case rel => exact ⟨_, ((a0_0 == 2)), eqq_, H', ⟨by first | omega | exact Nat.le_refl _⟩, ⟨qK BK147⟩, ⟨qB HB⟩⟩
   ·
    rw [if_neg c11] at H
    have c11b0 : (a0_0 == 2) = false := beq_eq_false_iff_ne.mpr c11
    have c11b1 : (a0_0 != 2) = true := bne_iff_ne.mpr c11
    (first | rw [c11b0] | rw [c11b1] | (simp only [i64_w, i32_w]; rw [c11b0]) | skip)
    by_cases c12 : a0_0 = 4
    ·
     rw [if_pos c12] at H
     have c12b0 : (a0_0 == 4) = true := beq_iff_eq.mpr c12
     have c12b1 : (a0_0 != 4) = false := bne_eq_false_iff_eq.mpr c12
     clear c12
     have H' := Aside0.mk H
     clear H
     go_wp2
     go_meet
     case rel => exact ⟨_, ((a0_0 == 4)), eqq_, H', ⟨by first | omega | exact Nat.le_refl _⟩, ⟨qK BK147⟩, ⟨qB HB⟩⟩
    ·
     rw [if_neg c12] at H
     have c12b0 : (a0_0 == 4) = false := beq_eq_false_iff_ne.mpr c12
     have c12b1 : (a0_0 != 4) = true := bne_iff_ne.mpr c12
     have H' := Aside0.mk H
     clear H
     go_wp2
     go_meet
     case rel => exact ⟨_, ((a0_0 == 6)), eqq_, H', ⟨by first | omega | exact Nat.le_refl _⟩, ⟨qK BK147⟩, ⟨qB HB⟩⟩
  case rest =>
   clear HC10
   try clear c1
   try clear p2
   try clear c5
   try clear c5b0
   try clear c5b1
   try clear c7
   try clear c11
   try clear c11b0
   try clear c11b1
   try clear c12
   try clear c12b0
   try clear c12b1
   (try clear z4_0 z4_1 z4_2)
   (try clear z8_0 z8_1 z8_2)
   (try clear z9_0 z9_1 z9_2)
   (try clear f4_0 f4_1 f4_2)
   (try clear f8_0 f8_1 f8_2)
   (try clear f9_0 f9_1 f9_2)
   obtain ⟨kq, x15_9, rfl, HA, HJ9, BK147, HB⟩ := hcut
   cases kq with
   | zero => exact absurd HA.out (by simp [spec_FrameOk.j0])
   | succ kj9 =>
    have H := HA.out
    clear HA
    simp only [spec_FrameOk.j0] at H
    by_cases c13 : x15_9 = true
    ·
     subst c13
     rw [if_pos rfl] at H
     obtain ⟨t149, A14, H⟩ := bd_ H
     by_cases c15 : t149 = true
     ·
      subst c15
      rw [if_pos rfl] at H
      obtain rfl := Option.some.inj H
      obtain ⟨z16_0, z16_1, z16_2⟩ := cz3 BK147.out
      obtain ⟨f16_0, f16_1, f16_2⟩ := fz3 BK147.out
      go_wp2_with (first | ((with_reducible refine gate_callee (f := 120) rfl ?_); refine goesL_ (some 21) rfl rfl Try.func120 (by kernel_rfl) rfl #[.string a0_1] rfl la_ ?_; (with_reducible refine (spec_TextOk.calls kj9 a0_1 true _ A14.out).mono ?_); rintro e w' ⟨rfl, ⟨nd, rfl⟩⟩; refine ⟨_, rfl, ?_⟩))
      go_ret
      exact ⟨er_, qB HB⟩
     ·
      replace c15 := Bool.eq_false_iff.mpr c15
      subst c15
      rw [if_neg (show ¬ (false = true) by decide)] at H
      obtain rfl := Option.some.inj H
      obtain ⟨z17_0, z17_1, z17_2⟩ := cz3 BK147.out
      obtain ⟨f17_0, f17_1, f17_2⟩ := fz3 BK147.out
      go_wp2_with (first | ((with_reducible refine gate_callee (f := 120) rfl ?_); refine goesL_ (some 21) rfl rfl Try.func120 (by kernel_rfl) rfl #[.string a0_1] rfl la_ ?_; (with_reducible refine (spec_TextOk.calls kj9 a0_1 false _ A14.out).mono ?_); rintro e w' ⟨rfl, ⟨nd, rfl⟩⟩; refine ⟨_, rfl, ?_⟩))
      go_ret
      exact ⟨er_, qB HB⟩
    ·
     replace c13 := Bool.eq_false_iff.mpr c13
     subst c13
     rw [if_neg (show ¬ (false = true) by decide)] at H
     by_cases c18 : a0_0 = 5
     ·
      rw [if_pos c18] at H
      have c18b0 : (a0_0 == 5) = true := beq_iff_eq.mpr c18
      have c18b1 : (a0_0 != 5) = false := bne_eq_false_iff_eq.mpr c18
      clear c18
      by_cases c19 : a0_1.toList = ([] : List UInt8)
      ·
       rw [if_pos c19] at H
       have c19b0 : (a0_1.toList == ([] : List UInt8)) = true := beq_iff_eq.mpr c19
       (try (have c19b0e := c19b0; simp only [Go.Proofs.YtaimfkfpglhijaaV.beq_nil, Go.Proofs.YtaimfkfpglhijaaV.bne_nil] at c19b0e))
       have c19b1 : (a0_1.toList != ([] : List UInt8)) = false := bne_eq_false_iff_eq.mpr c19
       clear c19
       obtain ⟨t150, A20, H⟩ := bd_ H
       obtain rfl := Option.some.inj H
       obtain ⟨z21_0, z21_1, z21_2⟩ := cz3 BK147.out
       obtain ⟨f21_0, f21_1, f21_2⟩ := fz3 BK147.out
       go_wp2_with (first | (go_at_call 117; (with_reducible refine (spec_l1In.calls a0_2 0 2 t150 _ A20.out).mono ?_); rintro e w' ⟨rfl, ⟨nd, rfl⟩⟩))
       go_ret
       exact ⟨er_, qB HB⟩
      ·
       rw [if_neg c19] at H
       have c19b0 : (a0_1.toList == ([] : List UInt8)) = false := beq_eq_false_iff_ne.mpr c19
       (try (have c19b0e := c19b0; simp only [Go.Proofs.YtaimfkfpglhijaaV.beq_nil, Go.Proofs.YtaimfkfpglhijaaV.bne_nil] at c19b0e))
       have c19b1 : (a0_1.toList != ([] : List UInt8)) = true := bne_iff_ne.mpr c19
       obtain rfl := Option.some.inj H
       obtain ⟨z22_0, z22_1, z22_2⟩ := cz3 BK147.out
       obtain ⟨f22_0, f22_1, f22_2⟩ := fz3 BK147.out
       go_wp2
       go_ret
       exact ⟨er_, qB HB⟩
     ·
      rw [if_neg c18] at H
      have c18b0 : (a0_0 == 5) = false := beq_eq_false_iff_ne.mpr c18
      have c18b1 : (a0_0 != 5) = true := bne_iff_ne.mpr c18
      by_cases c23 : a0_0 = 3
      ·
       rw [if_pos c23] at H
       have c23b0 : (a0_0 == 3) = true := beq_iff_eq.mpr c23
       have c23b1 : (a0_0 != 3) = false := bne_eq_false_iff_eq.mpr c23
       clear c23
       by_cases c24 : a0_1.toList = ([] : List UInt8)
       ·
        rw [if_pos c24] at H
        have c24b0 : (a0_1.toList == ([] : List UInt8)) = true := beq_iff_eq.mpr c24
        (try (have c24b0e := c24b0; simp only [Go.Proofs.YtaimfkfpglhijaaV.beq_nil, Go.Proofs.YtaimfkfpglhijaaV.bne_nil] at c24b0e))
        have c24b1 : (a0_1.toList != ([] : List UInt8)) = false := bne_eq_false_iff_eq.mpr c24
        clear c24
        obtain rfl := Option.some.inj H
        obtain ⟨z25_0, z25_1, z25_2⟩ := cz3 BK147.out
        obtain ⟨f25_0, f25_1, f25_2⟩ := fz3 BK147.out
        go_wp2
        go_ret
        exact ⟨er_, qB HB⟩
       ·
        rw [if_neg c24] at H
        have c24b0 : (a0_1.toList == ([] : List UInt8)) = false := beq_eq_false_iff_ne.mpr c24
        (try (have c24b0e := c24b0; simp only [Go.Proofs.YtaimfkfpglhijaaV.beq_nil, Go.Proofs.YtaimfkfpglhijaaV.bne_nil] at c24b0e))
        have c24b1 : (a0_1.toList != ([] : List UInt8)) = true := bne_iff_ne.mpr c24
        obtain rfl := Option.some.inj H
        obtain ⟨z26_0, z26_1, z26_2⟩ := cz3 BK147.out
        obtain ⟨f26_0, f26_1, f26_2⟩ := fz3 BK147.out
        go_wp2
        go_ret
        exact ⟨er_, qB HB⟩
      ·
       rw [if_neg c23] at H
       have c23b0 : (a0_0 == 3) = false := beq_eq_false_iff_ne.mpr c23
       have c23b1 : (a0_0 != 3) = true := bne_iff_ne.mpr c23
       obtain rfl := Option.some.inj H
       obtain ⟨z27_0, z27_1, z27_2⟩ := cz3 BK147.out
       obtain ⟨f27_0, f27_1, f27_2⟩ := fz3 BK147.out
       go_wp2
       go_ret
       exact ⟨er_, qB HB⟩

/-! ### spec_PutFrame: function 126 -/
def spec_PutFrame.f (k : Nat) (a0_0 : Int) (a0_1 : ByteArray) (a0_2 : Int) : Option (List Int) := (spec_FrameOk.f k a0_0 a0_1 a0_2).bind fun t152 => (if t152 = true then ((some (([(a0_0) % 256] : List Int) : List Int)).bind fun y156 => (if a0_0 = 5 then (if y156.length < 140737488355328 then (some (y156 ++ [(a0_2) % 256])) else (none)) else (if a0_0 = 3 then (some y156) else ((spec_PutText.f k y156 a0_1).bind fun t162 => (some t162))))) else (some (([] : List Int))))
theorem spec_PutFrame.mono : ∀ a0 a1 a2 k, LeO (spec_PutFrame.f k a0 a1 a2) (spec_PutFrame.f (k + 1) a0 a1 a2) := by
 intro a0 a1 a2 k
 unfold spec_PutFrame.f
 repeat' first
   | (with_reducible exact spec_FrameOk.mono _ _ _ _)
   | (with_reducible exact spec_PutText.mono _ _ _)
   | (with_reducible exact LeO.refl _)
   | (with_reducible exact LeO.none _)
   | (with_reducible refine LeO.ite ?_ ?_)
   | (with_reducible refine LeO.bind ?_ (fun _ => ?_))
   | exact spec_FrameOk.mono _ _ _ _
   | exact spec_PutText.mono _ _ _
   | exact LeO.none _
   | refine LeO.ite ?_ ?_
   | refine LeO.bind ?_ (fun _ => ?_)
set_option maxHeartbeats 8000000 in
set_option maxRecDepth 100000 in
theorem spec_PutFrame.calls (k : Nat) (a0_0 : Int) (a0_1 : ByteArray) (a0_2 : Int) (r : List Int) (w : World) (h : spec_PutFrame.f k a0_0 a0_1 a0_2 = some r) :
  Calls Try.prog 126 #[.agg #[.int .i64 a0_0, .string a0_1, .int .i64 a0_2]] w fun e w' => ∃ v0_ : Value, e = .returned (v0_) ∧ Kd.R (Kd.int .u8) 5 w' w.heap.size (fun _ => True) v0_ r ∧ Below w.heap.size w w' := by
 have hu47 := Try.underlying47
 have HB := Aside0.mk (Below.refl w.heap.size w)
 have H : ((spec_FrameOk.f k a0_0 a0_1 a0_2).bind fun t152 => (if t152 = true then ((some (([(a0_0) % 256] : List Int) : List Int)).bind fun y156 => (if a0_0 = 5 then (if y156.length < 140737488355328 then (some (y156 ++ [(a0_2) % 256])) else (none)) else (if a0_0 = 3 then (some y156) else ((spec_PutText.f k y156 a0_1).bind fun t162 => (some t162))))) else (some (([] : List Int))))) = some r := h
 clear h
 obtain ⟨t152, A2, H⟩ := bd_ H
 have HC3 := Aside0.mk H
 clear H
 go_enter Try.func126, Try.ntmps126
 go_upto_if 6 with (first | ((with_reducible refine gate_dst (N := 1) rfl ?_); refine box_event ?hg (N := 1) ?hd (cs := #[.int .i64 a0_0, .string a0_1, .int .i64 a0_2]) (t := 47) ?hr ?_; (case hd => rfl); (case hg => rfl); (case hr => first | (go_simp; done) | (go_simp; rfl)); intro gb151 hg w4 hbox hb; have BK151 := am_ (hbox); have GW151 := am_ ((gG_ hg (qB HB))); have IGW151 := gI_ GW151; have GE151 := am_ ((gG_ hg (qB HB))); have IGE151 := gI_ GE151; replace HB := am_ (below_step (qB HB) hb); clear hb hbox hg; obtain ⟨z5_0, z5_1, z5_2⟩ := cz3 BK151.out; obtain ⟨f5_0, f5_1, f5_2⟩ := fz3 BK151.out) | ((with_reducible refine gate_callee (f := 181) rfl ?_); refine goesL_ (some 5) rfl rfl Try.func181 (by kernel_rfl) rfl #[.agg #[.int .i64 a0_0, .string a0_1, .int .i64 a0_2]] rfl la_ ?_; (with_reducible refine (spec_FrameOk.calls k a0_0 a0_1 a0_2 t152 _ A2.out).mono ?_); rintro e w6 ⟨rfl, hb⟩; refine ⟨_, rfl, ?_⟩; replace BK151 := am_ (blk_below (qK BK151) hb); replace HB := am_ (below_step (qB HB) hb); (try clear hb); (try clear hb2); (try clear hk); (try clear hi)))
 (try simp only [Act.put, List.setIfInBounds_toArray, List.set_cons_zero, List.set_cons_succ])
 have H := HC3.out
 clear HC3
 by_cases c7 : t152 = true
 ·
  subst c7
  rw [if_pos rfl] at H
  obtain ⟨y156, hy156⟩ : ∃ y_ : List Int, y_ = (([(a0_0) % 256] : List Int)) := ⟨_, rfl⟩
  replace H := mk_ H hy156
  (try dsimp only at H)
  have Ny156 := Aside0.mk hy156
  clear hy156
  have HC8 := Aside0.mk H
  clear H
  obtain ⟨z9_0, z9_1, z9_2⟩ := cz3 BK151.out
  obtain ⟨f9_0, f9_1, f9_2⟩ := fz3 BK151.out
  go_upto_if 14 with (first | ((with_reducible refine gate_dst (N := 11) rfl ?_); refine Kd.R_lit (Kd.int .u8) _ 5 ?hg (N := 11) ?hd (xs := ([(a0_0) % 256] : List Int)) (inner := [.int .u8 ((a0_0) % 256)]) (ok := fun _ => True) (okp := fun _ => True) ?hr ?hp (fun _ hk => hk) trivial (Below.refl _ _) (Nat.le_refl _) (by simp) ?_; (case hd => rfl); (case hg => rfl); (case hr => first | (go_simp; done) | (go_simp; rfl)); (case hp => exact (Reps.one (show Kd.M (Kd.int .u8) _ _ _ ((a0_0) % 256) [.int .u8 ((a0_0) % 256)] from rfl) (Reps.none _ _))); intro v157 w10 ho11 hb hg_ hnew_; clear hg_ hnew_; (first | rw [← Ny156.out] at ho11 | (simp only [Int.reduceToNat] at ho11; rw [← Ny156.out] at ho11)); have HO158 := am_ (Kd.R_lower ho11 (below_size (qB HB))); replace BK151 := am_ (blk_below (qK BK151) hb); replace HB := am_ (below_step (qB HB) hb); clear hb ho11; obtain ⟨z12_0, z12_1, z12_2⟩ := cz3 BK151.out; obtain ⟨f12_0, f12_1, f12_2⟩ := fz3 BK151.out))
  (try simp only [Act.put, List.setIfInBounds_toArray, List.set_cons_zero, List.set_cons_succ])
  have H := HC8.out
  clear HC8
  by_cases c13 : a0_0 = 5
  ·
   rw [if_pos c13] at H
   have c13b0 : (a0_0 == 5) = true := beq_iff_eq.mpr c13
   have c13b1 : (a0_0 != 5) = false := bne_eq_false_iff_eq.mpr c13
   clear c13
   (first | rw [c13b0] | rw [c13b1] | (simp only [i64_w, i32_w]; rw [c13b0]) | skip)
   by_cases c14 : y156.length < 140737488355328
   case neg => exact nn_ c14 H
   rw [if_pos c14] at H
   have LMc14 := Aside0.mk c14
   clear c14
   obtain ⟨y159, hy159⟩ : ∃ y_ : List Int, y_ = (y156 ++ [(a0_2) % 256]) := ⟨_, rfl⟩
   rw [← hy159] at H
   have Ny159 := Aside0.mk hy159
   clear hy159
   obtain rfl := Option.some.inj H
   obtain ⟨z15_0, z15_1, z15_2⟩ := cz3 BK151.out
   obtain ⟨f15_0, f15_1, f15_2⟩ := fz3 BK151.out
   go_wp2_with (first | ((with_reducible refine gate_builtin (b := .append) (xs := #[.tmp 16, .tmp 20]) rfl ?_); at_builtin; refine Kd.R_append (Kd.int .u8) (w0 := w) w.heap.size rfl (.tmp 16) (.tmp 20) 22 5 (.int .u8 0) 1 rfl Try.underlying22 info5 rfl (by decide) (by omega) v157 y156 ((a0_2) % 256) [.int .u8 ((a0_2) % 256)] (fun _ => True) (fun _ => False) rfl rfl ?aP (fun _ hk => hk.elim) ?aF ?aO ?aB ?aS ?aL ?_; (case aP => exact rfl); (case aB => exact (qB HB)); (case aF => exact (fun _ _ => trivial)); (case aO => exact (qR HO158)); (case aS => exact (below_size (qB HB))); (case aL => have := LMc14.out; omega); intro v160 w16 ho hb hg hat; rw [← Ny159.out] at ho; replace BK151 := am_ (blk_grown (qK BK151) hg (Kd.R_ne HO158.out BK151.out (by decide))); replace HB := am_ (hb); have HO161 := am_ (ho); clear HO158; clear ho hb hg hat))
   go_ret
   exact ⟨_, er_, qR HO161, qB HB⟩
  ·
   rw [if_neg c13] at H
   have c13b0 : (a0_0 == 5) = false := beq_eq_false_iff_ne.mpr c13
   have c13b1 : (a0_0 != 5) = true := bne_iff_ne.mpr c13
   (first | rw [c13b0] | rw [c13b1] | (simp only [i64_w, i32_w]; rw [c13b0]) | skip)
   by_cases c17 : a0_0 = 3
   ·
    rw [if_pos c17] at H
    have c17b0 : (a0_0 == 3) = true := beq_iff_eq.mpr c17
    have c17b1 : (a0_0 != 3) = false := bne_eq_false_iff_eq.mpr c17
    clear c17
    obtain rfl := Option.some.inj H
    go_wp2
    go_ret
    exact ⟨_, er_, qR HO158, qB HB⟩
   ·
    rw [if_neg c17] at H
    have c17b0 : (a0_0 == 3) = false := beq_eq_false_iff_ne.mpr c17
    have c17b1 : (a0_0 != 3) = true := bne_iff_ne.mpr c17
    obtain ⟨t162, A18, H⟩ := bd_ H
    obtain rfl := Option.some.inj H
    obtain ⟨z19_0, z19_1, z19_2⟩ := cz3 BK151.out
    obtain ⟨f19_0, f19_1, f19_2⟩ := fz3 BK151.out
    obtain ⟨Ao20, co20, eo20⟩ := Kd.R_slice HO158.out
    subst eo20
    go_wp2_with (first | ((with_reducible refine gate_callee (f := 122) rfl ?_); refine goesL_ (some 28) rfl rfl Try.func122 (by kernel_rfl) rfl #[.slice Ao20 y156.length co20, .string a0_1] rfl la_ ?_; (with_reducible refine (spec_PutText.calls k _ _ y156 a0_1 t162 _ ?side1 ?side2 A18.out).mono ?_); (case side1 => exact qC ((Kd.R_reads' HO158.out).2.2)); (case side2 => exact (Kd.R_reads' HO158.out).2.1); rintro e w21 ⟨v163, rfl, ho0, hb⟩; refine ⟨_, rfl, ?_⟩; have HO164 := am_ (Kd.R_lower (Kd.R_new' ho0 (Kd.R_lt (qR HO158))) (below_size (qB HB))); replace HO158 := am_ (eR HO158 ho0 hb); replace BK151 := am_ (blk_below (qK BK151) hb); replace HB := am_ (below_step (qB HB) hb); (try clear hb); (try clear hb2); (try clear hk); (try clear hi); (try clear ho0)))
    go_ret
    exact ⟨_, er_, by (with_reducible repeat (first | apply Kd.R_alloc | apply Kd.R_drewN | apply Kd.R_drew)); exact Kd.R_mono HO164.out (fun _ hk => trivial), qB HB⟩
 ·
  replace c7 := Bool.eq_false_iff.mpr c7
  subst c7
  rw [if_neg (show ¬ (false = true) by decide)] at H
  obtain ⟨y153, hy153⟩ : ∃ y_ : List Int, y_ = (([] : List Int)) := ⟨_, rfl⟩
  rw [← hy153] at H
  have Ny153 := Aside0.mk hy153
  clear hy153
  obtain rfl := Option.some.inj H
  go_wp2_with (first | ((with_reducible refine gate_dst (N := 7) rfl ?_); refine Kd.R_lit (Kd.int .u8) _ 5 ?hg (N := 7) ?hd (xs := ([] : List Int)) (inner := []) (ok := fun _ => True) (okp := fun _ => True) ?hr ?hp (fun _ hk => hk) trivial (Below.refl _ _) (Nat.le_refl _) (by simp) ?_; (case hd => rfl); (case hg => rfl); (case hr => first | (go_simp; done) | (go_simp; rfl)); (case hp => exact (Reps.none _ _)); intro v154 w22 ho23 hb hg_ hnew_; clear hg_ hnew_; (first | rw [← Ny153.out] at ho23 | (simp only [Int.reduceToNat] at ho23; rw [← Ny153.out] at ho23)); have HO155 := am_ (Kd.R_lower ho23 (below_size (qB HB))); replace BK151 := am_ (blk_below (qK BK151) hb); replace HB := am_ (below_step (qB HB) hb); clear hb ho23))
  go_ret
  exact ⟨_, er_, qR HO155, qB HB⟩

/-! ### spec_l1Str: function 157 -/
def spec_l1Str.f (s0_0 : List Int) (s0_1 : Int) (s0_2 : Int) (l1 : List ByteArray) : Option (ByteArray × Int × Int) := (spec_l1Below.f s0_0 s0_1 s0_2 (l1.length : Int)).bind fun bt165 => (if 0 ≤ bt165.1 then (if bt165.1 < (l1.length : Int) then (some (rdOf ByteArray.empty l1 bt165.1, bt165.2.1, bt165.2.2)) else (none)) else (none))
set_option maxHeartbeats 8000000 in
set_option maxRecDepth 100000 in
theorem spec_l1Str.calls (g : Nat) (s0_0 : List Int) (s0_1 : Int) (s0_2 : Int) (A1 : Option Addr) (c1 : Nat) (l1 : List ByteArray) (r1 : ByteArray) (r2 : Int) (r3 : Int) (w0 w : World) (hI : IsS176 w0 w g s0_0 s0_1 s0_2) (hB : Below w0.heap.size w0 w) (hr1 : Kd.C Kd.string w A1 l1.length l1) (hc1 : l1.length ≤ c1) (hf1 : ∀ ad, A1 = some ad → 0 < l1.length → ad.block ≠ g) (h : spec_l1Str.f s0_0 s0_1 s0_2 l1 = some (r1, r2, r3)) :
  Calls Try.prog 157 #[.pointer (some ⟨g, 0, none⟩), .slice A1 l1.length c1] w fun e w' => e = .returned (.string r1) ∧ IsS176 w0 w' g s0_0 r2 r3 ∧ Below w0.heap.size w0 w' ∧ KeepBut w w' g none := by
 have HR1 := Aside0.mk hr1
 have HC1 := Aside0.mk hc1
 clear hr1 hc1
 have HI0 := Aside0.mk hI
 have IGHI0 := iG_ HI0.out.ge
 have HK := Aside0.mk (KeepBut.refl w g none)
 have HL := Aside0.mk hB.size
 clear hI
 have HW0 := Aside0.mk hB.size
 have HB := Aside0.mk hB
 clear hB
 have H : ((spec_l1Below.f s0_0 s0_1 s0_2 (l1.length : Int)).bind fun bt165 => (if 0 ≤ bt165.1 then (if bt165.1 < (l1.length : Int) then (some (rdOf ByteArray.empty l1 bt165.1, bt165.2.1, bt165.2.2)) else (none)) else (none))) = some (r1, r2, r3) := h
 clear h
 obtain ⟨⟨t165, t166, t167⟩, A3, H⟩ := bd_ H
 (try dsimp only at H)
 by_cases c4 : 0 ≤ t165
 case neg => exact nn_ c4 H
 rw [if_pos c4] at H
 have c4b0 : decide (0 ≤ t165) = true := decide_eq_true c4
 clear c4
 by_cases c5 : t165 < (l1.length : Int)
 case neg => exact nn_ c5 H
 rw [if_pos c5] at H
 have c5b0 : decide (t165 < (l1.length : Int)) = true := decide_eq_true c5
 clear c5
 simp only [Option.some.injEq, Prod.mk.injEq] at H
 obtain ⟨rfl, rfl, rfl⟩ := H
 go_enter Try.func157, Try.ntmps157
 go_wp2_with (first | ((with_reducible refine gate_callee (f := 95) rfl ?_); refine goesL_ (some 9) rfl rfl Try.func95 (by kernel_rfl) rfl #[.pointer (some ⟨g, 0, none⟩), .int .i64 (l1.length : Int)] rfl la_ ?_; (with_reducible refine (spec_l1Below.calls g s0_0 s0_1 s0_2 (l1.length : Int) t165 t166 t167 w0 _ ?side1 ?side2 A3.out).mono ?_); (case side1 => exact IsS176.q HI0); (case side2 => exact qB HB); rintro e w6 ⟨rfl, hi, hb, hk⟩; refine ⟨_, rfl, ?_⟩; replace HK := am_ (KeepBut.trans (qP HK) hk (.inl rfl)); replace HB := am_ (hb); replace HI0 := am_ (hi); (try clear hb); (try clear hb2); (try clear hk); (try clear hi); have p168 : 0 ≤ (t165 : Int) := od_; have q168 : t165 < (l1.length : Int) := od_; obtain ⟨ad168, e168, hx168_0⟩ := Kd.at_string HR1.out t165 p168 q168; cases e168; replace hx168_0 := keep_cell HK.out hx168_0 (by first | (rw [add_block]; exact hf1 _ rfl (by omega)) | exact hf1 _ rfl (by omega) | exact hf1 ad168 rfl (by omega)); replace p168 := eq_true p168; replace q168 := eq_true q168))
 go_ret
 exact ⟨er_, IsS176.q HI0, qB HB, qP HK⟩/-! ### spec_l6Draw: function 182 -/
def spec_l6Draw.j0 : Nat → Int → Bool → List Int → Int → Int → Int → ByteArray → Int → Option (Int × ByteArray × Int × Int × Int)
 | 0, _, _, _, _, _, _, _, _ => none
 | k + 1, x9, x22, x1000, x1001, x1002, x174000, x174001, x174002 => if x22 = true then ((spec_l1Str.f x1000 x1001 x1002 (([(⟨#[]⟩ : ByteArray), (⟨#[97]⟩ : ByteArray), (⟨#[102, 117, 108, 108]⟩ : ByteArray), (⟨#[111, 110, 101]⟩ : ByteArray)] : List ByteArray))).bind fun bt189 => (some (x174000, bt189.1, x174002, bt189.2.1, bt189.2.2))) else (if x9 = 5 then ((spec_l1Below.f x1000 x1001 x1002 3).bind fun bt192 => (some (x174000, x174001, bt192.1, bt192.2.1, bt192.2.2))) else (some (x174000, x174001, x174002, x1001, x1002)))
def spec_l6Draw.f (k : Nat) (s0_0 : List Int) (s0_1 : Int) (s0_2 : Int) : Option (Int × ByteArray × Int × Int × Int) := (spec_l1Below.f s0_0 s0_1 s0_2 6).bind fun bt170 => (if (wrap64 (1 + bt170.1)) = 1 then ((spec_l1Str.f s0_0 bt170.2.1 bt170.2.2 (([(⟨#[109, 97, 105, 110]⟩ : ByteArray), (⟨#[108, 111, 103, 115]⟩ : ByteArray), (⟨#[120]⟩ : ByteArray), (⟨#[97, 100, 109, 105, 110]⟩ : ByteArray)] : List ByteArray))).bind fun bt177 => (some (wrap64 (1 + bt170.1), bt177.1, 0, bt177.2.1, bt177.2.2))) else (if (wrap64 (1 + bt170.1)) = 2 then ((spec_l1Str.f s0_0 bt170.2.1 bt170.2.2 (([(⟨#[98, 101, 103, 105, 110]⟩ : ByteArray), (⟨#[99, 111, 109, 109, 105, 116]⟩ : ByteArray), (⟨#[114, 111, 108, 108, 98, 97, 99, 107]⟩ : ByteArray), (⟨#[102, 97, 105, 108]⟩ : ByteArray), (⟨#[111, 110, 101]⟩ : ByteArray), (⟨#[116, 119, 111]⟩ : ByteArray), (⟨#[]⟩ : ByteArray)] : List ByteArray))).bind fun bt183 => (some (wrap64 (1 + bt170.1), bt183.1, 0, bt183.2.1, bt183.2.2))) else (if (wrap64 (1 + bt170.1)) = 4 then (spec_l6Draw.j0 k (wrap64 (1 + bt170.1)) ((wrap64 (1 + bt170.1)) == 4) s0_0 bt170.2.1 bt170.2.2 (wrap64 (1 + bt170.1)) (⟨#[]⟩ : ByteArray) 0) else (spec_l6Draw.j0 k (wrap64 (1 + bt170.1)) ((wrap64 (1 + bt170.1)) == 6) s0_0 bt170.2.1 bt170.2.2 (wrap64 (1 + bt170.1)) (⟨#[]⟩ : ByteArray) 0))))
theorem spec_l6Draw.mono_l : ∀ k, (∀ y0 y1 y2 y3 y4 y5 y6 y7, LeO (spec_l6Draw.j0 k y0 y1 y2 y3 y4 y5 y6 y7) (spec_l6Draw.j0 (k + 1) y0 y1 y2 y3 y4 y5 y6 y7))
 | 0 => fun _ _ _ _ _ _ _ _ r h => by simp [spec_l6Draw.j0] at h
 | k + 1 => by
  have ih0 := spec_l6Draw.mono_l k
  ·
   intro y0 y1 y2 y3 y4 y5 y6 y7
   unfold spec_l6Draw.j0
   repeat' first
   | (with_reducible exact ih0 _ _ _ _ _ _ _ _)
   | (with_reducible exact LeO.refl _)
   | (with_reducible exact LeO.none _)
   | (with_reducible refine LeO.ite ?_ ?_)
   | (with_reducible refine LeO.bind ?_ (fun _ => ?_))
   | exact ih0 _ _ _ _ _ _ _ _
   | exact LeO.none _
   | refine LeO.ite ?_ ?_
   | refine LeO.bind ?_ (fun _ => ?_)
theorem spec_l6Draw.mono : ∀ a0 a1 a2 k, LeO (spec_l6Draw.f k a0 a1 a2) (spec_l6Draw.f (k + 1) a0 a1 a2) := by
 intro a0 a1 a2 k
 have ih0 := spec_l6Draw.mono_l k
 unfold spec_l6Draw.f
 repeat' first
   | (with_reducible exact ih0 _ _ _ _ _ _ _ _)
   | (with_reducible exact LeO.refl _)
   | (with_reducible exact LeO.none _)
   | (with_reducible refine LeO.ite ?_ ?_)
   | (with_reducible refine LeO.bind ?_ (fun _ => ?_))
   | exact ih0 _ _ _ _ _ _ _ _
   | exact LeO.none _
   | refine LeO.ite ?_ ?_
   | refine LeO.bind ?_ (fun _ => ?_)
set_option maxHeartbeats 8000000 in
set_option maxRecDepth 100000 in
theorem spec_l6Draw.calls (k : Nat) (g : Nat) (s0_0 : List Int) (s0_1 : Int) (s0_2 : Int) (r1 : Int) (r2 : ByteArray) (r3 : Int) (r4 : Int) (r5 : Int) (w0 w : World) (hI : IsS176 w0 w g s0_0 s0_1 s0_2) (hB : Below w0.heap.size w0 w) (h : spec_l6Draw.f k s0_0 s0_1 s0_2 = some (r1, r2, r3, r4, r5)) :
  Calls Try.prog 182 #[.pointer (some ⟨g, 0, none⟩)] w fun e w' => e = .returned (.agg #[.int .i64 r1, .string r2, .int .i64 r3]) ∧ IsS176 w0 w' g s0_0 r4 r5 ∧ Below w0.heap.size w0 w' ∧ KeepBut w w' g none := by
 have hu47 := Try.underlying47
 have HI0 := Aside0.mk hI
 have IGHI0 := iG_ HI0.out.ge
 have HK := Aside0.mk (KeepBut.refl w g none)
 have HL := Aside0.mk hB.size
 clear hI
 have HW0 := Aside0.mk hB.size
 have HB := Aside0.mk hB
 clear hB
 have H : ((spec_l1Below.f s0_0 s0_1 s0_2 6).bind fun bt170 => (if (wrap64 (1 + bt170.1)) = 1 then ((spec_l1Str.f s0_0 bt170.2.1 bt170.2.2 (([(⟨#[109, 97, 105, 110]⟩ : ByteArray), (⟨#[108, 111, 103, 115]⟩ : ByteArray), (⟨#[120]⟩ : ByteArray), (⟨#[97, 100, 109, 105, 110]⟩ : ByteArray)] : List ByteArray))).bind fun bt177 => (some (wrap64 (1 + bt170.1), bt177.1, 0, bt177.2.1, bt177.2.2))) else (if (wrap64 (1 + bt170.1)) = 2 then ((spec_l1Str.f s0_0 bt170.2.1 bt170.2.2 (([(⟨#[98, 101, 103, 105, 110]⟩ : ByteArray), (⟨#[99, 111, 109, 109, 105, 116]⟩ : ByteArray), (⟨#[114, 111, 108, 108, 98, 97, 99, 107]⟩ : ByteArray), (⟨#[102, 97, 105, 108]⟩ : ByteArray), (⟨#[111, 110, 101]⟩ : ByteArray), (⟨#[116, 119, 111]⟩ : ByteArray), (⟨#[]⟩ : ByteArray)] : List ByteArray))).bind fun bt183 => (some (wrap64 (1 + bt170.1), bt183.1, 0, bt183.2.1, bt183.2.2))) else (if (wrap64 (1 + bt170.1)) = 4 then (spec_l6Draw.j0 k (wrap64 (1 + bt170.1)) ((wrap64 (1 + bt170.1)) == 4) s0_0 bt170.2.1 bt170.2.2 (wrap64 (1 + bt170.1)) (⟨#[]⟩ : ByteArray) 0) else (spec_l6Draw.j0 k (wrap64 (1 + bt170.1)) ((wrap64 (1 + bt170.1)) == 6) s0_0 bt170.2.1 bt170.2.2 (wrap64 (1 + bt170.1)) (⟨#[]⟩ : ByteArray) 0))))) = some (r1, r2, r3, r4, r5) := h
 clear h
 obtain ⟨⟨t170, t171, t172⟩, A2, H⟩ := bd_ H
 (try dsimp only at H)
 by_cases c3 : (wrap64 (1 + t170)) = 1
 ·
  rw [if_pos c3] at H
  have c3b0 : ((wrap64 (1 + t170)) == 1) = true := beq_iff_eq.mpr c3
  have c3b1 : ((wrap64 (1 + t170)) != 1) = false := bne_eq_false_iff_eq.mpr c3
  clear c3
  obtain ⟨y174, hy174⟩ : ∃ y_ : List ByteArray, y_ = (([(⟨#[109, 97, 105, 110]⟩ : ByteArray), (⟨#[108, 111, 103, 115]⟩ : ByteArray), (⟨#[120]⟩ : ByteArray), (⟨#[97, 100, 109, 105, 110]⟩ : ByteArray)] : List ByteArray)) := ⟨_, rfl⟩
  rw [← hy174] at H
  have Ny174 := Aside0.mk hy174
  clear hy174
  obtain ⟨⟨t177, t178, t179⟩, A4, H⟩ := bd_ H
  (try dsimp only at H)
  simp only [Option.some.injEq, Prod.mk.injEq] at H
  obtain ⟨rfl, rfl, rfl, rfl, rfl⟩ := H
  go_enter Try.func182, Try.ntmps182
  go_wp2_with (first | ((with_reducible refine gate_dst (N := 2) rfl ?_); refine box_event ?hg (N := 2) ?hd (cs := #[.int .i64 0, .string (⟨#[]⟩ : ByteArray), .int .i64 0]) (t := 47) ?hr ?_; (case hd => rfl); (case hg => rfl); (case hr => first | (go_simp; done) | (go_simp; rfl)); intro gb169 hg w5 hbox hb; replace HB := am_ (below_step (qB HB) hb); have BK169 := am_ (hbox); have GW169 := am_ ((gK_ hg (qP HK))); have IGW169 := gI_ GW169; have GE169 := am_ ((Nat.le_trans HW0.out (gK_ hg (qP HK)))); have IGE169 := gI_ GE169; replace HK := am_ (KeepBut.trans (qP HK) (KeepBut.of_below hb g none) (.inl rfl)); have NB0_169 := am_ ((nG_ hg (IsS176.lt (IsS176.q HI0)))); have INB0_169 := nI_ NB0_169; have NB169_0 := am_ (((nG_ hg (IsS176.lt (IsS176.q HI0))).symm)); replace HI0 := am_ (IsS176.below (IsS176.q HI0) hb); clear hb hbox hg) | ((with_reducible refine gate_callee (f := 95) rfl ?_); refine goesL_ (some 5) rfl rfl Try.func95 (by kernel_rfl) rfl #[.pointer (some ⟨g, 0, none⟩), .int .i64 6] rfl la_ ?_; (with_reducible refine (spec_l1Below.calls g s0_0 s0_1 s0_2 6 t170 t171 t172 w0 _ ?side1 ?side2 A2.out).mono ?_); (case side1 => exact IsS176.q HI0); (case side2 => exact qB HB); rintro e w6 ⟨rfl, hi, hb, hk⟩; refine ⟨_, rfl, ?_⟩; replace BK169 := am_ (KeepBut.blk hk (g' := gb169) (o := .cells #[.int .i64 0, .string (⟨#[]⟩ : ByteArray), .int .i64 0] 47 (0, 0)) (qK BK169) NB169_0.out (by simp)); replace HK := am_ (KeepBut.trans (qP HK) hk (.inl rfl)); replace HB := am_ (hb); replace HI0 := am_ (hi); (try clear hb); (try clear hb2); (try clear hk); (try clear hi)) | ((with_reducible refine gate_dst (N := 3) rfl ?_); refine box_event ?hg (N := 3) ?hd (cs := #[.int .i64 0, .string (⟨#[]⟩ : ByteArray), .int .i64 0]) (t := 47) ?hr ?_; (case hd => rfl); (case hg => rfl); (case hr => first | (go_simp; done) | (go_simp; rfl)); intro gb173 hg w7 hbox hb; replace HB := am_ (below_step (qB HB) hb); have BK173 := am_ (hbox); have GW173 := am_ ((gK_ hg (qP HK))); have IGW173 := gI_ GW173; have GE173 := am_ ((Nat.le_trans HW0.out (gK_ hg (qP HK)))); have IGE173 := gI_ GE173; replace HK := am_ (KeepBut.trans (qP HK) (KeepBut.of_below hb g none) (.inl rfl)); have NB169_173 := am_ ((gN_ hg (qK BK169))); have NB173_169 := am_ ((gM_ hg (qK BK169))); replace BK169 := am_ (blk_below (qK BK169) hb); have NB0_173 := am_ ((nG_ hg (IsS176.lt (IsS176.q HI0)))); have INB0_173 := nI_ NB0_173; have NB173_0 := am_ (((nG_ hg (IsS176.lt (IsS176.q HI0))).symm)); replace HI0 := am_ (IsS176.below (IsS176.q HI0) hb); clear hb hbox hg; have hnb8 := NB173_169.out; have hnc8 := NB169_173.out; have hnb9 := NB173_0.out; have hnc9 := NB0_173.out; obtain ⟨z10_0, z10_1, z10_2⟩ := cz3 BK173.out; obtain ⟨f10_0, f10_1, f10_2⟩ := fz3 BK173.out) | ((with_reducible refine gate_dst (N := 13) rfl ?_); refine Kd.R_lit Kd.string _ 9 ?hg (N := 13) ?hd (xs := ([(⟨#[109, 97, 105, 110]⟩ : ByteArray), (⟨#[108, 111, 103, 115]⟩ : ByteArray), (⟨#[120]⟩ : ByteArray), (⟨#[97, 100, 109, 105, 110]⟩ : ByteArray)] : List ByteArray)) (inner := [.string (⟨#[109, 97, 105, 110]⟩ : ByteArray), .string (⟨#[108, 111, 103, 115]⟩ : ByteArray), .string (⟨#[120]⟩ : ByteArray), .string (⟨#[97, 100, 109, 105, 110]⟩ : ByteArray)]) (ok := fun _ => True) (okp := fun _ => True) ?hr ?hp (fun _ hk => hk) trivial (Below.refl _ _) (Nat.le_refl _) (by simp) ?_; (case hd => rfl); (case hg => rfl); (case hr => first | (go_simp; done) | (go_simp; rfl)); (case hp => exact (Reps.one (show Kd.M Kd.string _ _ _ (⟨#[109, 97, 105, 110]⟩ : ByteArray) [.string (⟨#[109, 97, 105, 110]⟩ : ByteArray)] from rfl) (Reps.one (show Kd.M Kd.string _ _ _ (⟨#[108, 111, 103, 115]⟩ : ByteArray) [.string (⟨#[108, 111, 103, 115]⟩ : ByteArray)] from rfl) (Reps.one (show Kd.M Kd.string _ _ _ (⟨#[120]⟩ : ByteArray) [.string (⟨#[120]⟩ : ByteArray)] from rfl) (Reps.one (show Kd.M Kd.string _ _ _ (⟨#[97, 100, 109, 105, 110]⟩ : ByteArray) [.string (⟨#[97, 100, 109, 105, 110]⟩ : ByteArray)] from rfl) (Reps.none _ _)))))); intro v175 w11 ho12 hb hg_ hnew_; clear hg_ hnew_; (first | rw [← Ny174.out] at ho12 | (simp only [Int.reduceToNat] at ho12; rw [← Ny174.out] at ho12)); have HO176 := am_ (Kd.R_lower ho12 (keep_size (w := w) (g := g) (row := none) (qP HK))); replace BK169 := am_ (blk_below (g := gb169) (o := .cells #[.int .i64 0, .string (⟨#[]⟩ : ByteArray), .int .i64 0] 47 (0, 0)) (by (with_reducible repeat (first | refine blk_drewN ?_ _ | refine blk_drew ?_ | refine blk_alloc ?_ _)); refine Go.Proofs.YtaimfkfpglhijaaV.blk_far3 ?_ NB169_173.out; exact qK BK169) hb); replace BK173 := am_ (blk_below (g := gb173) (o := .cells #[.int .i64 (wrap64 (1 + t170)), .string (⟨#[]⟩ : ByteArray), .int .i64 0] 47 (0, 0)) (by (with_reducible repeat (first | refine blk_drewN ?_ _ | refine blk_drew ?_ | refine blk_alloc ?_ _)); refine Go.Proofs.YtaimfkfpglhijaaV.blk_all3 (show _ = some (Go.Obj.cells #[.int .i64 0, .string (⟨#[]⟩ : ByteArray), .int .i64 0] _ (0, 0)) from ?_); exact qK BK173) hb); replace HK := am_ (KeepBut.trans (qP HK) (KeepBut.of_below hb g none) (.inl rfl)); replace HB := am_ (below_step (qB HB) hb); replace HI0 := am_ (IsS176.below (show IsS176 w0 (((w7.setCell ⟨gb173, 0, none⟩ (.int .i64 (wrap64 (1 + t170)))).setCell ⟨gb173, 1, none⟩ (.string (⟨#[]⟩ : ByteArray))).setCell ⟨gb173, 2, none⟩ (.int .i64 0)) g s0_0 t171 t172 from IsS176.q HI0) hb); clear hb ho12; obtain ⟨Ao13, co13, eo13⟩ := Kd.R_slice HO176.out; subst eo13) | ((with_reducible refine gate_callee (f := 157) rfl ?_); refine goesL_ (some 14) rfl rfl Try.func157 (by kernel_rfl) rfl #[.pointer (some ⟨g, 0, none⟩), .slice Ao13 y174.length co13] rfl la_ ?_; (with_reducible refine (spec_l1Str.calls g s0_0 t171 t172 _ _ y174 t177 t178 t179 w0 _ ?side1 ?side2 ?side3 ?side4 ?side5 A4.out).mono ?_); (case side1 => exact IsS176.q HI0); (case side2 => exact qB HB); (case side3 => exact qC ((Kd.R_reads' HO176.out).2.2)); (case side4 => exact (Kd.R_reads' HO176.out).2.1); (case side5 => exact far_slice (IsS176.own_ne HI0.out HO176.out (by decide))); rintro e w14 ⟨rfl, hi, hb, hk⟩; refine ⟨_, rfl, ?_⟩; replace BK169 := am_ (KeepBut.blk hk (g' := gb169) (o := .cells #[.int .i64 0, .string (⟨#[]⟩ : ByteArray), .int .i64 0] 47 (0, 0)) (qK BK169) NB169_0.out (by simp)); replace BK173 := am_ (KeepBut.blk hk (g' := gb173) (o := .cells #[.int .i64 (wrap64 (1 + t170)), .string (⟨#[]⟩ : ByteArray), .int .i64 0] 47 (0, 0)) (qK BK173) NB173_0.out (by simp)); replace HO176 := am_ (Kd.R_mono (Kd.R_keep (IsS176.apart (show IsS176 w0 _ g s0_0 t171 t172 from IsS176.q HI0) (qR HO176) (by decide)) hk (fun _ h => h.2)) (fun _ h => h.1)); replace HK := am_ (KeepBut.trans (qP HK) hk (.inl rfl)); replace HB := am_ (hb); replace HI0 := am_ (hi); (try clear hb); (try clear hb2); (try clear hk); (try clear hi); obtain ⟨z15_0, z15_1, z15_2⟩ := cz3 BK173.out; obtain ⟨f15_0, f15_1, f15_2⟩ := fz3 BK173.out; have hnb16 := NB169_0.out; have hnc16 := NB0_169.out; obtain ⟨z17_0, z17_1, z17_2⟩ := cz3 BK169.out; obtain ⟨f17_0, f17_1, f17_2⟩ := fz3 BK169.out))
  refine bodyPost_ret (results_cell_row rfl _ _ gb169 47 #[.int .i64 (wrap64 (1 + t170)), .string t177, .int .i64 0] (0, 0) _ rfl (by refine blk_all3 (show _ = some (Go.Obj.cells #[.int .i64 0, .string (⟨#[]⟩ : ByteArray), .int .i64 0] _ (0, 0)) from ?_); refine blk_far ?_ NB169_173.out _; exact qK BK169) Try.underlying47 rfl (by kernel_rfl)) rfl ?_
  exact ⟨er_, IsS176.q HI0, qB HB, qP HK⟩
 ·
  rw [if_neg c3] at H
  have c3b0 : ((wrap64 (1 + t170)) == 1) = false := beq_eq_false_iff_ne.mpr c3
  have c3b1 : ((wrap64 (1 + t170)) != 1) = true := bne_iff_ne.mpr c3
  by_cases c18 : (wrap64 (1 + t170)) = 2
  ·
   rw [if_pos c18] at H
   have c18b0 : ((wrap64 (1 + t170)) == 2) = true := beq_iff_eq.mpr c18
   have c18b1 : ((wrap64 (1 + t170)) != 2) = false := bne_eq_false_iff_eq.mpr c18
   clear c18
   obtain ⟨y180, hy180⟩ : ∃ y_ : List ByteArray, y_ = (([(⟨#[98, 101, 103, 105, 110]⟩ : ByteArray), (⟨#[99, 111, 109, 109, 105, 116]⟩ : ByteArray), (⟨#[114, 111, 108, 108, 98, 97, 99, 107]⟩ : ByteArray), (⟨#[102, 97, 105, 108]⟩ : ByteArray), (⟨#[111, 110, 101]⟩ : ByteArray), (⟨#[116, 119, 111]⟩ : ByteArray), (⟨#[]⟩ : ByteArray)] : List ByteArray)) := ⟨_, rfl⟩
   rw [← hy180] at H
   have Ny180 := Aside0.mk hy180
   clear hy180
   obtain ⟨⟨t183, t184, t185⟩, A19, H⟩ := bd_ H
   (try dsimp only at H)
   simp only [Option.some.injEq, Prod.mk.injEq] at H
   obtain ⟨rfl, rfl, rfl, rfl, rfl⟩ := H
   go_enter Try.func182, Try.ntmps182
   go_wp2_with (first | ((with_reducible refine gate_dst (N := 2) rfl ?_); refine box_event ?hg (N := 2) ?hd (cs := #[.int .i64 0, .string (⟨#[]⟩ : ByteArray), .int .i64 0]) (t := 47) ?hr ?_; (case hd => rfl); (case hg => rfl); (case hr => first | (go_simp; done) | (go_simp; rfl)); intro gb169 hg w20 hbox hb; replace HB := am_ (below_step (qB HB) hb); have BK169 := am_ (hbox); have GW169 := am_ ((gK_ hg (qP HK))); have IGW169 := gI_ GW169; have GE169 := am_ ((Nat.le_trans HW0.out (gK_ hg (qP HK)))); have IGE169 := gI_ GE169; replace HK := am_ (KeepBut.trans (qP HK) (KeepBut.of_below hb g none) (.inl rfl)); have NB0_169 := am_ ((nG_ hg (IsS176.lt (IsS176.q HI0)))); have INB0_169 := nI_ NB0_169; have NB169_0 := am_ (((nG_ hg (IsS176.lt (IsS176.q HI0))).symm)); replace HI0 := am_ (IsS176.below (IsS176.q HI0) hb); clear hb hbox hg) | ((with_reducible refine gate_callee (f := 95) rfl ?_); refine goesL_ (some 5) rfl rfl Try.func95 (by kernel_rfl) rfl #[.pointer (some ⟨g, 0, none⟩), .int .i64 6] rfl la_ ?_; (with_reducible refine (spec_l1Below.calls g s0_0 s0_1 s0_2 6 t170 t171 t172 w0 _ ?side1 ?side2 A2.out).mono ?_); (case side1 => exact IsS176.q HI0); (case side2 => exact qB HB); rintro e w21 ⟨rfl, hi, hb, hk⟩; refine ⟨_, rfl, ?_⟩; replace BK169 := am_ (KeepBut.blk hk (g' := gb169) (o := .cells #[.int .i64 0, .string (⟨#[]⟩ : ByteArray), .int .i64 0] 47 (0, 0)) (qK BK169) NB169_0.out (by simp)); replace HK := am_ (KeepBut.trans (qP HK) hk (.inl rfl)); replace HB := am_ (hb); replace HI0 := am_ (hi); (try clear hb); (try clear hb2); (try clear hk); (try clear hi)) | ((with_reducible refine gate_dst (N := 3) rfl ?_); refine box_event ?hg (N := 3) ?hd (cs := #[.int .i64 0, .string (⟨#[]⟩ : ByteArray), .int .i64 0]) (t := 47) ?hr ?_; (case hd => rfl); (case hg => rfl); (case hr => first | (go_simp; done) | (go_simp; rfl)); intro gb173 hg w22 hbox hb; replace HB := am_ (below_step (qB HB) hb); have BK173 := am_ (hbox); have GW173 := am_ ((gK_ hg (qP HK))); have IGW173 := gI_ GW173; have GE173 := am_ ((Nat.le_trans HW0.out (gK_ hg (qP HK)))); have IGE173 := gI_ GE173; replace HK := am_ (KeepBut.trans (qP HK) (KeepBut.of_below hb g none) (.inl rfl)); have NB169_173 := am_ ((gN_ hg (qK BK169))); have NB173_169 := am_ ((gM_ hg (qK BK169))); replace BK169 := am_ (blk_below (qK BK169) hb); have NB0_173 := am_ ((nG_ hg (IsS176.lt (IsS176.q HI0)))); have INB0_173 := nI_ NB0_173; have NB173_0 := am_ (((nG_ hg (IsS176.lt (IsS176.q HI0))).symm)); replace HI0 := am_ (IsS176.below (IsS176.q HI0) hb); clear hb hbox hg; have hnb23 := NB173_169.out; have hnc23 := NB169_173.out; have hnb24 := NB173_0.out; have hnc24 := NB0_173.out; obtain ⟨z25_0, z25_1, z25_2⟩ := cz3 BK173.out; obtain ⟨f25_0, f25_1, f25_2⟩ := fz3 BK173.out) | ((with_reducible refine gate_dst (N := 19) rfl ?_); refine Kd.R_lit Kd.string _ 9 ?hg (N := 19) ?hd (xs := ([(⟨#[98, 101, 103, 105, 110]⟩ : ByteArray), (⟨#[99, 111, 109, 109, 105, 116]⟩ : ByteArray), (⟨#[114, 111, 108, 108, 98, 97, 99, 107]⟩ : ByteArray), (⟨#[102, 97, 105, 108]⟩ : ByteArray), (⟨#[111, 110, 101]⟩ : ByteArray), (⟨#[116, 119, 111]⟩ : ByteArray), (⟨#[]⟩ : ByteArray)] : List ByteArray)) (inner := [.string (⟨#[98, 101, 103, 105, 110]⟩ : ByteArray), .string (⟨#[99, 111, 109, 109, 105, 116]⟩ : ByteArray), .string (⟨#[114, 111, 108, 108, 98, 97, 99, 107]⟩ : ByteArray), .string (⟨#[102, 97, 105, 108]⟩ : ByteArray), .string (⟨#[111, 110, 101]⟩ : ByteArray), .string (⟨#[116, 119, 111]⟩ : ByteArray), .string (⟨#[]⟩ : ByteArray)]) (ok := fun _ => True) (okp := fun _ => True) ?hr ?hp (fun _ hk => hk) trivial (Below.refl _ _) (Nat.le_refl _) (by simp) ?_; (case hd => rfl); (case hg => rfl); (case hr => first | (go_simp; done) | (go_simp; rfl)); (case hp => exact (Reps.one (show Kd.M Kd.string _ _ _ (⟨#[98, 101, 103, 105, 110]⟩ : ByteArray) [.string (⟨#[98, 101, 103, 105, 110]⟩ : ByteArray)] from rfl) (Reps.one (show Kd.M Kd.string _ _ _ (⟨#[99, 111, 109, 109, 105, 116]⟩ : ByteArray) [.string (⟨#[99, 111, 109, 109, 105, 116]⟩ : ByteArray)] from rfl) (Reps.one (show Kd.M Kd.string _ _ _ (⟨#[114, 111, 108, 108, 98, 97, 99, 107]⟩ : ByteArray) [.string (⟨#[114, 111, 108, 108, 98, 97, 99, 107]⟩ : ByteArray)] from rfl) (Reps.one (show Kd.M Kd.string _ _ _ (⟨#[102, 97, 105, 108]⟩ : ByteArray) [.string (⟨#[102, 97, 105, 108]⟩ : ByteArray)] from rfl) (Reps.one (show Kd.M Kd.string _ _ _ (⟨#[111, 110, 101]⟩ : ByteArray) [.string (⟨#[111, 110, 101]⟩ : ByteArray)] from rfl) (Reps.one (show Kd.M Kd.string _ _ _ (⟨#[116, 119, 111]⟩ : ByteArray) [.string (⟨#[116, 119, 111]⟩ : ByteArray)] from rfl) (Reps.one (show Kd.M Kd.string _ _ _ (⟨#[]⟩ : ByteArray) [.string (⟨#[]⟩ : ByteArray)] from rfl) (Reps.none _ _))))))))); intro v181 w26 ho27 hb hg_ hnew_; clear hg_ hnew_; (first | rw [← Ny180.out] at ho27 | (simp only [Int.reduceToNat] at ho27; rw [← Ny180.out] at ho27)); have HO182 := am_ (Kd.R_lower ho27 (keep_size (w := w) (g := g) (row := none) (qP HK))); replace BK169 := am_ (blk_below (g := gb169) (o := .cells #[.int .i64 0, .string (⟨#[]⟩ : ByteArray), .int .i64 0] 47 (0, 0)) (by (with_reducible repeat (first | refine blk_drewN ?_ _ | refine blk_drew ?_ | refine blk_alloc ?_ _)); refine Go.Proofs.YtaimfkfpglhijaaV.blk_far3 ?_ NB169_173.out; exact qK BK169) hb); replace BK173 := am_ (blk_below (g := gb173) (o := .cells #[.int .i64 (wrap64 (1 + t170)), .string (⟨#[]⟩ : ByteArray), .int .i64 0] 47 (0, 0)) (by (with_reducible repeat (first | refine blk_drewN ?_ _ | refine blk_drew ?_ | refine blk_alloc ?_ _)); refine Go.Proofs.YtaimfkfpglhijaaV.blk_all3 (show _ = some (Go.Obj.cells #[.int .i64 0, .string (⟨#[]⟩ : ByteArray), .int .i64 0] _ (0, 0)) from ?_); exact qK BK173) hb); replace HK := am_ (KeepBut.trans (qP HK) (KeepBut.of_below hb g none) (.inl rfl)); replace HB := am_ (below_step (qB HB) hb); replace HI0 := am_ (IsS176.below (show IsS176 w0 (((w22.setCell ⟨gb173, 0, none⟩ (.int .i64 (wrap64 (1 + t170)))).setCell ⟨gb173, 1, none⟩ (.string (⟨#[]⟩ : ByteArray))).setCell ⟨gb173, 2, none⟩ (.int .i64 0)) g s0_0 t171 t172 from IsS176.q HI0) hb); clear hb ho27; obtain ⟨Ao28, co28, eo28⟩ := Kd.R_slice HO182.out; subst eo28) | ((with_reducible refine gate_callee (f := 157) rfl ?_); refine goesL_ (some 20) rfl rfl Try.func157 (by kernel_rfl) rfl #[.pointer (some ⟨g, 0, none⟩), .slice Ao28 y180.length co28] rfl la_ ?_; (with_reducible refine (spec_l1Str.calls g s0_0 t171 t172 _ _ y180 t183 t184 t185 w0 _ ?side1 ?side2 ?side3 ?side4 ?side5 A19.out).mono ?_); (case side1 => exact IsS176.q HI0); (case side2 => exact qB HB); (case side3 => exact qC ((Kd.R_reads' HO182.out).2.2)); (case side4 => exact (Kd.R_reads' HO182.out).2.1); (case side5 => exact far_slice (IsS176.own_ne HI0.out HO182.out (by decide))); rintro e w29 ⟨rfl, hi, hb, hk⟩; refine ⟨_, rfl, ?_⟩; replace BK169 := am_ (KeepBut.blk hk (g' := gb169) (o := .cells #[.int .i64 0, .string (⟨#[]⟩ : ByteArray), .int .i64 0] 47 (0, 0)) (qK BK169) NB169_0.out (by simp)); replace BK173 := am_ (KeepBut.blk hk (g' := gb173) (o := .cells #[.int .i64 (wrap64 (1 + t170)), .string (⟨#[]⟩ : ByteArray), .int .i64 0] 47 (0, 0)) (qK BK173) NB173_0.out (by simp)); replace HO182 := am_ (Kd.R_mono (Kd.R_keep (IsS176.apart (show IsS176 w0 _ g s0_0 t171 t172 from IsS176.q HI0) (qR HO182) (by decide)) hk (fun _ h => h.2)) (fun _ h => h.1)); replace HK := am_ (KeepBut.trans (qP HK) hk (.inl rfl)); replace HB := am_ (hb); replace HI0 := am_ (hi); (try clear hb); (try clear hb2); (try clear hk); (try clear hi); obtain ⟨z30_0, z30_1, z30_2⟩ := cz3 BK173.out; obtain ⟨f30_0, f30_1, f30_2⟩ := fz3 BK173.out; have hnb31 := NB169_0.out; have hnc31 := NB0_169.out; obtain ⟨z32_0, z32_1, z32_2⟩ := cz3 BK169.out; obtain ⟨f32_0, f32_1, f32_2⟩ := fz3 BK169.out))
   refine bodyPost_ret (results_cell_row rfl _ _ gb169 47 #[.int .i64 (wrap64 (1 + t170)), .string t183, .int .i64 0] (0, 0) _ rfl (by refine blk_all3 (show _ = some (Go.Obj.cells #[.int .i64 0, .string (⟨#[]⟩ : ByteArray), .int .i64 0] _ (0, 0)) from ?_); refine blk_far ?_ NB169_173.out _; exact qK BK169) Try.underlying47 rfl (by kernel_rfl)) rfl ?_
   exact ⟨er_, IsS176.q HI0, qB HB, qP HK⟩
  ·
   rw [if_neg c18] at H
   have c18b0 : ((wrap64 (1 + t170)) == 2) = false := beq_eq_false_iff_ne.mpr c18
   have c18b1 : ((wrap64 (1 + t170)) != 2) = true := bne_iff_ne.mpr c18
   have HC33 := Aside0.mk H
   clear H
   go_enter Try.func182, Try.ntmps182
   go_upto_if 22 with (first | ((with_reducible refine gate_dst (N := 2) rfl ?_); refine box_event ?hg (N := 2) ?hd (cs := #[.int .i64 0, .string (⟨#[]⟩ : ByteArray), .int .i64 0]) (t := 47) ?hr ?_; (case hd => rfl); (case hg => rfl); (case hr => first | (go_simp; done) | (go_simp; rfl)); intro gb169 hg w34 hbox hb; replace HB := am_ (below_step (qB HB) hb); have BK169 := am_ (hbox); have GW169 := am_ ((gK_ hg (qP HK))); have IGW169 := gI_ GW169; have GE169 := am_ ((Nat.le_trans HW0.out (gK_ hg (qP HK)))); have IGE169 := gI_ GE169; replace HK := am_ (KeepBut.trans (qP HK) (KeepBut.of_below hb g none) (.inl rfl)); have NB0_169 := am_ ((nG_ hg (IsS176.lt (IsS176.q HI0)))); have INB0_169 := nI_ NB0_169; have NB169_0 := am_ (((nG_ hg (IsS176.lt (IsS176.q HI0))).symm)); replace HI0 := am_ (IsS176.below (IsS176.q HI0) hb); clear hb hbox hg) | ((with_reducible refine gate_callee (f := 95) rfl ?_); refine goesL_ (some 5) rfl rfl Try.func95 (by kernel_rfl) rfl #[.pointer (some ⟨g, 0, none⟩), .int .i64 6] rfl la_ ?_; (with_reducible refine (spec_l1Below.calls g s0_0 s0_1 s0_2 6 t170 t171 t172 w0 _ ?side1 ?side2 A2.out).mono ?_); (case side1 => exact IsS176.q HI0); (case side2 => exact qB HB); rintro e w35 ⟨rfl, hi, hb, hk⟩; refine ⟨_, rfl, ?_⟩; replace BK169 := am_ (KeepBut.blk hk (g' := gb169) (o := .cells #[.int .i64 0, .string (⟨#[]⟩ : ByteArray), .int .i64 0] 47 (0, 0)) (qK BK169) NB169_0.out (by simp)); replace HK := am_ (KeepBut.trans (qP HK) hk (.inl rfl)); replace HB := am_ (hb); replace HI0 := am_ (hi); (try clear hb); (try clear hb2); (try clear hk); (try clear hi)) | ((with_reducible refine gate_dst (N := 3) rfl ?_); refine box_event ?hg (N := 3) ?hd (cs := #[.int .i64 0, .string (⟨#[]⟩ : ByteArray), .int .i64 0]) (t := 47) ?hr ?_; (case hd => rfl); (case hg => rfl); (case hr => first | (go_simp; done) | (go_simp; rfl)); intro gb173 hg w36 hbox hb; replace HB := am_ (below_step (qB HB) hb); have BK173 := am_ (hbox); have GW173 := am_ ((gK_ hg (qP HK))); have IGW173 := gI_ GW173; have GE173 := am_ ((Nat.le_trans HW0.out (gK_ hg (qP HK)))); have IGE173 := gI_ GE173; replace HK := am_ (KeepBut.trans (qP HK) (KeepBut.of_below hb g none) (.inl rfl)); have NB169_173 := am_ ((gN_ hg (qK BK169))); have NB173_169 := am_ ((gM_ hg (qK BK169))); replace BK169 := am_ (blk_below (qK BK169) hb); have NB0_173 := am_ ((nG_ hg (IsS176.lt (IsS176.q HI0)))); have INB0_173 := nI_ NB0_173; have NB173_0 := am_ (((nG_ hg (IsS176.lt (IsS176.q HI0))).symm)); replace HI0 := am_ (IsS176.below (IsS176.q HI0) hb); clear hb hbox hg; have hnb37 := NB173_169.out; have hnc37 := NB169_173.out; have hnb38 := NB173_0.out; have hnc38 := NB0_173.out; obtain ⟨z39_0, z39_1, z39_2⟩ := cz3 BK173.out; obtain ⟨f39_0, f39_1, f39_2⟩ := fz3 BK173.out))
   (try simp only [Act.put, List.setIfInBounds_toArray, List.set_cons_zero, List.set_cons_succ])
   go_cut [22] (fun v22 wc => ∃ (kq : Nat) (x22_32 : Bool), v22 = .bool x22_32 ∧ Aside0 (spec_l6Draw.j0 kq (wrap64 (1 + t170)) x22_32 s0_0 t171 t172 (wrap64 (1 + t170)) (⟨#[]⟩ : ByteArray) 0 = some (r1, r2, r3, r4, r5)) ∧ Aside0 (kq ≤ k) ∧ Aside0 (wc.heap[gb169]? = some (.cells #[.int .i64 0, .string (⟨#[]⟩ : ByteArray), .int .i64 0] 47 (0, 0))) ∧ Aside0 (wc.heap[gb173]? = some (.cells #[.int .i64 (wrap64 (1 + t170)), .string (⟨#[]⟩ : ByteArray), .int .i64 0] 47 (0, 0))) ∧ Aside0 (IsS176 w0 wc g s0_0 t171 t172) ∧ Aside0 (KeepBut w wc g none) ∧ Aside0 (Below w0.heap.size w0 wc))
   case first =>
    have H := HC33.out
    clear HC33
    by_cases c40 : (wrap64 (1 + t170)) = 4
    ·
     rw [if_pos c40] at H
     have c40b0 : ((wrap64 (1 + t170)) == 4) = true := beq_iff_eq.mpr c40
     have c40b1 : ((wrap64 (1 + t170)) != 4) = false := bne_eq_false_iff_eq.mpr c40
     clear c40
     (first | rw [c40b0] | rw [c40b1] | (simp only [i64_w, i32_w]; rw [c40b0]) | skip)
     have H' := Aside0.mk H
     clear H
     go_wp2
     go_meet
     case rel => exact ⟨_, (((wrap64 (1 + t170)) == 4)), eqq_, H', ⟨by first | omega | exact Nat.le_refl _⟩, ⟨by (with_reducible repeat (first | refine blk_drewN ?_ _ | refine blk_drew ?_ | refine blk_alloc ?_ _)); refine Go.Proofs.YtaimfkfpglhijaaV.blk_far3 ?_ NB169_173.out; exact qK BK169⟩, ⟨by (with_reducible repeat (first | refine blk_drewN ?_ _ | refine blk_drew ?_ | refine blk_alloc ?_ _)); refine Go.Proofs.YtaimfkfpglhijaaV.blk_all3 (show _ = some (Go.Obj.cells #[.int .i64 0, .string (⟨#[]⟩ : ByteArray), .int .i64 0] _ (0, 0)) from ?_); exact qK BK173⟩, ⟨IsS176.q HI0⟩, ⟨qP HK⟩, ⟨qB HB⟩⟩
    ·
     rw [if_neg c40] at H
     have c40b0 : ((wrap64 (1 + t170)) == 4) = false := beq_eq_false_iff_ne.mpr c40
     have c40b1 : ((wrap64 (1 + t170)) != 4) = true := bne_iff_ne.mpr c40
     (first | rw [c40b0] | rw [c40b1] | (simp only [i64_w, i32_w]; rw [c40b0]) | skip)
     have H' := Aside0.mk H
     clear H
     go_wp2
     go_meet
     case rel => exact ⟨_, (((wrap64 (1 + t170)) == 6)), eqq_, H', ⟨by first | omega | exact Nat.le_refl _⟩, ⟨by (with_reducible repeat (first | refine blk_drewN ?_ _ | refine blk_drew ?_ | refine blk_alloc ?_ _)); refine Go.Proofs.YtaimfkfpglhijaaV.blk_far3 ?_ NB169_173.out; exact qK BK169⟩, ⟨by (with_reducible repeat (first | refine blk_drewN ?_ _ | refine blk_drew ?_ | refine blk_alloc ?_ _)); refine Go.Proofs.YtaimfkfpglhijaaV.blk_all3 (show _ = some (Go.Obj.cells #[.int .i64 0, .string (⟨#[]⟩ : ByteArray), .int .i64 0] _ (0, 0)) from ?_); exact qK BK173⟩, ⟨IsS176.q HI0⟩, ⟨qP HK⟩, ⟨qB HB⟩⟩
   case rest =>
    clear HC33
    try clear c1
    try clear c2
    try clear p2
    try clear c3
    try clear c3b0
    try clear c3b1
    try clear c4
    try clear p6
    try clear c8
    try clear c9
    try clear c15
    try clear c16
    try clear c18
    try clear c18b0
    try clear c18b1
    try clear c23
    try clear c24
    try clear c31
    try clear c37
    try clear c38
    try clear c40
    try clear c40b0
    try clear c40b1
    (try clear z10_0 z10_1 z10_2)
    (try clear z15_0 z15_1 z15_2)
    (try clear z17_0 z17_1 z17_2)
    (try clear z25_0 z25_1 z25_2)
    (try clear z30_0 z30_1 z30_2)
    (try clear z32_0 z32_1 z32_2)
    (try clear z39_0 z39_1 z39_2)
    (try clear f10_0 f10_1 f10_2)
    (try clear f15_0 f15_1 f15_2)
    (try clear f17_0 f17_1 f17_2)
    (try clear f25_0 f25_1 f25_2)
    (try clear f30_0 f30_1 f30_2)
    (try clear f32_0 f32_1 f32_2)
    (try clear f39_0 f39_1 f39_2)
    obtain ⟨kq, x22_32, rfl, HA, HJ32, BK169, BK173, HI0, HK, HB⟩ := hcut
    cases kq with
    | zero => exact absurd HA.out (by simp [spec_l6Draw.j0])
    | succ kj32 =>
     have H := HA.out
     clear HA
     simp only [spec_l6Draw.j0] at H
     by_cases c41 : x22_32 = true
     ·
      subst c41
      rw [if_pos rfl] at H
      obtain ⟨y186, hy186⟩ : ∃ y_ : List ByteArray, y_ = (([(⟨#[]⟩ : ByteArray), (⟨#[97]⟩ : ByteArray), (⟨#[102, 117, 108, 108]⟩ : ByteArray), (⟨#[111, 110, 101]⟩ : ByteArray)] : List ByteArray)) := ⟨_, rfl⟩
      rw [← hy186] at H
      have Ny186 := Aside0.mk hy186
      clear hy186
      obtain ⟨⟨t189, t190, t191⟩, A42, H⟩ := bd_ H
      (try dsimp only at H)
      simp only [Option.some.injEq, Prod.mk.injEq] at H
      obtain ⟨rfl, rfl, rfl, rfl, rfl⟩ := H
      go_wp2_with (first | ((with_reducible refine gate_dst (N := 26) rfl ?_); refine Kd.R_lit Kd.string _ 9 ?hg (N := 26) ?hd (xs := ([(⟨#[]⟩ : ByteArray), (⟨#[97]⟩ : ByteArray), (⟨#[102, 117, 108, 108]⟩ : ByteArray), (⟨#[111, 110, 101]⟩ : ByteArray)] : List ByteArray)) (inner := [.string (⟨#[]⟩ : ByteArray), .string (⟨#[97]⟩ : ByteArray), .string (⟨#[102, 117, 108, 108]⟩ : ByteArray), .string (⟨#[111, 110, 101]⟩ : ByteArray)]) (ok := fun _ => True) (okp := fun _ => True) ?hr ?hp (fun _ hk => hk) trivial (Below.refl _ _) (Nat.le_refl _) (by simp) ?_; (case hd => rfl); (case hg => rfl); (case hr => first | (go_simp; done) | (go_simp; rfl)); (case hp => exact (Reps.one (show Kd.M Kd.string _ _ _ (⟨#[]⟩ : ByteArray) [.string (⟨#[]⟩ : ByteArray)] from rfl) (Reps.one (show Kd.M Kd.string _ _ _ (⟨#[97]⟩ : ByteArray) [.string (⟨#[97]⟩ : ByteArray)] from rfl) (Reps.one (show Kd.M Kd.string _ _ _ (⟨#[102, 117, 108, 108]⟩ : ByteArray) [.string (⟨#[102, 117, 108, 108]⟩ : ByteArray)] from rfl) (Reps.one (show Kd.M Kd.string _ _ _ (⟨#[111, 110, 101]⟩ : ByteArray) [.string (⟨#[111, 110, 101]⟩ : ByteArray)] from rfl) (Reps.none _ _)))))); intro v187 w43 ho44 hb hg_ hnew_; clear hg_ hnew_; (first | rw [← Ny186.out] at ho44 | (simp only [Int.reduceToNat] at ho44; rw [← Ny186.out] at ho44)); have HO188 := am_ (Kd.R_lower ho44 (keep_size (w := w) (g := g) (row := none) (qP HK))); replace BK169 := am_ (blk_below (qK BK169) hb); replace BK173 := am_ (blk_below (qK BK173) hb); replace HK := am_ (KeepBut.trans (qP HK) (KeepBut.of_below hb g none) (.inl rfl)); replace HB := am_ (below_step (qB HB) hb); replace HI0 := am_ (IsS176.below (IsS176.q HI0) hb); clear hb ho44; obtain ⟨Ao45, co45, eo45⟩ := Kd.R_slice HO188.out; subst eo45) | ((with_reducible refine gate_callee (f := 157) rfl ?_); refine goesL_ (some 27) rfl rfl Try.func157 (by kernel_rfl) rfl #[.pointer (some ⟨g, 0, none⟩), .slice Ao45 y186.length co45] rfl la_ ?_; (with_reducible refine (spec_l1Str.calls g s0_0 t171 t172 _ _ y186 t189 t190 t191 w0 _ ?side1 ?side2 ?side3 ?side4 ?side5 A42.out).mono ?_); (case side1 => exact IsS176.q HI0); (case side2 => exact qB HB); (case side3 => exact qC ((Kd.R_reads' HO188.out).2.2)); (case side4 => exact (Kd.R_reads' HO188.out).2.1); (case side5 => exact far_slice (IsS176.own_ne HI0.out HO188.out (by decide))); rintro e w46 ⟨rfl, hi, hb, hk⟩; refine ⟨_, rfl, ?_⟩; replace BK169 := am_ (KeepBut.blk hk (g' := gb169) (o := .cells #[.int .i64 0, .string (⟨#[]⟩ : ByteArray), .int .i64 0] 47 (0, 0)) (qK BK169) NB169_0.out (by simp)); replace BK173 := am_ (KeepBut.blk hk (g' := gb173) (o := .cells #[.int .i64 (wrap64 (1 + t170)), .string (⟨#[]⟩ : ByteArray), .int .i64 0] 47 (0, 0)) (qK BK173) NB173_0.out (by simp)); replace HO188 := am_ (Kd.R_mono (Kd.R_keep (IsS176.apart (show IsS176 w0 _ g s0_0 t171 t172 from IsS176.q HI0) (qR HO188) (by decide)) hk (fun _ h => h.2)) (fun _ h => h.1)); replace HK := am_ (KeepBut.trans (qP HK) hk (.inl rfl)); replace HB := am_ (hb); replace HI0 := am_ (hi); (try clear hb); (try clear hb2); (try clear hk); (try clear hi); have hnb47 := NB173_169.out; have hnc47 := NB169_173.out; have hnb48 := NB173_0.out; have hnc48 := NB0_173.out; obtain ⟨z49_0, z49_1, z49_2⟩ := cz3 BK173.out; obtain ⟨f49_0, f49_1, f49_2⟩ := fz3 BK173.out; have hnb50 := NB169_0.out; have hnc50 := NB0_169.out; obtain ⟨z51_0, z51_1, z51_2⟩ := cz3 BK169.out; obtain ⟨f51_0, f51_1, f51_2⟩ := fz3 BK169.out))
      refine bodyPost_ret (results_cell_row rfl _ _ gb169 47 #[.int .i64 (wrap64 (1 + t170)), .string t189, .int .i64 0] (0, 0) _ rfl (by refine blk_all3 (show _ = some (Go.Obj.cells #[.int .i64 0, .string (⟨#[]⟩ : ByteArray), .int .i64 0] _ (0, 0)) from ?_); refine blk_far ?_ NB169_173.out _; exact qK BK169) Try.underlying47 rfl (by kernel_rfl)) rfl ?_
      exact ⟨er_, IsS176.q HI0, qB HB, qP HK⟩
     ·
      replace c41 := Bool.eq_false_iff.mpr c41
      subst c41
      rw [if_neg (show ¬ (false = true) by decide)] at H
      by_cases c52 : (wrap64 (1 + t170)) = 5
      ·
       rw [if_pos c52] at H
       have c52b0 : ((wrap64 (1 + t170)) == 5) = true := beq_iff_eq.mpr c52
       have c52b1 : ((wrap64 (1 + t170)) != 5) = false := bne_eq_false_iff_eq.mpr c52
       clear c52
       obtain ⟨⟨t192, t193, t194⟩, A53, H⟩ := bd_ H
       (try dsimp only at H)
       simp only [Option.some.injEq, Prod.mk.injEq] at H
       obtain ⟨rfl, rfl, rfl, rfl, rfl⟩ := H
       go_wp2_with (first | ((with_reducible refine gate_callee (f := 95) rfl ?_); refine goesL_ (some 32) rfl rfl Try.func95 (by kernel_rfl) rfl #[.pointer (some ⟨g, 0, none⟩), .int .i64 3] rfl la_ ?_; (with_reducible refine (spec_l1Below.calls g s0_0 t171 t172 3 t192 t193 t194 w0 _ ?side1 ?side2 A53.out).mono ?_); (case side1 => exact IsS176.q HI0); (case side2 => exact qB HB); rintro e w54 ⟨rfl, hi, hb, hk⟩; refine ⟨_, rfl, ?_⟩; replace BK169 := am_ (KeepBut.blk hk (g' := gb169) (o := .cells #[.int .i64 0, .string (⟨#[]⟩ : ByteArray), .int .i64 0] 47 (0, 0)) (qK BK169) NB169_0.out (by simp)); replace BK173 := am_ (KeepBut.blk hk (g' := gb173) (o := .cells #[.int .i64 (wrap64 (1 + t170)), .string (⟨#[]⟩ : ByteArray), .int .i64 0] 47 (0, 0)) (qK BK173) NB173_0.out (by simp)); replace HK := am_ (KeepBut.trans (qP HK) hk (.inl rfl)); replace HB := am_ (hb); replace HI0 := am_ (hi); (try clear hb); (try clear hb2); (try clear hk); (try clear hi); have hnb55 := NB173_169.out; have hnc55 := NB169_173.out; have hnb56 := NB173_0.out; have hnc56 := NB0_173.out; obtain ⟨z57_0, z57_1, z57_2⟩ := cz3 BK173.out; obtain ⟨f57_0, f57_1, f57_2⟩ := fz3 BK173.out; have hnb58 := NB169_0.out; have hnc58 := NB0_169.out; obtain ⟨z59_0, z59_1, z59_2⟩ := cz3 BK169.out; obtain ⟨f59_0, f59_1, f59_2⟩ := fz3 BK169.out))
       refine bodyPost_ret (results_cell_row rfl _ _ gb169 47 #[.int .i64 (wrap64 (1 + t170)), .string (⟨#[]⟩ : ByteArray), .int .i64 t192] (0, 0) _ rfl (by refine blk_all3 (show _ = some (Go.Obj.cells #[.int .i64 0, .string (⟨#[]⟩ : ByteArray), .int .i64 0] _ (0, 0)) from ?_); refine blk_far ?_ NB169_173.out _; exact qK BK169) Try.underlying47 rfl (by kernel_rfl)) rfl ?_
       exact ⟨er_, IsS176.q HI0, qB HB, qP HK⟩
      ·
       rw [if_neg c52] at H
       have c52b0 : ((wrap64 (1 + t170)) == 5) = false := beq_eq_false_iff_ne.mpr c52
       have c52b1 : ((wrap64 (1 + t170)) != 5) = true := bne_iff_ne.mpr c52
       simp only [Option.some.injEq, Prod.mk.injEq] at H
       obtain ⟨rfl, rfl, rfl, rfl, rfl⟩ := H
       have hnb60 := NB173_169.out
       have hnc60 := NB169_173.out
       have hnb61 := NB173_0.out
       have hnc61 := NB0_173.out
       obtain ⟨z62_0, z62_1, z62_2⟩ := cz3 BK173.out
       obtain ⟨f62_0, f62_1, f62_2⟩ := fz3 BK173.out
       have hnb63 := NB169_0.out
       have hnc63 := NB0_169.out
       obtain ⟨z64_0, z64_1, z64_2⟩ := cz3 BK169.out
       obtain ⟨f64_0, f64_1, f64_2⟩ := fz3 BK169.out
       go_wp2
       refine bodyPost_ret (results_cell_row rfl _ _ gb169 47 #[.int .i64 (wrap64 (1 + t170)), .string (⟨#[]⟩ : ByteArray), .int .i64 0] (0, 0) _ rfl (by refine blk_all3 (show _ = some (Go.Obj.cells #[.int .i64 0, .string (⟨#[]⟩ : ByteArray), .int .i64 0] _ (0, 0)) from ?_); exact qK BK169) Try.underlying47 rfl (by kernel_rfl)) rfl ?_
       exact ⟨er_, IsS176.q HI0, qB HB, qP HK⟩

end Go.Proofs.Ytaimfkfpglhijaa.PFnFar
