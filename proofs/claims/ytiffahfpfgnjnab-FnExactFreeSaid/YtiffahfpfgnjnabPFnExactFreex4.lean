-- Written by a program of this session (myprint.py, over the kit's print): contracts of FnExactFree
import Derived.Test.YtiffahfpfgnjnabPFnExactFreex0
import Derived.Test.YtiffahfpfgnjnabPFnExactFreex1
import Derived.Test.YtiffahfpfgnjnabPFnExactFreex2
import Derived.Test.YtiffahfpfgnjnabPFnExactFreex3
namespace Go.Proofs.Ytiffahfpfgnjnab.PFnExactFree
open Go.RowKit Go.Proofs.YtiffahfpfgnjnabW.PrintWords Go.Proofs.YtiffahfpfgnjnabW.PrintLast Go.Proofs.YtiffahfpfgnjnabW.PrintMore Go.Proofs.YtiffahfpfgnjnabV
attribute [local go_sem] max2_int min2_int max_two min_two max_three min_three max_four min_four   -- for this text's walks alone
set_option linter.unusedVariables false
set_option linter.unusedSimpArgs false

/-! ### laws_heldSockS: function 13 -/
def laws_heldSockS.l0 : Nat → List (S80) → Int → Int → Option (Int)
 | 0, _, _, _ => none
 | k + 1, x0, x1, x5 => if x5 < (x0.length : Int) then (if 0 ≤ x5 then (if ((rd_T80 x0 x5).f0) = x1 then (if ((rd_T80 x0 x5).f1) = (wrap64 (x1 + 1)) then (if ((rd_T80 x0 x5).f2) = (wrap64 ((wrap64 (x1 + 1)) + 1)) then (if (((rd_T80 x0 x5).f3) != ((Int.tmod (wrap64 ((wrap64 ((wrap64 (x1 + 1)) + 1)) + 1)) 3) == 0)) = true then (some (-1)) else ((laws_heldByteS.f k ((rd_T80 x0 x5).f4) (wrap64 ((wrap64 ((wrap64 ((wrap64 (x1 + 1)) + 1)) + 1)) + 1))).bind fun t226 => (if t226 < 0 then (some (-1)) else ((laws_heldByteS.f k ((rd_T80 x0 x5).f5) t226).bind fun t228 => (if t228 < 0 then (some (-1)) else (if ((rd_T80 x0 x5).f6) = t228 then (if ((rd_T80 x0 x5).f7) = (wrap64 (t228 + 1)) then (laws_heldSockS.l0 k x0 (wrap64 ((wrap64 (t228 + 1)) + 1)) (wrap64 (x5 + 1))) else (some (-1))) else (some (-1)))))))) else (some (-1))) else (some (-1))) else (some (-1))) else (none)) else (some x1)
def laws_heldSockS.f (k : Nat) (l0 : List (S80)) (a1 : Int) : Option (Int) := laws_heldSockS.l0 k l0 a1 0
theorem laws_heldSockS.mono_l : ∀ k, (∀ y0 y1 y2, LeO (laws_heldSockS.l0 k y0 y1 y2) (laws_heldSockS.l0 (k + 1) y0 y1 y2))
 | 0 => fun _ _ _ r h => by simp [laws_heldSockS.l0] at h
 | k + 1 => by
  have ih0 := laws_heldSockS.mono_l k
  ·
   intro y0 y1 y2
   unfold laws_heldSockS.l0
   repeat' first
   | (with_reducible exact ih0 _ _ _)
   | (with_reducible exact laws_heldByteS.mono _ _ _)
   | (with_reducible exact LeO.refl _)
   | (with_reducible exact LeO.none _)
   | (with_reducible refine LeO.ite ?_ ?_)
   | (with_reducible refine LeO.bind ?_ (fun _ => ?_))
theorem laws_heldSockS.mono : ∀ a0 a1 k, LeO (laws_heldSockS.f k a0 a1) (laws_heldSockS.f (k + 1) a0 a1) := by
 intro a0 a1 k
 have ih0 := laws_heldSockS.mono_l k
 unfold laws_heldSockS.f
 repeat' first
   | (with_reducible exact ih0 _ _ _)
   | (with_reducible exact laws_heldByteS.mono _ _ _)
   | (with_reducible exact LeO.refl _)
   | (with_reducible exact LeO.none _)
   | (with_reducible refine LeO.ite ?_ ?_)
   | (with_reducible refine LeO.bind ?_ (fun _ => ?_))
set_option maxHeartbeats 8000000 in
set_option maxRecDepth 100000 in
theorem laws_heldSockS.calls (k : Nat) (A0 : Option Addr) (c0 : Nat) (l0 : List (S80)) (a1 : Int) (r : Int) (w : World) (hr0 : Kd.C k80 w A0 l0.length l0) (hc0 : l0.length ≤ c0) (h : laws_heldSockS.f k l0 a1 = some r) :
  Calls Try.prog 13 #[.slice A0 l0.length c0, .int .i64 a1] w fun e w' => e = .returned (.int .i64 r) ∧ Drawn0 w w' := by
 have HR0 := Aside0.mk hr0
 have HC0 := Aside0.mk hc0
 clear hr0 hc0
 have H : (laws_heldSockS.l0 k l0 a1 0) = some r := h
 clear h
 have H' := Aside0.mk H
 clear H
 go_enter Try.func13, Try.ntmps13
 go_wp2
 go_loopg [1, 5] k (fun kq v1 v5 w' => ∃ (x1_1 : Int) (x5_1 : Int), v1 = .int .i64 x1_1 ∧ v5 = .int .i64 x5_1 ∧ Aside0 (laws_heldSockS.l0 kq l0 x1_1 x5_1 = some r) ∧ Aside0 (kq ≤ k) ∧ Drawn0 w w')
 case atStart => exact ⟨(a1), (0), eqq_, eqq_, H', ⟨Nat.le_refl _⟩, by repeat (first | exact Drawn0.refl _ | apply Drawn0.step)⟩
 case round =>
  clear H'
  try clear c1
  try clear p2
  obtain ⟨x1_1, x5_1, rfl, rfl, HA, HK1, ⟨m1, rfl⟩⟩ := hrel
  cases gk with
  | zero => exact absurd HA.out (by simp [laws_heldSockS.l0])
  | succ k1 =>
   have H := HA.out
   clear HA
   simp only [laws_heldSockS.l0] at H
   by_cases c3 : x5_1 < (l0.length : Int)
   rotate_left
   ·
    rw [if_neg c3] at H
    have c3b0 : decide (x5_1 < (l0.length : Int)) = false := decide_eq_false c3
    clear c3
    obtain rfl := Option.some.inj H
    go_wp2
    go_ret
    exact ⟨by first | rfl | (simp; done) | (simp [*]; done), by repeat (first | exact Drawn0.refl _ | apply Drawn0.step)⟩
   rw [if_pos c3] at H
   have c3b0 : decide (x5_1 < (l0.length : Int)) = true := decide_eq_true c3
   clear c3
   by_cases c4 : 0 ≤ x5_1
   case neg => exact nn_ c4 H
   rw [if_pos c4] at H
   have c4b0 : decide (0 ≤ x5_1) = true := decide_eq_true c4
   clear c4
   by_cases c5 : ((rd_T80 l0 x5_1).f0) = x1_1
   rotate_left
   ·
    rw [if_neg c5] at H
    have c5b0 : (((rd_T80 l0 x5_1).f0) == x1_1) = false := beq_eq_false_iff_ne.mpr c5
    have c5b1 : (((rd_T80 l0 x5_1).f0) != x1_1) = true := bne_iff_ne.mpr c5
    obtain rfl := Option.some.inj H
    have p221 : 0 ≤ (x5_1 : Int) := od_
    have q221 : x5_1 < (l0.length : Int) := od_
    obtain ⟨ad221, A221_4, c221_4, A221_5, c221_5, e221, hx221_0, hx221_1, hx221_2, hx221_3, hx221_4, hx221_5, hx221_6, hx221_7, hl221_4, hi221_4, hl221_5, hi221_5⟩ := at_T80 HR0.out x5_1 p221 q221
    cases e221
    have HR221_4 := Aside0.mk hi221_4
    have HC221_4 := Aside0.mk hl221_4
    clear hi221_4 hl221_4
    have HR221_5 := Aside0.mk hi221_5
    have HC221_5 := Aside0.mk hl221_5
    clear hi221_5 hl221_5
    replace p221 := eq_true p221
    replace q221 := eq_true q221
    go_wp2
    go_ret
    exact ⟨by first | rfl | (simp; done) | (simp [*]; done), by repeat (first | exact Drawn0.refl _ | apply Drawn0.step)⟩
   rw [if_pos c5] at H
   have c5b0 : (((rd_T80 l0 x5_1).f0) == x1_1) = true := beq_iff_eq.mpr c5
   have c5b1 : (((rd_T80 l0 x5_1).f0) != x1_1) = false := bne_eq_false_iff_eq.mpr c5
   clear c5
   by_cases c6 : ((rd_T80 l0 x5_1).f1) = (wrap64 (x1_1 + 1))
   rotate_left
   ·
    rw [if_neg c6] at H
    have c6b0 : (((rd_T80 l0 x5_1).f1) == (wrap64 (x1_1 + 1))) = false := beq_eq_false_iff_ne.mpr c6
    have c6b1 : (((rd_T80 l0 x5_1).f1) != (wrap64 (x1_1 + 1))) = true := bne_iff_ne.mpr c6
    obtain rfl := Option.some.inj H
    have p221 : 0 ≤ (x5_1 : Int) := od_
    have q221 : x5_1 < (l0.length : Int) := od_
    obtain ⟨ad221, A221_4, c221_4, A221_5, c221_5, e221, hx221_0, hx221_1, hx221_2, hx221_3, hx221_4, hx221_5, hx221_6, hx221_7, hl221_4, hi221_4, hl221_5, hi221_5⟩ := at_T80 HR0.out x5_1 p221 q221
    cases e221
    have HR221_4 := Aside0.mk hi221_4
    have HC221_4 := Aside0.mk hl221_4
    clear hi221_4 hl221_4
    have HR221_5 := Aside0.mk hi221_5
    have HC221_5 := Aside0.mk hl221_5
    clear hi221_5 hl221_5
    replace p221 := eq_true p221
    replace q221 := eq_true q221
    have p222 : 0 ≤ (x5_1 : Int) := od_
    have q222 : x5_1 < (l0.length : Int) := od_
    obtain ⟨ad222, A222_4, c222_4, A222_5, c222_5, e222, hx222_0, hx222_1, hx222_2, hx222_3, hx222_4, hx222_5, hx222_6, hx222_7, hl222_4, hi222_4, hl222_5, hi222_5⟩ := at_T80 HR0.out x5_1 p222 q222
    obtain rfl : ad221 = ad222 := (by injection e222)
    have HR222_4 := Aside0.mk hi222_4
    have HC222_4 := Aside0.mk hl222_4
    clear hi222_4 hl222_4
    have HR222_5 := Aside0.mk hi222_5
    have HC222_5 := Aside0.mk hl222_5
    clear hi222_5 hl222_5
    replace p222 := eq_true p222
    replace q222 := eq_true q222
    have ea_ := Option.some.inj (hx221_4.symm.trans hx222_4)
    injection ea_ with ea_ en_ ec_
    subst ea_
    subst ec_
    clear en_
    have ea_ := Option.some.inj (hx221_5.symm.trans hx222_5)
    injection ea_ with ea_ en_ ec_
    subst ea_
    subst ec_
    clear en_
    go_wp2
    go_ret
    exact ⟨by first | rfl | (simp; done) | (simp [*]; done), by repeat (first | exact Drawn0.refl _ | apply Drawn0.step)⟩
   rw [if_pos c6] at H
   have c6b0 : (((rd_T80 l0 x5_1).f1) == (wrap64 (x1_1 + 1))) = true := beq_iff_eq.mpr c6
   have c6b1 : (((rd_T80 l0 x5_1).f1) != (wrap64 (x1_1 + 1))) = false := bne_eq_false_iff_eq.mpr c6
   clear c6
   by_cases c7 : ((rd_T80 l0 x5_1).f2) = (wrap64 ((wrap64 (x1_1 + 1)) + 1))
   rotate_left
   ·
    rw [if_neg c7] at H
    have c7b0 : (((rd_T80 l0 x5_1).f2) == (wrap64 ((wrap64 (x1_1 + 1)) + 1))) = false := beq_eq_false_iff_ne.mpr c7
    have c7b1 : (((rd_T80 l0 x5_1).f2) != (wrap64 ((wrap64 (x1_1 + 1)) + 1))) = true := bne_iff_ne.mpr c7
    obtain rfl := Option.some.inj H
    have p221 : 0 ≤ (x5_1 : Int) := od_
    have q221 : x5_1 < (l0.length : Int) := od_
    obtain ⟨ad221, A221_4, c221_4, A221_5, c221_5, e221, hx221_0, hx221_1, hx221_2, hx221_3, hx221_4, hx221_5, hx221_6, hx221_7, hl221_4, hi221_4, hl221_5, hi221_5⟩ := at_T80 HR0.out x5_1 p221 q221
    cases e221
    have HR221_4 := Aside0.mk hi221_4
    have HC221_4 := Aside0.mk hl221_4
    clear hi221_4 hl221_4
    have HR221_5 := Aside0.mk hi221_5
    have HC221_5 := Aside0.mk hl221_5
    clear hi221_5 hl221_5
    replace p221 := eq_true p221
    replace q221 := eq_true q221
    have p222 : 0 ≤ (x5_1 : Int) := od_
    have q222 : x5_1 < (l0.length : Int) := od_
    obtain ⟨ad222, A222_4, c222_4, A222_5, c222_5, e222, hx222_0, hx222_1, hx222_2, hx222_3, hx222_4, hx222_5, hx222_6, hx222_7, hl222_4, hi222_4, hl222_5, hi222_5⟩ := at_T80 HR0.out x5_1 p222 q222
    obtain rfl : ad221 = ad222 := (by injection e222)
    have HR222_4 := Aside0.mk hi222_4
    have HC222_4 := Aside0.mk hl222_4
    clear hi222_4 hl222_4
    have HR222_5 := Aside0.mk hi222_5
    have HC222_5 := Aside0.mk hl222_5
    clear hi222_5 hl222_5
    replace p222 := eq_true p222
    replace q222 := eq_true q222
    have ea_ := Option.some.inj (hx221_4.symm.trans hx222_4)
    injection ea_ with ea_ en_ ec_
    subst ea_
    subst ec_
    clear en_
    have ea_ := Option.some.inj (hx221_5.symm.trans hx222_5)
    injection ea_ with ea_ en_ ec_
    subst ea_
    subst ec_
    clear en_
    have p223 : 0 ≤ (x5_1 : Int) := od_
    have q223 : x5_1 < (l0.length : Int) := od_
    obtain ⟨ad223, A223_4, c223_4, A223_5, c223_5, e223, hx223_0, hx223_1, hx223_2, hx223_3, hx223_4, hx223_5, hx223_6, hx223_7, hl223_4, hi223_4, hl223_5, hi223_5⟩ := at_T80 HR0.out x5_1 p223 q223
    obtain rfl : ad221 = ad223 := (by injection e223)
    have HR223_4 := Aside0.mk hi223_4
    have HC223_4 := Aside0.mk hl223_4
    clear hi223_4 hl223_4
    have HR223_5 := Aside0.mk hi223_5
    have HC223_5 := Aside0.mk hl223_5
    clear hi223_5 hl223_5
    replace p223 := eq_true p223
    replace q223 := eq_true q223
    have ea_ := Option.some.inj (hx221_4.symm.trans hx223_4)
    injection ea_ with ea_ en_ ec_
    subst ea_
    subst ec_
    clear en_
    have ea_ := Option.some.inj (hx221_5.symm.trans hx223_5)
    injection ea_ with ea_ en_ ec_
    subst ea_
    subst ec_
    clear en_
    go_wp2
    go_ret
    exact ⟨by first | rfl | (simp; done) | (simp [*]; done), by repeat (first | exact Drawn0.refl _ | apply Drawn0.step)⟩
   rw [if_pos c7] at H
   have c7b0 : (((rd_T80 l0 x5_1).f2) == (wrap64 ((wrap64 (x1_1 + 1)) + 1))) = true := beq_iff_eq.mpr c7
   have c7b1 : (((rd_T80 l0 x5_1).f2) != (wrap64 ((wrap64 (x1_1 + 1)) + 1))) = false := bne_eq_false_iff_eq.mpr c7
   clear c7
   by_cases c8 : (((rd_T80 l0 x5_1).f3) != ((Int.tmod (wrap64 ((wrap64 ((wrap64 (x1_1 + 1)) + 1)) + 1)) 3) == 0)) = true
   ·
    rw [if_pos c8] at H
    have c8b0 : (((rd_T80 l0 x5_1).f3) != ((Int.tmod (wrap64 ((wrap64 ((wrap64 (x1_1 + 1)) + 1)) + 1)) 3) == 0)) = true := c8
    (try (have c8b1 : decide (((rd_T80 l0 x5_1).f3) = ((Int.tmod (wrap64 ((wrap64 ((wrap64 (x1_1 + 1)) + 1)) + 1)) 3) == 0)) = false := by simpa using c8))
    (try (have c8b2 : (((rd_T80 l0 x5_1).f3) == ((Int.tmod (wrap64 ((wrap64 ((wrap64 (x1_1 + 1)) + 1)) + 1)) 3) == 0)) = false := by simpa using c8))
    (try (have c8b3 : ¬ (((rd_T80 l0 x5_1).f3) = ((Int.tmod (wrap64 ((wrap64 ((wrap64 (x1_1 + 1)) + 1)) + 1)) 3) == 0)) := by simpa using c8))
    clear c8
    obtain rfl := Option.some.inj H
    have p221 : 0 ≤ (x5_1 : Int) := od_
    have q221 : x5_1 < (l0.length : Int) := od_
    obtain ⟨ad221, A221_4, c221_4, A221_5, c221_5, e221, hx221_0, hx221_1, hx221_2, hx221_3, hx221_4, hx221_5, hx221_6, hx221_7, hl221_4, hi221_4, hl221_5, hi221_5⟩ := at_T80 HR0.out x5_1 p221 q221
    cases e221
    have HR221_4 := Aside0.mk hi221_4
    have HC221_4 := Aside0.mk hl221_4
    clear hi221_4 hl221_4
    have HR221_5 := Aside0.mk hi221_5
    have HC221_5 := Aside0.mk hl221_5
    clear hi221_5 hl221_5
    replace p221 := eq_true p221
    replace q221 := eq_true q221
    have p222 : 0 ≤ (x5_1 : Int) := od_
    have q222 : x5_1 < (l0.length : Int) := od_
    obtain ⟨ad222, A222_4, c222_4, A222_5, c222_5, e222, hx222_0, hx222_1, hx222_2, hx222_3, hx222_4, hx222_5, hx222_6, hx222_7, hl222_4, hi222_4, hl222_5, hi222_5⟩ := at_T80 HR0.out x5_1 p222 q222
    obtain rfl : ad221 = ad222 := (by injection e222)
    have HR222_4 := Aside0.mk hi222_4
    have HC222_4 := Aside0.mk hl222_4
    clear hi222_4 hl222_4
    have HR222_5 := Aside0.mk hi222_5
    have HC222_5 := Aside0.mk hl222_5
    clear hi222_5 hl222_5
    replace p222 := eq_true p222
    replace q222 := eq_true q222
    have ea_ := Option.some.inj (hx221_4.symm.trans hx222_4)
    injection ea_ with ea_ en_ ec_
    subst ea_
    subst ec_
    clear en_
    have ea_ := Option.some.inj (hx221_5.symm.trans hx222_5)
    injection ea_ with ea_ en_ ec_
    subst ea_
    subst ec_
    clear en_
    have p223 : 0 ≤ (x5_1 : Int) := od_
    have q223 : x5_1 < (l0.length : Int) := od_
    obtain ⟨ad223, A223_4, c223_4, A223_5, c223_5, e223, hx223_0, hx223_1, hx223_2, hx223_3, hx223_4, hx223_5, hx223_6, hx223_7, hl223_4, hi223_4, hl223_5, hi223_5⟩ := at_T80 HR0.out x5_1 p223 q223
    obtain rfl : ad221 = ad223 := (by injection e223)
    have HR223_4 := Aside0.mk hi223_4
    have HC223_4 := Aside0.mk hl223_4
    clear hi223_4 hl223_4
    have HR223_5 := Aside0.mk hi223_5
    have HC223_5 := Aside0.mk hl223_5
    clear hi223_5 hl223_5
    replace p223 := eq_true p223
    replace q223 := eq_true q223
    have ea_ := Option.some.inj (hx221_4.symm.trans hx223_4)
    injection ea_ with ea_ en_ ec_
    subst ea_
    subst ec_
    clear en_
    have ea_ := Option.some.inj (hx221_5.symm.trans hx223_5)
    injection ea_ with ea_ en_ ec_
    subst ea_
    subst ec_
    clear en_
    have p224 : 0 ≤ (x5_1 : Int) := od_
    have q224 : x5_1 < (l0.length : Int) := od_
    obtain ⟨ad224, A224_4, c224_4, A224_5, c224_5, e224, hx224_0, hx224_1, hx224_2, hx224_3, hx224_4, hx224_5, hx224_6, hx224_7, hl224_4, hi224_4, hl224_5, hi224_5⟩ := at_T80 HR0.out x5_1 p224 q224
    obtain rfl : ad221 = ad224 := (by injection e224)
    have HR224_4 := Aside0.mk hi224_4
    have HC224_4 := Aside0.mk hl224_4
    clear hi224_4 hl224_4
    have HR224_5 := Aside0.mk hi224_5
    have HC224_5 := Aside0.mk hl224_5
    clear hi224_5 hl224_5
    replace p224 := eq_true p224
    replace q224 := eq_true q224
    have ea_ := Option.some.inj (hx221_4.symm.trans hx224_4)
    injection ea_ with ea_ en_ ec_
    subst ea_
    subst ec_
    clear en_
    have ea_ := Option.some.inj (hx221_5.symm.trans hx224_5)
    injection ea_ with ea_ en_ ec_
    subst ea_
    subst ec_
    clear en_
    go_wp2
    go_ret
    exact ⟨by first | rfl | (simp; done) | (simp [*]; done), by repeat (first | exact Drawn0.refl _ | apply Drawn0.step)⟩
   rw [if_neg c8] at H
   have c8b0 : (((rd_T80 l0 x5_1).f3) != ((Int.tmod (wrap64 ((wrap64 ((wrap64 (x1_1 + 1)) + 1)) + 1)) 3) == 0)) = false := by simpa using c8
   (try (have c8b1 : decide (((rd_T80 l0 x5_1).f3) = ((Int.tmod (wrap64 ((wrap64 ((wrap64 (x1_1 + 1)) + 1)) + 1)) 3) == 0)) = true := by simpa using c8))
   (try (have c8b2 : (((rd_T80 l0 x5_1).f3) == ((Int.tmod (wrap64 ((wrap64 ((wrap64 (x1_1 + 1)) + 1)) + 1)) 3) == 0)) = true := by simpa using c8))
   clear c8
   replace H := bd_ H
   obtain ⟨t226, A9, H⟩ := H
   have HC10 := Aside0.mk H
   clear H
   have p221 : 0 ≤ (x5_1 : Int) := od_
   have q221 : x5_1 < (l0.length : Int) := od_
   obtain ⟨ad221, A221_4, c221_4, A221_5, c221_5, e221, hx221_0, hx221_1, hx221_2, hx221_3, hx221_4, hx221_5, hx221_6, hx221_7, hl221_4, hi221_4, hl221_5, hi221_5⟩ := at_T80 HR0.out x5_1 p221 q221
   cases e221
   have HR221_4 := Aside0.mk hi221_4
   have HC221_4 := Aside0.mk hl221_4
   clear hi221_4 hl221_4
   have HR221_5 := Aside0.mk hi221_5
   have HC221_5 := Aside0.mk hl221_5
   clear hi221_5 hl221_5
   replace p221 := eq_true p221
   replace q221 := eq_true q221
   have p222 : 0 ≤ (x5_1 : Int) := od_
   have q222 : x5_1 < (l0.length : Int) := od_
   obtain ⟨ad222, A222_4, c222_4, A222_5, c222_5, e222, hx222_0, hx222_1, hx222_2, hx222_3, hx222_4, hx222_5, hx222_6, hx222_7, hl222_4, hi222_4, hl222_5, hi222_5⟩ := at_T80 HR0.out x5_1 p222 q222
   obtain rfl : ad221 = ad222 := (by injection e222)
   have HR222_4 := Aside0.mk hi222_4
   have HC222_4 := Aside0.mk hl222_4
   clear hi222_4 hl222_4
   have HR222_5 := Aside0.mk hi222_5
   have HC222_5 := Aside0.mk hl222_5
   clear hi222_5 hl222_5
   replace p222 := eq_true p222
   replace q222 := eq_true q222
   have ea_ := Option.some.inj (hx221_4.symm.trans hx222_4)
   injection ea_ with ea_ en_ ec_
   subst ea_
   subst ec_
   clear en_
   have ea_ := Option.some.inj (hx221_5.symm.trans hx222_5)
   injection ea_ with ea_ en_ ec_
   subst ea_
   subst ec_
   clear en_
   have p223 : 0 ≤ (x5_1 : Int) := od_
   have q223 : x5_1 < (l0.length : Int) := od_
   obtain ⟨ad223, A223_4, c223_4, A223_5, c223_5, e223, hx223_0, hx223_1, hx223_2, hx223_3, hx223_4, hx223_5, hx223_6, hx223_7, hl223_4, hi223_4, hl223_5, hi223_5⟩ := at_T80 HR0.out x5_1 p223 q223
   obtain rfl : ad221 = ad223 := (by injection e223)
   have HR223_4 := Aside0.mk hi223_4
   have HC223_4 := Aside0.mk hl223_4
   clear hi223_4 hl223_4
   have HR223_5 := Aside0.mk hi223_5
   have HC223_5 := Aside0.mk hl223_5
   clear hi223_5 hl223_5
   replace p223 := eq_true p223
   replace q223 := eq_true q223
   have ea_ := Option.some.inj (hx221_4.symm.trans hx223_4)
   injection ea_ with ea_ en_ ec_
   subst ea_
   subst ec_
   clear en_
   have ea_ := Option.some.inj (hx221_5.symm.trans hx223_5)
   injection ea_ with ea_ en_ ec_
   subst ea_
   subst ec_
   clear en_
   have p224 : 0 ≤ (x5_1 : Int) := od_
   have q224 : x5_1 < (l0.length : Int) := od_
   obtain ⟨ad224, A224_4, c224_4, A224_5, c224_5, e224, hx224_0, hx224_1, hx224_2, hx224_3, hx224_4, hx224_5, hx224_6, hx224_7, hl224_4, hi224_4, hl224_5, hi224_5⟩ := at_T80 HR0.out x5_1 p224 q224
   obtain rfl : ad221 = ad224 := (by injection e224)
   have HR224_4 := Aside0.mk hi224_4
   have HC224_4 := Aside0.mk hl224_4
   clear hi224_4 hl224_4
   have HR224_5 := Aside0.mk hi224_5
   have HC224_5 := Aside0.mk hl224_5
   clear hi224_5 hl224_5
   replace p224 := eq_true p224
   replace q224 := eq_true q224
   have ea_ := Option.some.inj (hx221_4.symm.trans hx224_4)
   injection ea_ with ea_ en_ ec_
   subst ea_
   subst ec_
   clear en_
   have ea_ := Option.some.inj (hx221_5.symm.trans hx224_5)
   injection ea_ with ea_ en_ ec_
   subst ea_
   subst ec_
   clear en_
   have p225 : 0 ≤ (x5_1 : Int) := od_
   have q225 : x5_1 < (l0.length : Int) := od_
   obtain ⟨ad225, A225_4, c225_4, A225_5, c225_5, e225, hx225_0, hx225_1, hx225_2, hx225_3, hx225_4, hx225_5, hx225_6, hx225_7, hl225_4, hi225_4, hl225_5, hi225_5⟩ := at_T80 HR0.out x5_1 p225 q225
   obtain rfl : ad221 = ad225 := (by injection e225)
   have HR225_4 := Aside0.mk hi225_4
   have HC225_4 := Aside0.mk hl225_4
   clear hi225_4 hl225_4
   have HR225_5 := Aside0.mk hi225_5
   have HC225_5 := Aside0.mk hl225_5
   clear hi225_5 hl225_5
   replace p225 := eq_true p225
   replace q225 := eq_true q225
   have ea_ := Option.some.inj (hx221_4.symm.trans hx225_4)
   injection ea_ with ea_ en_ ec_
   subst ea_
   subst ec_
   clear en_
   have ea_ := Option.some.inj (hx221_5.symm.trans hx225_5)
   injection ea_ with ea_ en_ ec_
   subst ea_
   subst ec_
   clear en_
   go_upto_if 58 with (first | ((with_reducible refine gate_callee (f := 47) rfl ?_); refine goesL_ (some 56) rfl rfl Try.func47 (by kernel_rfl) rfl #[.slice A221_4 ((rd_T80 l0 x5_1).f4).length c221_4, .int .i64 (wrap64 ((wrap64 ((wrap64 ((wrap64 (x1_1 + 1)) + 1)) + 1)) + 1))] rfl la_ ?_; (with_reducible refine (laws_heldByteS.calls k1 _ _ ((rd_T80 l0 x5_1).f4) (wrap64 ((wrap64 ((wrap64 ((wrap64 (x1_1 + 1)) + 1)) + 1)) + 1)) t226 _ ?side1 ?side2 A9.out).mono ?_); (case side1 => exact qC (HR225_4.out)); (case side2 => exact HC225_4.out); rintro e w' ⟨rfl, ⟨nd, rfl⟩⟩; refine ⟨_, rfl, ?_⟩))
   (try simp only [Act.put, List.setIfInBounds_toArray, List.set_cons_zero, List.set_cons_succ])
   have H := HC10.out
   clear HC10
   by_cases c11 : t226 < 0
   ·
    rw [if_pos c11] at H
    have c11b0 : decide (t226 < 0) = true := decide_eq_true c11
    clear c11
    (first | rw [c11b0] | (simp only [i64_w, i32_w]; rw [c11b0]) | skip)
    obtain rfl := Option.some.inj H
    go_wp2
    go_ret
    exact ⟨by first | rfl | (simp; done) | (simp [*]; done), by repeat (first | exact Drawn0.refl _ | apply Drawn0.step)⟩
   rw [if_neg c11] at H
   have c11b0 : decide (t226 < 0) = false := decide_eq_false c11
   clear c11
   (first | rw [c11b0] | (simp only [i64_w, i32_w]; rw [c11b0]) | skip)
   replace H := bd_ H
   obtain ⟨t228, A12, H⟩ := H
   have HC13 := Aside0.mk H
   clear H
   have p227 : 0 ≤ (x5_1 : Int) := od_
   have q227 : x5_1 < (l0.length : Int) := od_
   obtain ⟨ad227, A227_4, c227_4, A227_5, c227_5, e227, hx227_0, hx227_1, hx227_2, hx227_3, hx227_4, hx227_5, hx227_6, hx227_7, hl227_4, hi227_4, hl227_5, hi227_5⟩ := at_T80 HR0.out x5_1 p227 q227
   obtain rfl : ad221 = ad227 := (by injection e227)
   (try clear hx221_4); (try clear hx221_5); (try clear hx222_4); (try clear hx222_5); (try clear hx223_4); (try clear hx223_5); (try clear hx224_4); (try clear hx224_5); (try clear hx225_4); (try clear hx225_5)
   have HR227_4 := Aside0.mk hi227_4
   have HC227_4 := Aside0.mk hl227_4
   clear hi227_4 hl227_4
   have HR227_5 := Aside0.mk hi227_5
   have HC227_5 := Aside0.mk hl227_5
   clear hi227_5 hl227_5
   replace p227 := eq_true p227
   replace q227 := eq_true q227
   go_upto_if 67 with (first | ((with_reducible refine gate_callee (f := 47) rfl ?_); refine goesL_ (some 65) rfl rfl Try.func47 (by kernel_rfl) rfl #[.slice A227_5 ((rd_T80 l0 x5_1).f5).length c227_5, .int .i64 t226] rfl la_ ?_; (with_reducible refine (laws_heldByteS.calls k1 _ _ ((rd_T80 l0 x5_1).f5) t226 t228 _ ?side1 ?side2 A12.out).mono ?_); (case side1 => exact qC (HR227_5.out)); (case side2 => exact HC227_5.out); rintro e w' ⟨rfl, ⟨nd, rfl⟩⟩; refine ⟨_, rfl, ?_⟩))
   (try simp only [Act.put, List.setIfInBounds_toArray, List.set_cons_zero, List.set_cons_succ])
   have H := HC13.out
   clear HC13
   by_cases c14 : t228 < 0
   ·
    rw [if_pos c14] at H
    have c14b0 : decide (t228 < 0) = true := decide_eq_true c14
    clear c14
    (first | rw [c14b0] | (simp only [i64_w, i32_w]; rw [c14b0]) | skip)
    obtain rfl := Option.some.inj H
    go_wp2
    go_ret
    exact ⟨by first | rfl | (simp; done) | (simp [*]; done), by repeat (first | exact Drawn0.refl _ | apply Drawn0.step)⟩
   rw [if_neg c14] at H
   have c14b0 : decide (t228 < 0) = false := decide_eq_false c14
   clear c14
   (first | rw [c14b0] | (simp only [i64_w, i32_w]; rw [c14b0]) | skip)
   by_cases c15 : ((rd_T80 l0 x5_1).f6) = t228
   rotate_left
   ·
    rw [if_neg c15] at H
    have c15b0 : (((rd_T80 l0 x5_1).f6) == t228) = false := beq_eq_false_iff_ne.mpr c15
    have c15b1 : (((rd_T80 l0 x5_1).f6) != t228) = true := bne_iff_ne.mpr c15
    obtain rfl := Option.some.inj H
    have p229 : 0 ≤ (x5_1 : Int) := od_
    have q229 : x5_1 < (l0.length : Int) := od_
    obtain ⟨ad229, A229_4, c229_4, A229_5, c229_5, e229, hx229_0, hx229_1, hx229_2, hx229_3, hx229_4, hx229_5, hx229_6, hx229_7, hl229_4, hi229_4, hl229_5, hi229_5⟩ := at_T80 HR0.out x5_1 p229 q229
    obtain rfl : ad221 = ad229 := (by injection e229)
    (try clear hx221_4); (try clear hx221_5); (try clear hx222_4); (try clear hx222_5); (try clear hx223_4); (try clear hx223_5); (try clear hx224_4); (try clear hx224_5); (try clear hx225_4); (try clear hx225_5); (try clear hx227_4); (try clear hx227_5); (try clear hx230_4); (try clear hx230_5)
    have HR229_4 := Aside0.mk hi229_4
    have HC229_4 := Aside0.mk hl229_4
    clear hi229_4 hl229_4
    have HR229_5 := Aside0.mk hi229_5
    have HC229_5 := Aside0.mk hl229_5
    clear hi229_5 hl229_5
    replace p229 := eq_true p229
    replace q229 := eq_true q229
    go_wp2
    go_ret
    exact ⟨by first | rfl | (simp; done) | (simp [*]; done), by repeat (first | exact Drawn0.refl _ | apply Drawn0.step)⟩
   rw [if_pos c15] at H
   have c15b0 : (((rd_T80 l0 x5_1).f6) == t228) = true := beq_iff_eq.mpr c15
   have c15b1 : (((rd_T80 l0 x5_1).f6) != t228) = false := bne_eq_false_iff_eq.mpr c15
   clear c15
   by_cases c16 : ((rd_T80 l0 x5_1).f7) = (wrap64 (t228 + 1))
   rotate_left
   ·
    rw [if_neg c16] at H
    have c16b0 : (((rd_T80 l0 x5_1).f7) == (wrap64 (t228 + 1))) = false := beq_eq_false_iff_ne.mpr c16
    have c16b1 : (((rd_T80 l0 x5_1).f7) != (wrap64 (t228 + 1))) = true := bne_iff_ne.mpr c16
    obtain rfl := Option.some.inj H
    have p229 : 0 ≤ (x5_1 : Int) := od_
    have q229 : x5_1 < (l0.length : Int) := od_
    obtain ⟨ad229, A229_4, c229_4, A229_5, c229_5, e229, hx229_0, hx229_1, hx229_2, hx229_3, hx229_4, hx229_5, hx229_6, hx229_7, hl229_4, hi229_4, hl229_5, hi229_5⟩ := at_T80 HR0.out x5_1 p229 q229
    obtain rfl : ad221 = ad229 := (by injection e229)
    have HR229_4 := Aside0.mk hi229_4
    have HC229_4 := Aside0.mk hl229_4
    clear hi229_4 hl229_4
    have HR229_5 := Aside0.mk hi229_5
    have HC229_5 := Aside0.mk hl229_5
    clear hi229_5 hl229_5
    replace p229 := eq_true p229
    replace q229 := eq_true q229
    have p230 : 0 ≤ (x5_1 : Int) := od_
    have q230 : x5_1 < (l0.length : Int) := od_
    obtain ⟨ad230, A230_4, c230_4, A230_5, c230_5, e230, hx230_0, hx230_1, hx230_2, hx230_3, hx230_4, hx230_5, hx230_6, hx230_7, hl230_4, hi230_4, hl230_5, hi230_5⟩ := at_T80 HR0.out x5_1 p230 q230
    obtain rfl : ad221 = ad230 := (by injection e230)
    have HR230_4 := Aside0.mk hi230_4
    have HC230_4 := Aside0.mk hl230_4
    clear hi230_4 hl230_4
    have HR230_5 := Aside0.mk hi230_5
    have HC230_5 := Aside0.mk hl230_5
    clear hi230_5 hl230_5
    replace p230 := eq_true p230
    replace q230 := eq_true q230
    have ea_ := Option.some.inj (hx229_4.symm.trans hx230_4)
    injection ea_ with ea_ en_ ec_
    subst ea_
    subst ec_
    clear en_
    have ea_ := Option.some.inj (hx229_5.symm.trans hx230_5)
    injection ea_ with ea_ en_ ec_
    subst ea_
    subst ec_
    clear en_
    go_wp2
    go_ret
    exact ⟨by first | rfl | (simp; done) | (simp [*]; done), by repeat (first | exact Drawn0.refl _ | apply Drawn0.step)⟩
   rw [if_pos c16] at H
   have c16b0 : (((rd_T80 l0 x5_1).f7) == (wrap64 (t228 + 1))) = true := beq_iff_eq.mpr c16
   have c16b1 : (((rd_T80 l0 x5_1).f7) != (wrap64 (t228 + 1))) = false := bne_eq_false_iff_eq.mpr c16
   clear c16
   have H' := Aside0.mk H
   clear H
   have p229 : 0 ≤ (x5_1 : Int) := od_
   have q229 : x5_1 < (l0.length : Int) := od_
   obtain ⟨ad229, A229_4, c229_4, A229_5, c229_5, e229, hx229_0, hx229_1, hx229_2, hx229_3, hx229_4, hx229_5, hx229_6, hx229_7, hl229_4, hi229_4, hl229_5, hi229_5⟩ := at_T80 HR0.out x5_1 p229 q229
   obtain rfl : ad221 = ad229 := (by injection e229)
   have HR229_4 := Aside0.mk hi229_4
   have HC229_4 := Aside0.mk hl229_4
   clear hi229_4 hl229_4
   have HR229_5 := Aside0.mk hi229_5
   have HC229_5 := Aside0.mk hl229_5
   clear hi229_5 hl229_5
   replace p229 := eq_true p229
   replace q229 := eq_true q229
   have p230 : 0 ≤ (x5_1 : Int) := od_
   have q230 : x5_1 < (l0.length : Int) := od_
   obtain ⟨ad230, A230_4, c230_4, A230_5, c230_5, e230, hx230_0, hx230_1, hx230_2, hx230_3, hx230_4, hx230_5, hx230_6, hx230_7, hl230_4, hi230_4, hl230_5, hi230_5⟩ := at_T80 HR0.out x5_1 p230 q230
   obtain rfl : ad221 = ad230 := (by injection e230)
   have HR230_4 := Aside0.mk hi230_4
   have HC230_4 := Aside0.mk hl230_4
   clear hi230_4 hl230_4
   have HR230_5 := Aside0.mk hi230_5
   have HC230_5 := Aside0.mk hl230_5
   clear hi230_5 hl230_5
   replace p230 := eq_true p230
   replace q230 := eq_true q230
   have ea_ := Option.some.inj (hx229_4.symm.trans hx230_4)
   injection ea_ with ea_ en_ ec_
   subst ea_
   subst ec_
   clear en_
   have ea_ := Option.some.inj (hx229_5.symm.trans hx230_5)
   injection ea_ with ea_ en_ ec_
   subst ea_
   subst ec_
   clear en_
   go_wp2
   go_roundg k1
   case measure => have := HK1.out; omega
   case rel => exact ⟨(wrap64 ((wrap64 (t228 + 1)) + 1)), (wrap64 (x5_1 + 1)), eqq_, eqq_, H', ⟨by have := HK1.out; omega⟩, by repeat (first | exact Drawn0.refl _ | apply Drawn0.step)⟩

/-! ### laws_FnExactFree: function 3, by hand -/
def laws_FnExactFree.f (k : Nat) (l0 : List (S79)) (a1 : Int) (a2 : Int) : Option Bool :=
 (laws_szSockS.f k l0 1048576).bind fun left => if left < 0 then some true else
 (laws_toSockS.f k l0).bind fun xs => (spec_Free.f k xs a1 a2).bind fun ws => (impl_Free.f k xs a1 a2).bind fun gs =>
 (laws_eqSockS.f k gs ws).bind fun e1 => (laws_eqSockS.f k xs xs).bind fun e2 =>
 (laws_markSockS.f k xs 1).bind fun m1 => (laws_markSockS.f k gs 1).bind fun m2 => (laws_heldSockS.f k m2.2 1).bind fun q =>
 if e1 = true ∧ e2 = true ∧ 0 ≤ m1.1 ∧ 0 ≤ q ∧ q = m2.1 then some true else none
set_option maxHeartbeats 8000000 in
set_option maxRecDepth 100000 in
theorem laws_FnExactFree.calls (k : Nat) (A0 : Option Addr) (c0 : Nat) (l0 : List (S79)) (a1 : Int) (a2 : Int) (r : Bool) (w : World) (hr0 : Kd.C k79 w A0 l0.length l0) (hc0 : l0.length ≤ c0) (hr_ : Aside0 (r = true)) (h : laws_FnExactFree.f k l0 a1 a2 = some r) :
  Calls Try.prog 3 #[.slice A0 l0.length c0, .int .i64 a1, .int .i64 a2] w fun e w' => e = .returned (.bool r) ∧ Below w.heap.size w w' := by
 obtain rfl := hr_.out
 obtain ⟨left, h1, h⟩ := Option.bind_eq_some_iff.mp h
 have HB := Below.refl w.heap.size w
 by_cases c1 : left < 0
 ·
  have d1 : decide (left < 0) = true := decide_eq_true c1
  go_enter Try.func3, Try.ntmps3
  have t_ := trivial
  go_wp2_with (clear t_; go_at_call 7; refine (laws_szSockS.calls k A0 c0 l0 1048576 left _ hr0 hc0 h1).mono ?_; rintro e w1 ⟨rfl, b1⟩)
  go_ret
  exact ⟨rfl, b1⟩
 have d1 : decide (left < 0) = false := decide_eq_false c1
 rw [if_neg c1] at h
 obtain ⟨xs, h2, h⟩ := Option.bind_eq_some_iff.mp h
 obtain ⟨wl, h3, h⟩ := Option.bind_eq_some_iff.mp h
 obtain ⟨gl, h4, h⟩ := Option.bind_eq_some_iff.mp h
 obtain ⟨e1, h5, h⟩ := Option.bind_eq_some_iff.mp h
 obtain ⟨e2, h6, h⟩ := Option.bind_eq_some_iff.mp h
 obtain ⟨⟨m1, m1l⟩, h7, h⟩ := Option.bind_eq_some_iff.mp h
 obtain ⟨⟨m2, m2l⟩, h8, h⟩ := Option.bind_eq_some_iff.mp h
 obtain ⟨q, h9, h⟩ := Option.bind_eq_some_iff.mp h
 split at h
 case isFalse => cases h
 case isTrue hc =>
 clear h
 obtain ⟨rfl, rfl, hm1, hq0, hqm⟩ := hc
 simp only at hm1 hqm h3 h4 h5 h6 h7 h8 h9
 subst hqm
 have d2 : decide (m1 < 0) = false := decide_eq_false (by omega)
 have d3 : decide (q < 0) = false := decide_eq_false (by omega)
 have n0_ := Aside0.mk hr0
 have n1_ := Aside0.mk hc0
 clear hm1 hq0 hr0 hc0 c1
 have hr0 := n0_
 have hc0 := n1_
 clear n0_ n1_
 replace HB := Aside0.mk HB
 replace h1 := Aside0.mk h1
 replace h2 := Aside0.mk h2
 replace h3 := Aside0.mk h3
 replace h4 := Aside0.mk h4
 replace h5 := Aside0.mk h5
 replace h6 := Aside0.mk h6
 replace h7 := Aside0.mk h7
 replace h8 := Aside0.mk h8
 replace h9 := Aside0.mk h9
 go_enter Try.func3, Try.ntmps3
 have t_ := trivial
 go_wp2_with (clear t_; go_at_call 7; refine (laws_szSockS.calls k A0 c0 l0 1048576 left _ (Kd.C_below hr0.out HB.out) hc0.out h1.out).mono ?_; rintro e w1 ⟨rfl, b1⟩)
 replace HB := Aside0.mk (HB.out.trans (Below.mono b1 HB.out.size))
 have z1 := Aside0.mk (Below.size b1)
 clear b1
 have t_ := trivial
 go_wp2_with (clear t_; go_at_call 9; refine (laws_toSockS.calls k A0 c0 l0 xs _ (Kd.C_below hr0.out HB.out) hc0.out h2.out).mono ?_; rintro e w2 ⟨vy, rfl, hy, b2⟩; obtain ⟨Ay, cy, rfl⟩ := Kd.S_slice hy; replace hy := Aside0.mk (S_iv hy))
 replace HB := Aside0.mk (HB.out.trans (Below.mono b2 HB.out.size))
 have z2 := Aside0.mk (Below.size b2)
 clear b2
 have t_ := trivial
 go_wp2_with (clear t_; go_at_call 8; refine (spec_Free.calls k _ _ xs a1 a2 wl _ (Kd.S_reads' hy.out).2.2 (Kd.S_reads' hy.out).2.1 h3.out).mono ?_; rintro e w3 ⟨vw, rfl, hw, b3⟩; obtain ⟨Aw, cw, rfl⟩ := Kd.S_slice hw; replace hw := Aside0.mk (S_iv hw))
 replace hy := Aside0.mk (Kd.S_below hy.out b3)
 replace HB := Aside0.mk (HB.out.trans (Below.mono b3 HB.out.size))
 have z3 := Aside0.mk (Below.size b3)
 clear b3
 have t_ := trivial
 go_wp2_with (clear t_; go_at_call 9; refine (laws_toSockS.calls k A0 c0 l0 xs _ (Kd.C_below hr0.out HB.out) hc0.out h2.out).mono ?_; rintro e w4 ⟨vx, rfl, hx, b4⟩; obtain ⟨Ax, cx, rfl⟩ := Kd.S_slice hx; replace hx := Aside0.mk (S_iv hx))
 replace hy := Aside0.mk (Kd.S_below hy.out b4)
 replace hw := Aside0.mk (Kd.S_below hw.out b4)
 replace HB := Aside0.mk (HB.out.trans (Below.mono b4 HB.out.size))
 have z4 := Aside0.mk (Below.size b4)
 clear b4
 have t_ := trivial
 go_wp2_with (clear t_; go_at_call 10; refine (impl_Free.calls k _ _ xs a1 a2 gl _ (Kd.S_reads' hx.out).2.2 (Kd.S_reads' hx.out).2.1 h4.out).mono ?_; rintro e w5 ⟨vg, rfl, hg, b5⟩; obtain ⟨Ag, cg, rfl⟩ := Kd.S_slice hg; replace hg := Aside0.mk (S_iv hg))
 replace hy := Aside0.mk (Kd.S_below hy.out b5)
 replace hw := Aside0.mk (Kd.S_below hw.out b5)
 replace hx := Aside0.mk (Kd.S_below hx.out b5)
 replace HB := Aside0.mk (HB.out.trans (Below.mono b5 HB.out.size))
 have z5 := Aside0.mk (Below.size b5)
 clear b5
 have t_ := trivial
 go_wp2_with (clear t_; go_at_call 11; refine (laws_eqSockS.calls k _ _ gl _ _ wl true _ (Kd.S_reads' hg.out).2.2 (Kd.S_reads' hg.out).2.1 (Kd.S_reads' hw.out).2.2 (Kd.S_reads' hw.out).2.1 ⟨rfl⟩ h5.out).mono ?_; rintro e w6 ⟨rfl, b6⟩)
 replace hy := Aside0.mk (Kd.S_below hy.out b6)
 replace hw := Aside0.mk (Kd.S_below hw.out b6)
 replace hx := Aside0.mk (Kd.S_below hx.out b6)
 replace hg := Aside0.mk (Kd.S_below hg.out b6)
 replace HB := Aside0.mk (HB.out.trans (Below.mono b6 HB.out.size))
 have z6 := Aside0.mk (Below.size b6)
 clear b6
 have t_ := trivial
 go_wp2_with (clear t_; go_at_call 9; refine (laws_toSockS.calls k A0 c0 l0 xs _ (Kd.C_below hr0.out HB.out) hc0.out h2.out).mono ?_; rintro e w7 ⟨vu, rfl, hu, b7⟩; obtain ⟨Au, cu, rfl⟩ := Kd.S_slice hu; replace hu := Aside0.mk (S_iv hu))
 replace hy := Aside0.mk (Kd.S_below hy.out b7)
 replace hw := Aside0.mk (Kd.S_below hw.out b7)
 replace hx := Aside0.mk (Kd.S_below hx.out b7)
 replace hg := Aside0.mk (Kd.S_below hg.out b7)
 replace HB := Aside0.mk (HB.out.trans (Below.mono b7 HB.out.size))
 have z7 := Aside0.mk (Below.size b7)
 clear b7
 have t_ := trivial
 go_wp2_with (clear t_; go_at_call 11; refine (laws_eqSockS.calls k _ _ xs _ _ xs true _ (Kd.S_reads' hx.out).2.2 (Kd.S_reads' hx.out).2.1 (Kd.S_reads' hu.out).2.2 (Kd.S_reads' hu.out).2.1 ⟨rfl⟩ h6.out).mono ?_; rintro e w8 ⟨rfl, b8⟩)
 replace hy := Aside0.mk (Kd.S_below hy.out b8)
 replace hw := Aside0.mk (Kd.S_below hw.out b8)
 replace hx := Aside0.mk (Kd.S_below hx.out b8)
 replace hg := Aside0.mk (Kd.S_below hg.out b8)
 replace hu := Aside0.mk (Kd.S_below hu.out b8)
 replace HB := Aside0.mk (HB.out.trans (Below.mono b8 HB.out.size))
 have z8 := Aside0.mk (Below.size b8)
 clear b8
 have t_ := trivial
 go_wp2_with (clear t_; go_at_call 12; refine (laws_markSockS.calls k _ _ xs 1 m1 m1l w _ HB.out (Kd.S_lower hx.out (by have y1_ := z1.out; have y2_ := z2.out; have y3_ := z3.out; have y4_ := z4.out; have y5_ := z5.out; have y6_ := z6.out; have y7_ := z7.out; have y8_ := z8.out; first | omega | (exfalso; omega))) h7.out).mono ?_; rintro e w9 ⟨rfl, hx, b9, k9⟩)
 replace hy := Aside0.mk (Kd.S_kept hy.out k9 (fun k_ p_ q_ => (by have y1_ := z1.out; have y2_ := z2.out; have y3_ := z3.out; have y4_ := z4.out; have y5_ := z5.out; have y6_ := z6.out; have y7_ := z7.out; have y8_ := z8.out; first | omega | (exfalso; omega))))
 replace hw := Aside0.mk (Kd.S_kept hw.out k9 (fun k_ p_ q_ => (by have y1_ := z1.out; have y2_ := z2.out; have y3_ := z3.out; have y4_ := z4.out; have y5_ := z5.out; have y6_ := z6.out; have y7_ := z7.out; have y8_ := z8.out; first | omega | (exfalso; omega))))
 replace hg := Aside0.mk (Kd.S_kept hg.out k9 (fun k_ p_ q_ => (by have y1_ := z1.out; have y2_ := z2.out; have y3_ := z3.out; have y4_ := z4.out; have y5_ := z5.out; have y6_ := z6.out; have y7_ := z7.out; have y8_ := z8.out; first | omega | (exfalso; omega))))
 replace hu := Aside0.mk (Kd.S_kept hu.out k9 (fun k_ p_ q_ => (by have y1_ := z1.out; have y2_ := z2.out; have y3_ := z3.out; have y4_ := z4.out; have y5_ := z5.out; have y6_ := z6.out; have y7_ := z7.out; have y8_ := z8.out; first | omega | (exfalso; omega))))
 replace HB := Aside0.mk b9
 have z9 := Aside0.mk (k9).1
 have qx_ := Aside0.mk (Kd.S_reads' hx).1
 rw [qx_.out] at hx
 have n_ := Aside0.mk hx; clear hx; have hx := n_; clear n_
 clear b9 k9
 have t_ := trivial
 go_wp2_with (clear t_; go_at_call 11; refine (laws_eqSockS.calls k _ _ gl _ _ wl true _ (Kd.S_reads' hg.out).2.2 (Kd.S_reads' hg.out).2.1 (Kd.S_reads' hw.out).2.2 (Kd.S_reads' hw.out).2.1 ⟨rfl⟩ h5.out).mono ?_; rintro e w10 ⟨rfl, b10⟩)
 replace hy := Aside0.mk (Kd.S_below hy.out b10)
 replace hw := Aside0.mk (Kd.S_below hw.out b10)
 replace hx := Aside0.mk (Kd.S_below hx.out b10)
 replace hg := Aside0.mk (Kd.S_below hg.out b10)
 replace hu := Aside0.mk (Kd.S_below hu.out b10)
 replace HB := Aside0.mk (HB.out.trans (Below.mono b10 HB.out.size))
 have z10 := Aside0.mk (Below.size b10)
 clear b10
 have t_ := trivial
 go_wp2_with (clear t_; go_at_call 12; refine (laws_markSockS.calls k _ _ gl 1 q m2l w _ HB.out (Kd.S_lower hg.out (by have y1_ := z1.out; have y2_ := z2.out; have y3_ := z3.out; have y4_ := z4.out; have y5_ := z5.out; have y6_ := z6.out; have y7_ := z7.out; have y8_ := z8.out; have y9_ := z9.out; have y10_ := z10.out; first | omega | (exfalso; omega))) h8.out).mono ?_; rintro e w11 ⟨rfl, hg, b11, k11⟩)
 replace hy := Aside0.mk (Kd.S_kept hy.out k11 (fun k_ p_ q_ => (by have y1_ := z1.out; have y2_ := z2.out; have y3_ := z3.out; have y4_ := z4.out; have y5_ := z5.out; have y6_ := z6.out; have y7_ := z7.out; have y8_ := z8.out; have y9_ := z9.out; have y10_ := z10.out; first | omega | (exfalso; omega))))
 replace hw := Aside0.mk (Kd.S_kept hw.out k11 (fun k_ p_ q_ => (by have y1_ := z1.out; have y2_ := z2.out; have y3_ := z3.out; have y4_ := z4.out; have y5_ := z5.out; have y6_ := z6.out; have y7_ := z7.out; have y8_ := z8.out; have y9_ := z9.out; have y10_ := z10.out; first | omega | (exfalso; omega))))
 replace hx := Aside0.mk (Kd.S_kept hx.out k11 (fun k_ p_ q_ => (by have y1_ := z1.out; have y2_ := z2.out; have y3_ := z3.out; have y4_ := z4.out; have y5_ := z5.out; have y6_ := z6.out; have y7_ := z7.out; have y8_ := z8.out; have y9_ := z9.out; have y10_ := z10.out; first | omega | (exfalso; omega))))
 replace hu := Aside0.mk (Kd.S_kept hu.out k11 (fun k_ p_ q_ => (by have y1_ := z1.out; have y2_ := z2.out; have y3_ := z3.out; have y4_ := z4.out; have y5_ := z5.out; have y6_ := z6.out; have y7_ := z7.out; have y8_ := z8.out; have y9_ := z9.out; have y10_ := z10.out; first | omega | (exfalso; omega))))
 replace HB := Aside0.mk b11
 have z11 := Aside0.mk (k11).1
 have qg_ := Aside0.mk (Kd.S_reads' hg).1
 rw [qg_.out] at hg
 have n_ := Aside0.mk hg; clear hg; have hg := n_; clear n_
 clear b11 k11
 have t_ := trivial
 go_wp2_with (clear t_; go_at_call 13; refine (calls_of_args (by rw [qg_.out]) (laws_heldSockS.calls k _ _ m2l 1 q _ (Kd.S_reads' hg.out).2.2 (Kd.S_reads' hg.out).2.1 h9.out)).mono ?_; rintro e w12 ⟨rfl, b12⟩)
 replace b12 := Drawn0.below b12
 replace hy := Aside0.mk (Kd.S_below hy.out b12)
 replace hw := Aside0.mk (Kd.S_below hw.out b12)
 replace hx := Aside0.mk (Kd.S_below hx.out b12)
 replace hg := Aside0.mk (Kd.S_below hg.out b12)
 replace hu := Aside0.mk (Kd.S_below hu.out b12)
 replace HB := Aside0.mk (HB.out.trans (Below.mono b12 HB.out.size))
 have z12 := Aside0.mk (Below.size b12)
 clear b12
 have t_ := trivial
 go_wp2_with (clear t_; go_at_call 9; refine (laws_toSockS.calls k A0 c0 l0 xs _ (Kd.C_below hr0.out HB.out) hc0.out h2.out).mono ?_; rintro e w13 ⟨vt, rfl, ht, b13⟩; obtain ⟨At, ct, rfl⟩ := Kd.S_slice ht; replace ht := Aside0.mk (S_iv ht))
 replace hy := Aside0.mk (Kd.S_below hy.out b13)
 replace hw := Aside0.mk (Kd.S_below hw.out b13)
 replace hx := Aside0.mk (Kd.S_below hx.out b13)
 replace hg := Aside0.mk (Kd.S_below hg.out b13)
 replace hu := Aside0.mk (Kd.S_below hu.out b13)
 replace HB := Aside0.mk (HB.out.trans (Below.mono b13 HB.out.size))
 have z13 := Aside0.mk (Below.size b13)
 clear b13
 have t_ := trivial
 go_wp2_with (clear t_; go_at_call 10; refine (impl_Free.calls k _ _ xs a1 a2 gl _ (Kd.S_reads' ht.out).2.2 (Kd.S_reads' ht.out).2.1 h4.out).mono ?_; rintro e w14 ⟨vp, rfl, hp, b14⟩; obtain ⟨Ap, cp, rfl⟩ := Kd.S_slice hp; replace hp := Aside0.mk (S_iv hp))
 replace hy := Aside0.mk (Kd.S_below hy.out b14)
 replace hw := Aside0.mk (Kd.S_below hw.out b14)
 replace hx := Aside0.mk (Kd.S_below hx.out b14)
 replace hg := Aside0.mk (Kd.S_below hg.out b14)
 replace hu := Aside0.mk (Kd.S_below hu.out b14)
 replace ht := Aside0.mk (Kd.S_below ht.out b14)
 replace HB := Aside0.mk (HB.out.trans (Below.mono b14 HB.out.size))
 have z14 := Aside0.mk (Below.size b14)
 clear b14
 have t_ := trivial
 go_wp2_with (clear t_; go_at_call 11; refine (laws_eqSockS.calls k _ _ gl _ _ wl true _ (Kd.S_reads' hp.out).2.2 (Kd.S_reads' hp.out).2.1 (Kd.S_reads' hw.out).2.2 (Kd.S_reads' hw.out).2.1 ⟨rfl⟩ h5.out).mono ?_; rintro e w15 ⟨rfl, b15⟩)
 replace hy := Aside0.mk (Kd.S_below hy.out b15)
 replace hw := Aside0.mk (Kd.S_below hw.out b15)
 replace hx := Aside0.mk (Kd.S_below hx.out b15)
 replace hg := Aside0.mk (Kd.S_below hg.out b15)
 replace hu := Aside0.mk (Kd.S_below hu.out b15)
 replace ht := Aside0.mk (Kd.S_below ht.out b15)
 replace hp := Aside0.mk (Kd.S_below hp.out b15)
 replace HB := Aside0.mk (HB.out.trans (Below.mono b15 HB.out.size))
 have z15 := Aside0.mk (Below.size b15)
 clear b15
 have t_ := trivial
 go_wp2_with (clear t_; go_at_call 13; refine (calls_of_args (by rw [qg_.out]) (laws_heldSockS.calls k _ _ m2l 1 q _ (Kd.S_reads' hg.out).2.2 (Kd.S_reads' hg.out).2.1 h9.out)).mono ?_; rintro e w16 ⟨rfl, b16⟩)
 replace b16 := Drawn0.below b16
 replace hy := Aside0.mk (Kd.S_below hy.out b16)
 replace hw := Aside0.mk (Kd.S_below hw.out b16)
 replace hx := Aside0.mk (Kd.S_below hx.out b16)
 replace hg := Aside0.mk (Kd.S_below hg.out b16)
 replace hu := Aside0.mk (Kd.S_below hu.out b16)
 replace ht := Aside0.mk (Kd.S_below ht.out b16)
 replace hp := Aside0.mk (Kd.S_below hp.out b16)
 replace HB := Aside0.mk (HB.out.trans (Below.mono b16 HB.out.size))
 have z16 := Aside0.mk (Below.size b16)
 clear b16
 go_ret
 exact ⟨rfl, HB.out⟩

end Go.Proofs.Ytiffahfpfgnjnab.PFnExactFree
