-- Written by a program of this session (myprint.py, over the kit's print): contracts of FnExactTwice
import Derived.Test.YthmfmpmljndjhaaPFnExactTwicex0
import Derived.Test.YthmfmpmljndjhaaPFnExactTwicex1
import Derived.Test.YthmfmpmljndjhaaPFnExactTwicex2
import Derived.Test.YthmfmpmljndjhaaPFnExactTwicex3
namespace Go.Proofs.Ythmfmpmljndjhaa.PFnExactTwice
open Go.RowKit Go.Proofs.YthmfmpmljndjhaaW.PrintWords Go.Proofs.YthmfmpmljndjhaaW.PrintLast Go.Proofs.YthmfmpmljndjhaaW.PrintMore Go.Proofs.YthmfmpmljndjhaaV
attribute [local go_sem] max2_int min2_int max_two min_two max_three min_three max_four min_four   -- for this text's walks alone
set_option linter.unusedVariables false
set_option linter.unusedSimpArgs false

/-! ### laws_heldByteS: function 99 -/
def laws_heldByteS.l0 : Nat → List Int → Int → Int → Option (Int)
 | 0, _, _, _ => none
 | k + 1, x0, x1, x5 => if x5 < (x0.length : Int) then (if 0 ≤ x5 then (if (rd x0 x5) = ((x1) % 256) then (laws_heldByteS.l0 k x0 (wrap64 (x1 + 1)) (wrap64 (x5 + 1))) else (some (-1))) else (none)) else (some x1)
def laws_heldByteS.f (k : Nat) (l0 : List Int) (a1 : Int) : Option (Int) := laws_heldByteS.l0 k l0 a1 0
theorem laws_heldByteS.mono_l : ∀ k, (∀ y0 y1 y2, LeO (laws_heldByteS.l0 k y0 y1 y2) (laws_heldByteS.l0 (k + 1) y0 y1 y2))
 | 0 => fun _ _ _ r h => by simp [laws_heldByteS.l0] at h
 | k + 1 => by
  have ih0 := laws_heldByteS.mono_l k
  ·
   intro y0 y1 y2
   unfold laws_heldByteS.l0
   repeat' first
   | (with_reducible exact ih0 _ _ _)
   | (with_reducible exact LeO.refl _)
   | (with_reducible exact LeO.none _)
   | (with_reducible refine LeO.ite ?_ ?_)
   | (with_reducible refine LeO.bind ?_ (fun _ => ?_))
   | exact ih0 _ _ _
   | exact LeO.none _
   | refine LeO.ite ?_ ?_
   | refine LeO.bind ?_ (fun _ => ?_)
theorem laws_heldByteS.mono : ∀ a0 a1 k, LeO (laws_heldByteS.f k a0 a1) (laws_heldByteS.f (k + 1) a0 a1) := by
 intro a0 a1 k
 have ih0 := laws_heldByteS.mono_l k
 unfold laws_heldByteS.f
 repeat' first
   | (with_reducible exact ih0 _ _ _)
   | (with_reducible exact LeO.refl _)
   | (with_reducible exact LeO.none _)
   | (with_reducible refine LeO.ite ?_ ?_)
   | (with_reducible refine LeO.bind ?_ (fun _ => ?_))
   | exact ih0 _ _ _
   | exact LeO.none _
   | refine LeO.ite ?_ ?_
   | refine LeO.bind ?_ (fun _ => ?_)
set_option maxHeartbeats 8000000 in
set_option maxRecDepth 100000 in
theorem laws_heldByteS.calls (k : Nat) (A0 : Option Addr) (c0 : Nat) (l0 : List Int) (a1 : Int) (r : Int) (w : World) (hr0 : Kd.C (Kd.int .u8) w A0 l0.length l0) (hc0 : l0.length ≤ c0) (h : laws_heldByteS.f k l0 a1 = some r) :
  Calls Try.prog 99 #[.slice A0 l0.length c0, .int .i64 a1] w fun e w' => e = .returned (.int .i64 r) ∧ Drawn0 w w' := by
 have HR0 := Aside0.mk hr0
 have HC0 := Aside0.mk hc0
 clear hr0 hc0
 have H : (laws_heldByteS.l0 k l0 a1 0) = some r := h
 clear h
 have H' := Aside0.mk H
 clear H
 go_enter Try.func99, Try.ntmps99
 go_wp2
 go_loopg [1, 5] k (fun kq v1 v5 w' => ∃ (x1_1 : Int) (x5_1 : Int), v1 = .int .i64 x1_1 ∧ v5 = .int .i64 x5_1 ∧ Aside0 (laws_heldByteS.l0 kq l0 x1_1 x5_1 = some r) ∧ Aside0 (kq ≤ k) ∧ Drawn0 w w')
 case atStart => exact ⟨(a1), (0), eqq_, eqq_, H', ⟨Nat.le_refl _⟩, by repeat (first | exact Drawn0.refl _ | apply Drawn0.step)⟩
 case round =>
  clear H'
  try clear p2
  obtain ⟨x1_1, x5_1, rfl, rfl, HA, HK1, ⟨m1, rfl⟩⟩ := hrel
  cases gk with
  | zero => exact absurd HA.out (by simp [laws_heldByteS.l0])
  | succ k1 =>
   have H := HA.out
   clear HA
   simp only [laws_heldByteS.l0] at H
   by_cases c3 : x5_1 < (l0.length : Int)
   ·
    rw [if_pos c3] at H
    have c3b0 : decide (x5_1 < (l0.length : Int)) = true := decide_eq_true c3
    clear c3
    by_cases c4 : 0 ≤ x5_1
    ·
     rw [if_pos c4] at H
     have c4b0 : decide (0 ≤ x5_1) = true := decide_eq_true c4
     clear c4
     by_cases c5 : (rd l0 x5_1) = ((x1_1) % 256)
     ·
      rw [if_pos c5] at H
      have c5b0 : ((rd l0 x5_1) == ((x1_1) % 256)) = true := beq_iff_eq.mpr c5
      have c5b1 : ((rd l0 x5_1) != ((x1_1) % 256)) = false := bne_eq_false_iff_eq.mpr c5
      clear c5
      have H' := Aside0.mk H
      clear H
      have p206 : 0 ≤ (x5_1 : Int) := od_
      have q206 : x5_1 < (l0.length : Int) := od_
      obtain ⟨ad206, e206, hx206_0⟩ := Kd.at_int HR0.out x5_1 p206 q206
      cases e206
      replace p206 := eq_true p206
      replace q206 := eq_true q206
      go_wp2
      go_roundg k1
      case measure => have := HK1.out; omega
      case rel => exact ⟨(wrap64 (x1_1 + 1)), (wrap64 (x5_1 + 1)), eqq_, eqq_, H', ⟨by have := HK1.out; omega⟩, by repeat (first | exact Drawn0.refl _ | apply Drawn0.step)⟩
     ·
      rw [if_neg c5] at H
      have c5b0 : ((rd l0 x5_1) == ((x1_1) % 256)) = false := beq_eq_false_iff_ne.mpr c5
      have c5b1 : ((rd l0 x5_1) != ((x1_1) % 256)) = true := bne_iff_ne.mpr c5
      obtain rfl := Option.some.inj H
      have p206 : 0 ≤ (x5_1 : Int) := od_
      have q206 : x5_1 < (l0.length : Int) := od_
      obtain ⟨ad206, e206, hx206_0⟩ := Kd.at_int HR0.out x5_1 p206 q206
      cases e206
      replace p206 := eq_true p206
      replace q206 := eq_true q206
      go_wp2
      go_ret
      exact ⟨by first | rfl | (simp; done) | (simp [*]; done), by repeat (first | exact Drawn0.refl _ | apply Drawn0.step)⟩
    ·
     rw [if_neg c4] at H
     exact absurd H (by simp)
   ·
    rw [if_neg c3] at H
    have c3b0 : decide (x5_1 < (l0.length : Int)) = false := decide_eq_false c3
    clear c3
    obtain rfl := Option.some.inj H
    go_wp2
    go_ret
    exact ⟨by first | rfl | (simp; done) | (simp [*]; done), by repeat (first | exact Drawn0.refl _ | apply Drawn0.step)⟩

/-! ### laws_heldPackS: function 60 -/
def laws_heldPackS.l0 : Nat → List (S74) → Int → Int → Option (Int)
 | 0, _, _, _ => none
 | k + 1, x0, x1, x5 => if x5 < (x0.length : Int) then (if 0 ≤ x5 then (if ((rd_T74 x0 x5).f0) = x1 then ((laws_heldByteS.f k ((rd_T74 x0 x5).f1) (wrap64 (x1 + 1))).bind fun t209 => (if t209 < 0 then (some (-1)) else (laws_heldPackS.l0 k x0 t209 (wrap64 (x5 + 1))))) else (some (-1))) else (none)) else (some x1)
def laws_heldPackS.f (k : Nat) (l0 : List (S74)) (a1 : Int) : Option (Int) := laws_heldPackS.l0 k l0 a1 0
theorem laws_heldPackS.mono_l : ∀ k, (∀ y0 y1 y2, LeO (laws_heldPackS.l0 k y0 y1 y2) (laws_heldPackS.l0 (k + 1) y0 y1 y2))
 | 0 => fun _ _ _ r h => by simp [laws_heldPackS.l0] at h
 | k + 1 => by
  have ih0 := laws_heldPackS.mono_l k
  ·
   intro y0 y1 y2
   unfold laws_heldPackS.l0
   repeat' first
   | (with_reducible exact ih0 _ _ _)
   | (with_reducible exact laws_heldByteS.mono _ _ _)
   | (with_reducible exact LeO.refl _)
   | (with_reducible exact LeO.none _)
   | (with_reducible refine LeO.ite ?_ ?_)
   | (with_reducible refine LeO.bind ?_ (fun _ => ?_))
   | exact ih0 _ _ _
   | exact laws_heldByteS.mono _ _ _
   | exact LeO.none _
   | refine LeO.ite ?_ ?_
   | refine LeO.bind ?_ (fun _ => ?_)
theorem laws_heldPackS.mono : ∀ a0 a1 k, LeO (laws_heldPackS.f k a0 a1) (laws_heldPackS.f (k + 1) a0 a1) := by
 intro a0 a1 k
 have ih0 := laws_heldPackS.mono_l k
 unfold laws_heldPackS.f
 repeat' first
   | (with_reducible exact ih0 _ _ _)
   | (with_reducible exact laws_heldByteS.mono _ _ _)
   | (with_reducible exact LeO.refl _)
   | (with_reducible exact LeO.none _)
   | (with_reducible refine LeO.ite ?_ ?_)
   | (with_reducible refine LeO.bind ?_ (fun _ => ?_))
   | exact ih0 _ _ _
   | exact laws_heldByteS.mono _ _ _
   | exact LeO.none _
   | refine LeO.ite ?_ ?_
   | refine LeO.bind ?_ (fun _ => ?_)
set_option maxHeartbeats 8000000 in
set_option maxRecDepth 100000 in
theorem laws_heldPackS.calls (k : Nat) (A0 : Option Addr) (c0 : Nat) (l0 : List (S74)) (a1 : Int) (r : Int) (w : World) (hr0 : Kd.C k74 w A0 l0.length l0) (hc0 : l0.length ≤ c0) (h : laws_heldPackS.f k l0 a1 = some r) :
  Calls Try.prog 60 #[.slice A0 l0.length c0, .int .i64 a1] w fun e w' => e = .returned (.int .i64 r) ∧ Drawn0 w w' := by
 have HR0 := Aside0.mk hr0
 have HC0 := Aside0.mk hc0
 clear hr0 hc0
 have H : (laws_heldPackS.l0 k l0 a1 0) = some r := h
 clear h
 have H' := Aside0.mk H
 clear H
 go_enter Try.func60, Try.ntmps60
 go_wp2
 go_loopg [1, 5] k (fun kq v1 v5 w' => ∃ (x1_1 : Int) (x5_1 : Int), v1 = .int .i64 x1_1 ∧ v5 = .int .i64 x5_1 ∧ Aside0 (laws_heldPackS.l0 kq l0 x1_1 x5_1 = some r) ∧ Aside0 (kq ≤ k) ∧ Drawn0 w w')
 case atStart => exact ⟨(a1), (0), eqq_, eqq_, H', ⟨Nat.le_refl _⟩, by repeat (first | exact Drawn0.refl _ | apply Drawn0.step)⟩
 case round =>
  clear H'
  try clear p2
  obtain ⟨x1_1, x5_1, rfl, rfl, HA, HK1, ⟨m1, rfl⟩⟩ := hrel
  cases gk with
  | zero => exact absurd HA.out (by simp [laws_heldPackS.l0])
  | succ k1 =>
   have H := HA.out
   clear HA
   simp only [laws_heldPackS.l0] at H
   by_cases c3 : x5_1 < (l0.length : Int)
   ·
    rw [if_pos c3] at H
    have c3b0 : decide (x5_1 < (l0.length : Int)) = true := decide_eq_true c3
    clear c3
    by_cases c4 : 0 ≤ x5_1
    ·
     rw [if_pos c4] at H
     have c4b0 : decide (0 ≤ x5_1) = true := decide_eq_true c4
     clear c4
     by_cases c5 : ((rd_T74 l0 x5_1).f0) = x1_1
     ·
      rw [if_pos c5] at H
      have c5b0 : (((rd_T74 l0 x5_1).f0) == x1_1) = true := beq_iff_eq.mpr c5
      have c5b1 : (((rd_T74 l0 x5_1).f0) != x1_1) = false := bne_eq_false_iff_eq.mpr c5
      clear c5
      obtain ⟨t209, A6, H⟩ := bd_ H
      have HC7 := Aside0.mk H
      clear H
      have p207 : 0 ≤ (x5_1 : Int) := od_
      have q207 : x5_1 < (l0.length : Int) := od_
      obtain ⟨ad207, A207_1, c207_1, e207, hx207_0, hx207_1, hl207_1, hi207_1⟩ := at_T74 HR0.out x5_1 p207 q207
      cases e207
      have HR207_1 := Aside0.mk hi207_1
      have HC207_1 := Aside0.mk hl207_1
      clear hi207_1 hl207_1
      replace p207 := eq_true p207
      replace q207 := eq_true q207
      have p208 : 0 ≤ (x5_1 : Int) := od_
      have q208 : x5_1 < (l0.length : Int) := od_
      obtain ⟨ad208, A208_1, c208_1, e208, hx208_0, hx208_1, hl208_1, hi208_1⟩ := at_T74 HR0.out x5_1 p208 q208
      obtain rfl : ad207 = ad208 := (by injection e208)
      have HR208_1 := Aside0.mk hi208_1
      have HC208_1 := Aside0.mk hl208_1
      clear hi208_1 hl208_1
      replace p208 := eq_true p208
      replace q208 := eq_true q208
      have ea_ := Option.some.inj (hx207_1.symm.trans hx208_1)
      injection ea_ with ea_ en_ ec_
      subst ea_
      subst ec_
      clear en_
      go_upto_if 29 with (first | ((with_reducible refine gate_callee (f := 99) rfl ?_); refine goesL_ (some 27) rfl rfl Try.func99 (by kernel_rfl) rfl #[.slice A207_1 ((rd_T74 l0 x5_1).f1).length c207_1, .int .i64 (wrap64 (x1_1 + 1))] rfl la_ ?_; (with_reducible refine (laws_heldByteS.calls k1 _ _ ((rd_T74 l0 x5_1).f1) (wrap64 (x1_1 + 1)) t209 _ ?side1 ?side2 A6.out).mono ?_); (case side1 => exact qC (HR208_1.out)); (case side2 => exact HC208_1.out); rintro e w' ⟨rfl, ⟨nd, rfl⟩⟩; refine ⟨_, rfl, ?_⟩))
      (try simp only [Act.put, List.setIfInBounds_toArray, List.set_cons_zero, List.set_cons_succ])
      have H := HC7.out
      clear HC7
      by_cases c8 : t209 < 0
      ·
       rw [if_pos c8] at H
       have c8b0 : decide (t209 < 0) = true := decide_eq_true c8
       clear c8
       (first | rw [c8b0] | (simp only [i64_w, i32_w]; rw [c8b0]) | skip)
       obtain rfl := Option.some.inj H
       go_wp2
       go_ret
       exact ⟨by first | rfl | (simp; done) | (simp [*]; done), by repeat (first | exact Drawn0.refl _ | apply Drawn0.step)⟩
      ·
       rw [if_neg c8] at H
       have c8b0 : decide (t209 < 0) = false := decide_eq_false c8
       clear c8
       (first | rw [c8b0] | (simp only [i64_w, i32_w]; rw [c8b0]) | skip)
       have H' := Aside0.mk H
       clear H
       go_wp2
       go_roundg k1
       case measure => have := HK1.out; omega
       case rel => exact ⟨(t209), (wrap64 (x5_1 + 1)), eqq_, eqq_, H', ⟨by have := HK1.out; omega⟩, by repeat (first | exact Drawn0.refl _ | apply Drawn0.step)⟩
     ·
      rw [if_neg c5] at H
      have c5b0 : (((rd_T74 l0 x5_1).f0) == x1_1) = false := beq_eq_false_iff_ne.mpr c5
      have c5b1 : (((rd_T74 l0 x5_1).f0) != x1_1) = true := bne_iff_ne.mpr c5
      obtain rfl := Option.some.inj H
      have p207 : 0 ≤ (x5_1 : Int) := od_
      have q207 : x5_1 < (l0.length : Int) := od_
      obtain ⟨ad207, A207_1, c207_1, e207, hx207_0, hx207_1, hl207_1, hi207_1⟩ := at_T74 HR0.out x5_1 p207 q207
      cases e207
      have HR207_1 := Aside0.mk hi207_1
      have HC207_1 := Aside0.mk hl207_1
      clear hi207_1 hl207_1
      replace p207 := eq_true p207
      replace q207 := eq_true q207
      go_wp2
      go_ret
      exact ⟨by first | rfl | (simp; done) | (simp [*]; done), by repeat (first | exact Drawn0.refl _ | apply Drawn0.step)⟩
    ·
     rw [if_neg c4] at H
     exact absurd H (by simp)
   ·
    rw [if_neg c3] at H
    have c3b0 : decide (x5_1 < (l0.length : Int)) = false := decide_eq_false c3
    clear c3
    obtain rfl := Option.some.inj H
    go_wp2
    go_ret
    exact ⟨by first | rfl | (simp; done) | (simp [*]; done), by repeat (first | exact Drawn0.refl _ | apply Drawn0.step)⟩

/-! ### laws_FnExactTwice: function 9, by hand -/
def laws_FnExactTwice.f (k : Nat) (l0 : List (S112)) (a1 : Int) : Option Bool :=
 (laws_szPackS.f k l0 1048576).bind fun left => if left < 0 then some true else
 (laws_toPackS.f k l0).bind fun xs => (spec_Twice.f k xs a1).bind fun ws => (impl_Twice.f k xs a1).bind fun gs =>
 (laws_eqPackS.f k gs.1 ws.1).bind fun e1 => (laws_eqPackS.f k xs xs).bind fun e2 =>
 (laws_markPackS.f k xs 1).bind fun m1 => (laws_markPackS.f k gs.1 1).bind fun m2 => (laws_heldPackS.f k m2.2 1).bind fun q =>
 if e1 = true ∧ e2 = true ∧ gs.2 = ws.2 ∧ 0 ≤ m1.1 ∧ 0 ≤ q ∧ q = m2.1 then some true else none
set_option maxHeartbeats 8000000 in
set_option maxRecDepth 100000 in
theorem laws_FnExactTwice.calls (k : Nat) (A0 : Option Addr) (c0 : Nat) (l0 : List (S112)) (a1 : Int) (r : Bool) (w : World) (hr0 : Kd.C k112 w A0 l0.length l0) (hc0 : l0.length ≤ c0) (hr_ : Aside0 (r = true)) (h : laws_FnExactTwice.f k l0 a1 = some r) :
  Calls Try.prog 9 #[.slice A0 l0.length c0, .int .i64 a1] w fun e w' => e = .returned (.bool r) ∧ Below w.heap.size w w' := by
 obtain rfl := hr_.out
 obtain ⟨left, h1, h⟩ := Option.bind_eq_some_iff.mp h
 have HB := Below.refl w.heap.size w
 by_cases c1 : left < 0
 ·
  have d1 : decide (left < 0) = true := decide_eq_true c1
  go_enter Try.func9, Try.ntmps9
  have t_ := trivial
  go_wp2_with (clear t_; go_at_call 54; refine (laws_szPackS.calls k A0 c0 l0 1048576 left _ hr0 hc0 h1).mono ?_; rintro e w1 ⟨rfl, b1⟩)
  go_ret
  exact ⟨rfl, b1⟩
 ·
  have d1 : decide (left < 0) = false := decide_eq_false c1
  rw [if_neg c1] at h
  obtain ⟨xs, h2, h⟩ := Option.bind_eq_some_iff.mp h
  obtain ⟨⟨wl, wb⟩, h3, h⟩ := Option.bind_eq_some_iff.mp h
  obtain ⟨⟨gl, gb⟩, h4, h⟩ := Option.bind_eq_some_iff.mp h
  obtain ⟨e1, h5, h⟩ := Option.bind_eq_some_iff.mp h
  obtain ⟨e2, h6, h⟩ := Option.bind_eq_some_iff.mp h
  obtain ⟨⟨m1, m1l⟩, h7, h⟩ := Option.bind_eq_some_iff.mp h
  obtain ⟨⟨m2, m2l⟩, h8, h⟩ := Option.bind_eq_some_iff.mp h
  obtain ⟨q, h9, h⟩ := Option.bind_eq_some_iff.mp h
  split at h
  case isFalse => cases h
  case isTrue hc =>
  clear h
  obtain ⟨rfl, rfl, hgw, hm1, hq0, hqm⟩ := hc
  simp only at hgw hm1 hqm h3 h4 h5 h6 h7 h8 h9
  subst hgw
  subst hqm
  have d2 : decide (m1 < 0) = false := decide_eq_false (by omega)
  have d3 : decide (q < 0) = false := decide_eq_false (by omega)
  have d4 : (gb != gb) = false := bne_self_eq_false gb
  have n0_ := Aside0.mk hr0
  have n1_ := Aside0.mk hc0
  clear hm1 hq0 hr0 hc0 c1
  have hr0 := n0_
  have hc0 := n1_
  clear n0_ n1_
  replace HB := Aside0.mk HB
  replace h1 := Aside0.mk h1
  replace h2 := Aside0.mk h2
  replace h3 := Aside0.mk h3
  replace h4 := Aside0.mk h4
  replace h5 := Aside0.mk h5
  replace h6 := Aside0.mk h6
  replace h7 := Aside0.mk h7
  replace h8 := Aside0.mk h8
  replace h9 := Aside0.mk h9
  go_enter Try.func9, Try.ntmps9
  have t_ := trivial
  go_wp2_with (clear t_; go_at_call 54; refine (laws_szPackS.calls k A0 c0 l0 1048576 left _ (Kd.C_below hr0.out HB.out) hc0.out h1.out).mono ?_; rintro e w1 ⟨rfl, b1⟩)
  replace HB := Aside0.mk (HB.out.trans (Below.mono b1 HB.out.size))
  have z1 := Aside0.mk (Below.size b1)
  clear b1
  have t_ := trivial
  go_wp2_with (clear t_; go_at_call 56; refine (laws_toPackS.calls k A0 c0 l0 xs _ (Kd.C_below hr0.out HB.out) hc0.out h2.out).mono ?_; rintro e w2 ⟨vy, rfl, hy, b2⟩; obtain ⟨Ay, cy, rfl⟩ := Kd.S_slice hy; replace hy := Aside0.mk (S_iv hy))
  replace HB := Aside0.mk (HB.out.trans (Below.mono b2 HB.out.size))
  have z2 := Aside0.mk (Below.size b2)
  clear b2
  have t_ := trivial
  go_wp2_with (clear t_; go_at_call 55; refine (spec_Twice.calls k _ _ xs a1 wl gb _ (Kd.S_reads' hy.out).2.2 (Kd.S_reads' hy.out).2.1 h3.out).mono ?_; rintro e w3 ⟨vw, rfl, hw, b3⟩; obtain ⟨Aw, cw, rfl⟩ := Kd.S_slice hw; replace hw := Aside0.mk (S_iv hw))
  replace hy := Aside0.mk (Kd.S_below hy.out b3)
  replace HB := Aside0.mk (HB.out.trans (Below.mono b3 HB.out.size))
  have z3 := Aside0.mk (Below.size b3)
  clear b3
  have t_ := trivial
  go_wp2_with (clear t_; go_at_call 56; refine (laws_toPackS.calls k A0 c0 l0 xs _ (Kd.C_below hr0.out HB.out) hc0.out h2.out).mono ?_; rintro e w4 ⟨vx, rfl, hx, b4⟩; obtain ⟨Ax, cx, rfl⟩ := Kd.S_slice hx; replace hx := Aside0.mk (S_iv hx))
  replace hy := Aside0.mk (Kd.S_below hy.out b4)
  replace hw := Aside0.mk (Kd.S_below hw.out b4)
  replace HB := Aside0.mk (HB.out.trans (Below.mono b4 HB.out.size))
  have z4 := Aside0.mk (Below.size b4)
  clear b4
  have t_ := trivial
  go_wp2_with (clear t_; go_at_call 57; refine (impl_Twice.calls k _ _ xs a1 gl gb _ (Kd.S_reads' hx.out).2.2 (Kd.S_reads' hx.out).2.1 h4.out).mono ?_; rintro e w5 ⟨vg, rfl, hg, b5⟩; obtain ⟨Ag, cg, rfl⟩ := Kd.S_slice hg; replace hg := Aside0.mk (S_iv hg))
  replace hy := Aside0.mk (Kd.S_below hy.out b5)
  replace hw := Aside0.mk (Kd.S_below hw.out b5)
  replace hx := Aside0.mk (Kd.S_below hx.out b5)
  replace HB := Aside0.mk (HB.out.trans (Below.mono b5 HB.out.size))
  have z5 := Aside0.mk (Below.size b5)
  clear b5
  have t_ := trivial
  go_wp2_with (clear t_; go_at_call 58; refine (laws_eqPackS.calls k _ _ gl _ _ wl true _ (Kd.S_reads' hg.out).2.2 (Kd.S_reads' hg.out).2.1 (Kd.S_reads' hw.out).2.2 (Kd.S_reads' hw.out).2.1 ⟨rfl⟩ h5.out).mono ?_; rintro e w6 ⟨rfl, b6⟩)
  replace hy := Aside0.mk (Kd.S_below hy.out b6)
  replace hw := Aside0.mk (Kd.S_below hw.out b6)
  replace hx := Aside0.mk (Kd.S_below hx.out b6)
  replace hg := Aside0.mk (Kd.S_below hg.out b6)
  replace HB := Aside0.mk (HB.out.trans (Below.mono b6 HB.out.size))
  have z6 := Aside0.mk (Below.size b6)
  clear b6
  have t_ := trivial
  go_wp2_with (clear t_; go_at_call 56; refine (laws_toPackS.calls k A0 c0 l0 xs _ (Kd.C_below hr0.out HB.out) hc0.out h2.out).mono ?_; rintro e w7 ⟨vu, rfl, hu, b7⟩; obtain ⟨Au, cu, rfl⟩ := Kd.S_slice hu; replace hu := Aside0.mk (S_iv hu))
  replace hy := Aside0.mk (Kd.S_below hy.out b7)
  replace hw := Aside0.mk (Kd.S_below hw.out b7)
  replace hx := Aside0.mk (Kd.S_below hx.out b7)
  replace hg := Aside0.mk (Kd.S_below hg.out b7)
  replace HB := Aside0.mk (HB.out.trans (Below.mono b7 HB.out.size))
  have z7 := Aside0.mk (Below.size b7)
  clear b7
  have t_ := trivial
  go_wp2_with (clear t_; go_at_call 58; refine (laws_eqPackS.calls k _ _ xs _ _ xs true _ (Kd.S_reads' hx.out).2.2 (Kd.S_reads' hx.out).2.1 (Kd.S_reads' hu.out).2.2 (Kd.S_reads' hu.out).2.1 ⟨rfl⟩ h6.out).mono ?_; rintro e w8 ⟨rfl, b8⟩)
  replace hy := Aside0.mk (Kd.S_below hy.out b8)
  replace hw := Aside0.mk (Kd.S_below hw.out b8)
  replace hx := Aside0.mk (Kd.S_below hx.out b8)
  replace hg := Aside0.mk (Kd.S_below hg.out b8)
  replace hu := Aside0.mk (Kd.S_below hu.out b8)
  replace HB := Aside0.mk (HB.out.trans (Below.mono b8 HB.out.size))
  have z8 := Aside0.mk (Below.size b8)
  clear b8
  have t_ := trivial
  go_wp2_with (clear t_; go_at_call 59; refine (laws_markPackS.calls k _ _ xs 1 m1 m1l w _ HB.out (Kd.S_lower hx.out (by have y1_ := z1.out; have y2_ := z2.out; have y3_ := z3.out; have y4_ := z4.out; have y5_ := z5.out; have y6_ := z6.out; have y7_ := z7.out; have y8_ := z8.out; omega)) h7.out).mono ?_; rintro e w9 ⟨rfl, hx, b9, k9⟩)
  replace hy := Aside0.mk (Kd.S_kept hy.out k9 (fun k_ p_ q_ => (by have y1_ := z1.out; have y2_ := z2.out; have y3_ := z3.out; have y4_ := z4.out; have y5_ := z5.out; have y6_ := z6.out; have y7_ := z7.out; have y8_ := z8.out; omega)))
  replace hw := Aside0.mk (Kd.S_kept hw.out k9 (fun k_ p_ q_ => (by have y1_ := z1.out; have y2_ := z2.out; have y3_ := z3.out; have y4_ := z4.out; have y5_ := z5.out; have y6_ := z6.out; have y7_ := z7.out; have y8_ := z8.out; omega)))
  replace hg := Aside0.mk (Kd.S_kept hg.out k9 (fun k_ p_ q_ => (by have y1_ := z1.out; have y2_ := z2.out; have y3_ := z3.out; have y4_ := z4.out; have y5_ := z5.out; have y6_ := z6.out; have y7_ := z7.out; have y8_ := z8.out; omega)))
  replace hu := Aside0.mk (Kd.S_kept hu.out k9 (fun k_ p_ q_ => (by have y1_ := z1.out; have y2_ := z2.out; have y3_ := z3.out; have y4_ := z4.out; have y5_ := z5.out; have y6_ := z6.out; have y7_ := z7.out; have y8_ := z8.out; omega)))
  replace HB := Aside0.mk b9
  have z9 := Aside0.mk (k9).1
  have qx_ := Aside0.mk (Kd.S_reads' hx).1
  rw [qx_.out] at hx
  have n_ := Aside0.mk hx; clear hx; have hx := n_; clear n_
  clear b9 k9
  have t_ := trivial
  go_wp2_with (clear t_; go_at_call 58; refine (laws_eqPackS.calls k _ _ gl _ _ wl true _ (Kd.S_reads' hg.out).2.2 (Kd.S_reads' hg.out).2.1 (Kd.S_reads' hw.out).2.2 (Kd.S_reads' hw.out).2.1 ⟨rfl⟩ h5.out).mono ?_; rintro e w10 ⟨rfl, b10⟩)
  replace hy := Aside0.mk (Kd.S_below hy.out b10)
  replace hw := Aside0.mk (Kd.S_below hw.out b10)
  replace hx := Aside0.mk (Kd.S_below hx.out b10)
  replace hg := Aside0.mk (Kd.S_below hg.out b10)
  replace hu := Aside0.mk (Kd.S_below hu.out b10)
  replace HB := Aside0.mk (HB.out.trans (Below.mono b10 HB.out.size))
  have z10 := Aside0.mk (Below.size b10)
  clear b10
  have t_ := trivial
  go_wp2_with (clear t_; go_at_call 59; refine (laws_markPackS.calls k _ _ gl 1 q m2l w _ HB.out (Kd.S_lower hg.out (by have y1_ := z1.out; have y2_ := z2.out; have y3_ := z3.out; have y4_ := z4.out; have y5_ := z5.out; have y6_ := z6.out; have y7_ := z7.out; have y8_ := z8.out; have y9_ := z9.out; have y10_ := z10.out; omega)) h8.out).mono ?_; rintro e w11 ⟨rfl, hg, b11, k11⟩)
  replace hy := Aside0.mk (Kd.S_kept hy.out k11 (fun k_ p_ q_ => (by have y1_ := z1.out; have y2_ := z2.out; have y3_ := z3.out; have y4_ := z4.out; have y5_ := z5.out; have y6_ := z6.out; have y7_ := z7.out; have y8_ := z8.out; have y9_ := z9.out; have y10_ := z10.out; omega)))
  replace hw := Aside0.mk (Kd.S_kept hw.out k11 (fun k_ p_ q_ => (by have y1_ := z1.out; have y2_ := z2.out; have y3_ := z3.out; have y4_ := z4.out; have y5_ := z5.out; have y6_ := z6.out; have y7_ := z7.out; have y8_ := z8.out; have y9_ := z9.out; have y10_ := z10.out; omega)))
  replace hx := Aside0.mk (Kd.S_kept hx.out k11 (fun k_ p_ q_ => (by have y1_ := z1.out; have y2_ := z2.out; have y3_ := z3.out; have y4_ := z4.out; have y5_ := z5.out; have y6_ := z6.out; have y7_ := z7.out; have y8_ := z8.out; have y9_ := z9.out; have y10_ := z10.out; omega)))
  replace hu := Aside0.mk (Kd.S_kept hu.out k11 (fun k_ p_ q_ => (by have y1_ := z1.out; have y2_ := z2.out; have y3_ := z3.out; have y4_ := z4.out; have y5_ := z5.out; have y6_ := z6.out; have y7_ := z7.out; have y8_ := z8.out; have y9_ := z9.out; have y10_ := z10.out; omega)))
  replace HB := Aside0.mk b11
  have z11 := Aside0.mk (k11).1
  have qg_ := Aside0.mk (Kd.S_reads' hg).1
  rw [qg_.out] at hg
  have n_ := Aside0.mk hg; clear hg; have hg := n_; clear n_
  clear b11 k11
  have t_ := trivial
  go_wp2_with (clear t_; go_at_call 60; refine (calls_of_args (by rw [qg_.out]) (laws_heldPackS.calls k _ _ m2l 1 q _ (Kd.S_reads' hg.out).2.2 (Kd.S_reads' hg.out).2.1 h9.out)).mono ?_; rintro e w12 ⟨rfl, b12⟩)
  replace b12 := Drawn0.below b12
  replace hy := Aside0.mk (Kd.S_below hy.out b12)
  replace hw := Aside0.mk (Kd.S_below hw.out b12)
  replace hx := Aside0.mk (Kd.S_below hx.out b12)
  replace hg := Aside0.mk (Kd.S_below hg.out b12)
  replace hu := Aside0.mk (Kd.S_below hu.out b12)
  replace HB := Aside0.mk (HB.out.trans (Below.mono b12 HB.out.size))
  have z12 := Aside0.mk (Below.size b12)
  clear b12
  have t_ := trivial
  go_wp2_with (clear t_; go_at_call 56; refine (laws_toPackS.calls k A0 c0 l0 xs _ (Kd.C_below hr0.out HB.out) hc0.out h2.out).mono ?_; rintro e w13 ⟨vt, rfl, ht, b13⟩; obtain ⟨At, ct, rfl⟩ := Kd.S_slice ht; replace ht := Aside0.mk (S_iv ht))
  replace hy := Aside0.mk (Kd.S_below hy.out b13)
  replace hw := Aside0.mk (Kd.S_below hw.out b13)
  replace hx := Aside0.mk (Kd.S_below hx.out b13)
  replace hg := Aside0.mk (Kd.S_below hg.out b13)
  replace hu := Aside0.mk (Kd.S_below hu.out b13)
  replace HB := Aside0.mk (HB.out.trans (Below.mono b13 HB.out.size))
  have z13 := Aside0.mk (Below.size b13)
  clear b13
  have t_ := trivial
  go_wp2_with (clear t_; go_at_call 57; refine (impl_Twice.calls k _ _ xs a1 gl gb _ (Kd.S_reads' ht.out).2.2 (Kd.S_reads' ht.out).2.1 h4.out).mono ?_; rintro e w14 ⟨vp, rfl, hp, b14⟩; obtain ⟨Ap, cp, rfl⟩ := Kd.S_slice hp; replace hp := Aside0.mk (S_iv hp))
  replace hy := Aside0.mk (Kd.S_below hy.out b14)
  replace hw := Aside0.mk (Kd.S_below hw.out b14)
  replace hx := Aside0.mk (Kd.S_below hx.out b14)
  replace hg := Aside0.mk (Kd.S_below hg.out b14)
  replace hu := Aside0.mk (Kd.S_below hu.out b14)
  replace ht := Aside0.mk (Kd.S_below ht.out b14)
  replace HB := Aside0.mk (HB.out.trans (Below.mono b14 HB.out.size))
  have z14 := Aside0.mk (Below.size b14)
  clear b14
  have t_ := trivial
  go_wp2_with (clear t_; go_at_call 58; refine (laws_eqPackS.calls k _ _ gl _ _ wl true _ (Kd.S_reads' hp.out).2.2 (Kd.S_reads' hp.out).2.1 (Kd.S_reads' hw.out).2.2 (Kd.S_reads' hw.out).2.1 ⟨rfl⟩ h5.out).mono ?_; rintro e w15 ⟨rfl, b15⟩)
  replace hy := Aside0.mk (Kd.S_below hy.out b15)
  replace hw := Aside0.mk (Kd.S_below hw.out b15)
  replace hx := Aside0.mk (Kd.S_below hx.out b15)
  replace hg := Aside0.mk (Kd.S_below hg.out b15)
  replace hu := Aside0.mk (Kd.S_below hu.out b15)
  replace ht := Aside0.mk (Kd.S_below ht.out b15)
  replace hp := Aside0.mk (Kd.S_below hp.out b15)
  replace HB := Aside0.mk (HB.out.trans (Below.mono b15 HB.out.size))
  have z15 := Aside0.mk (Below.size b15)
  clear b15
  have t_ := trivial
  go_wp2_with (clear t_; go_at_call 60; refine (calls_of_args (by rw [qg_.out]) (laws_heldPackS.calls k _ _ m2l 1 q _ (Kd.S_reads' hg.out).2.2 (Kd.S_reads' hg.out).2.1 h9.out)).mono ?_; rintro e w16 ⟨rfl, b16⟩)
  replace b16 := Drawn0.below b16
  replace hy := Aside0.mk (Kd.S_below hy.out b16)
  replace hw := Aside0.mk (Kd.S_below hw.out b16)
  replace hx := Aside0.mk (Kd.S_below hx.out b16)
  replace hg := Aside0.mk (Kd.S_below hg.out b16)
  replace hu := Aside0.mk (Kd.S_below hu.out b16)
  replace ht := Aside0.mk (Kd.S_below ht.out b16)
  replace hp := Aside0.mk (Kd.S_below hp.out b16)
  replace HB := Aside0.mk (HB.out.trans (Below.mono b16 HB.out.size))
  have z16 := Aside0.mk (Below.size b16)
  clear b16
  go_ret
  exact ⟨rfl, HB.out⟩

end Go.Proofs.Ythmfmpmljndjhaa.PFnExactTwice
