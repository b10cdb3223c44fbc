-- Written by a program of this session (myprint.py, over the kit's print): contracts of FnExactFree
import Derived.Test.YtiffahfpfgnjnabPFnExactFreex0
namespace Go.Proofs.Ytiffahfpfgnjnab.PFnExactFree
open Go.RowKit Go.Proofs.YtiffahfpfgnjnabW.PrintWords Go.Proofs.YtiffahfpfgnjnabW.PrintLast Go.Proofs.YtiffahfpfgnjnabW.PrintMore Go.Proofs.YtiffahfpfgnjnabV
attribute [local go_sem] max2_int min2_int max_two min_two max_three min_three max_four min_four   -- for this text's walks alone
set_option linter.unusedVariables false
set_option linter.unusedSimpArgs false

/-! ### laws_eqByteS: function 37 -/
def laws_eqByteS.l0 : Nat → List Int → List Int → Int → Option (Bool)
 | 0, _, _, _ => none
 | k + 1, x0, x1, x5 => if x5 < (x0.length : Int) then (if 0 ≤ x5 then (if x5 < (x1.length : Int) then (if (rd x0 x5) = (rd x1 x5) then (laws_eqByteS.l0 k x0 x1 (wrap64 (x5 + 1))) else (some false)) else (none)) else (none)) else (some true)
def laws_eqByteS.f (k : Nat) (l0 : List Int) (l1 : List Int) : Option (Bool) := if (l0.length : Int) = (l1.length : Int) then (laws_eqByteS.l0 k l0 l1 0) else (some false)
theorem laws_eqByteS.mono_l : ∀ k, (∀ y0 y1 y2, LeO (laws_eqByteS.l0 k y0 y1 y2) (laws_eqByteS.l0 (k + 1) y0 y1 y2))
 | 0 => fun _ _ _ r h => by simp [laws_eqByteS.l0] at h
 | k + 1 => by
  have ih0 := laws_eqByteS.mono_l k
  ·
   intro y0 y1 y2
   unfold laws_eqByteS.l0
   repeat' first
   | (with_reducible exact ih0 _ _ _)
   | (with_reducible exact LeO.refl _)
   | (with_reducible exact LeO.none _)
   | (with_reducible refine LeO.ite ?_ ?_)
   | (with_reducible refine LeO.bind ?_ (fun _ => ?_))
theorem laws_eqByteS.mono : ∀ a0 a1 k, LeO (laws_eqByteS.f k a0 a1) (laws_eqByteS.f (k + 1) a0 a1) := by
 intro a0 a1 k
 have ih0 := laws_eqByteS.mono_l k
 unfold laws_eqByteS.f
 repeat' first
   | (with_reducible exact ih0 _ _ _)
   | (with_reducible exact LeO.refl _)
   | (with_reducible exact LeO.none _)
   | (with_reducible refine LeO.ite ?_ ?_)
   | (with_reducible refine LeO.bind ?_ (fun _ => ?_))
set_option maxHeartbeats 8000000 in
set_option maxRecDepth 100000 in
theorem laws_eqByteS.calls (k : Nat) (A0 : Option Addr) (c0 : Nat) (l0 : List Int) (A1 : Option Addr) (c1 : Nat) (l1 : List Int) (r : Bool) (w : World) (hr0 : Kd.C (Kd.int .u8) w A0 l0.length l0) (hc0 : l0.length ≤ c0) (hr1 : Kd.C (Kd.int .u8) w A1 l1.length l1) (hc1 : l1.length ≤ c1) (hr_ : Aside0 (r = true)) (h : laws_eqByteS.f k l0 l1 = some r) :
  Calls Try.prog 37 #[.slice A0 l0.length c0, .slice A1 l1.length c1] w fun e w' => e = .returned (.bool r) ∧ Drawn0 w w' := by
 have HR0 := Aside0.mk hr0
 have HC0 := Aside0.mk hc0
 clear hr0 hc0
 have HR1 := Aside0.mk hr1
 have HC1 := Aside0.mk hc1
 clear hr1 hc1
 have H := h
 unfold laws_eqByteS.f at H
 clear h
 by_cases c3 : (l0.length : Int) = (l1.length : Int)
 rotate_left
 ·
  rw [if_neg c3] at H
  have c3b0 : ((l0.length : Int) == (l1.length : Int)) = false := beq_eq_false_iff_ne.mpr c3
  have c3b1 : ((l0.length : Int) != (l1.length : Int)) = true := bne_iff_ne.mpr c3
  have c3b2 : (l0.length == l1.length) = false := by first | simpa using c3 | (simp at c3 ⊢; omega)
  exact absurd (hr_.out ▸ H) (by simp)
 rw [if_pos c3] at H
 have c3b0 : ((l0.length : Int) == (l1.length : Int)) = true := beq_iff_eq.mpr c3
 have c3b1 : ((l0.length : Int) != (l1.length : Int)) = false := bne_eq_false_iff_eq.mpr c3
 have c3b2 : (l0.length == l1.length) = true := by first | simpa using c3 | (simp at c3 ⊢; omega)
 clear c3
 have H' := Aside0.mk H
 clear H
 go_enter Try.func37, Try.ntmps37
 go_wp2
 repeat (go_quiet (fail); try go_wp2)
 go_loopg [5] k (fun kq v5 w' => ∃ (x5_1 : Int), v5 = .int .i64 x5_1 ∧ Aside0 (laws_eqByteS.l0 kq l0 l1 x5_1 = some r) ∧ Aside0 (kq ≤ k) ∧ Drawn0 w w')
 case atStart => exact ⟨(0), eqq_, H', ⟨Nat.le_refl _⟩, by repeat (first | exact Drawn0.refl _ | apply Drawn0.step)⟩
 case round =>
  clear H'
  try clear c1
  try clear p2
  try clear c3
  try clear c3b0
  try clear c3b1
  try clear c3b2
  obtain ⟨x5_1, rfl, HA, HK1, ⟨m1, rfl⟩⟩ := hrel
  cases gk with
  | zero => exact absurd HA.out (by simp [laws_eqByteS.l0])
  | succ k1 =>
   have H := HA.out
   clear HA
   simp only [laws_eqByteS.l0] at H
   by_cases c4 : x5_1 < (l0.length : Int)
   rotate_left
   ·
    rw [if_neg c4] at H
    have c4b0 : decide (x5_1 < (l0.length : Int)) = false := decide_eq_false c4
    clear c4
    obtain rfl := Option.some.inj H
    go_wp2
    repeat (go_quiet (fail); try go_wp2)
    go_ret
    exact ⟨by first | rfl | (simp; done) | (simp [*]; done), by repeat (first | exact Drawn0.refl _ | apply Drawn0.step)⟩
   rw [if_pos c4] at H
   have c4b0 : decide (x5_1 < (l0.length : Int)) = true := decide_eq_true c4
   clear c4
   by_cases c5 : 0 ≤ x5_1
   case neg => exact nn_ c5 H
   rw [if_pos c5] at H
   have c5b0 : decide (0 ≤ x5_1) = true := decide_eq_true c5
   clear c5
   by_cases c6 : x5_1 < (l1.length : Int)
   case neg => exact nn_ c6 H
   rw [if_pos c6] at H
   have c6b0 : decide (x5_1 < (l1.length : Int)) = true := decide_eq_true c6
   clear c6
   by_cases c7 : (rd l0 x5_1) = (rd l1 x5_1)
   rotate_left
   ·
    rw [if_neg c7] at H
    have c7b0 : ((rd l0 x5_1) == (rd l1 x5_1)) = false := beq_eq_false_iff_ne.mpr c7
    have c7b1 : ((rd l0 x5_1) != (rd l1 x5_1)) = true := bne_iff_ne.mpr c7
    exact absurd (hr_.out ▸ H) (by simp)
   rw [if_pos c7] at H
   have c7b0 : ((rd l0 x5_1) == (rd l1 x5_1)) = true := beq_iff_eq.mpr c7
   have c7b1 : ((rd l0 x5_1) != (rd l1 x5_1)) = false := bne_eq_false_iff_eq.mpr c7
   clear c7
   have H' := Aside0.mk H
   clear H
   have p210 : 0 ≤ (x5_1 : Int) := od_
   have q210 : x5_1 < (l0.length : Int) := od_
   obtain ⟨ad210, e210, hx210_0⟩ := Kd.at_int HR0.out x5_1 p210 q210
   cases e210
   replace p210 := eq_true p210
   replace q210 := eq_true q210
   have p211 : 0 ≤ (x5_1 : Int) := od_
   have q211 : x5_1 < (l1.length : Int) := od_
   obtain ⟨ad211, e211, hx211_0⟩ := Kd.at_int HR1.out x5_1 p211 q211
   cases e211
   replace p211 := eq_true p211
   replace q211 := eq_true q211
   go_wp2
   repeat (go_quiet (fail); try go_wp2)
   go_roundg k1
   case measure => have := HK1.out; omega
   case rel => exact ⟨(wrap64 (x5_1 + 1)), eqq_, H', ⟨by have := HK1.out; omega⟩, by repeat (first | exact Drawn0.refl _ | apply Drawn0.step)⟩

/-! ### laws_eqSock: function 46 -/
def laws_eqSock.f (k : Nat) (a0_0 : Int) (a0_1 : Int) (a0_2 : Int) (a0_3 : Bool) (l0_4 : List Int) (l0_5 : List Int) (a0_6 : Int) (a0_7 : Int) (a1_0 : Int) (a1_1 : Int) (a1_2 : Int) (a1_3 : Bool) (l1_4 : List Int) (l1_5 : List Int) (a1_6 : Int) (a1_7 : Int) : Option (Bool) := if a0_0 = a1_0 then (if a0_1 = a1_1 then (if a0_2 = a1_2 then (if (a0_3 != a1_3) = true then (some false) else ((laws_eqByteS.f k l0_4 l1_4).bind fun t214 => (if t214 = true then ((laws_eqByteS.f k l0_5 l1_5).bind fun t215 => (if t215 = true then (if a0_6 = a1_6 then (if a0_7 = a1_7 then (some true) else (some false)) else (some false)) else (some false))) else (some false)))) else (some false)) else (some false)) else (some false)
theorem laws_eqSock.mono : ∀ a0 a1 a2 a3 a4 a5 a6 a7 a8 a9 a10 a11 a12 a13 a14 a15 k, LeO (laws_eqSock.f k a0 a1 a2 a3 a4 a5 a6 a7 a8 a9 a10 a11 a12 a13 a14 a15) (laws_eqSock.f (k + 1) a0 a1 a2 a3 a4 a5 a6 a7 a8 a9 a10 a11 a12 a13 a14 a15) := by
 intro a0 a1 a2 a3 a4 a5 a6 a7 a8 a9 a10 a11 a12 a13 a14 a15 k
 unfold laws_eqSock.f
 repeat' first
   | (with_reducible exact laws_eqByteS.mono _ _ _)
   | (with_reducible exact LeO.refl _)
   | (with_reducible exact LeO.none _)
   | (with_reducible refine LeO.ite ?_ ?_)
   | (with_reducible refine LeO.bind ?_ (fun _ => ?_))
set_option maxHeartbeats 8000000 in
set_option maxRecDepth 100000 in
theorem laws_eqSock.calls (k : Nat) (a0_0 : Int) (a0_1 : Int) (a0_2 : Int) (a0_3 : Bool) (A0_4 : Option Addr) (c0_4 : Nat) (l0_4 : List Int) (A0_5 : Option Addr) (c0_5 : Nat) (l0_5 : List Int) (a0_6 : Int) (a0_7 : Int) (a1_0 : Int) (a1_1 : Int) (a1_2 : Int) (a1_3 : Bool) (A1_4 : Option Addr) (c1_4 : Nat) (l1_4 : List Int) (A1_5 : Option Addr) (c1_5 : Nat) (l1_5 : List Int) (a1_6 : Int) (a1_7 : Int) (r : Bool) (w : World) (hr0_4 : Kd.C (Kd.int .u8) w A0_4 l0_4.length l0_4) (hc0_4 : l0_4.length ≤ c0_4) (hr0_5 : Kd.C (Kd.int .u8) w A0_5 l0_5.length l0_5) (hc0_5 : l0_5.length ≤ c0_5) (hr1_4 : Kd.C (Kd.int .u8) w A1_4 l1_4.length l1_4) (hc1_4 : l1_4.length ≤ c1_4) (hr1_5 : Kd.C (Kd.int .u8) w A1_5 l1_5.length l1_5) (hc1_5 : l1_5.length ≤ c1_5) (hr_ : Aside0 (r = true)) (h : laws_eqSock.f k a0_0 a0_1 a0_2 a0_3 l0_4 l0_5 a0_6 a0_7 a1_0 a1_1 a1_2 a1_3 l1_4 l1_5 a1_6 a1_7 = some r) :
  Calls Try.prog 46 #[.agg #[.int .i64 a0_0, .int .i64 a0_1, .int .i64 a0_2, .bool a0_3, .slice A0_4 l0_4.length c0_4, .slice A0_5 l0_5.length c0_5, .int .i64 a0_6, .int .i64 a0_7], .agg #[.int .i64 a1_0, .int .i64 a1_1, .int .i64 a1_2, .bool a1_3, .slice A1_4 l1_4.length c1_4, .slice A1_5 l1_5.length c1_5, .int .i64 a1_6, .int .i64 a1_7]] w fun e w' => e = .returned (.bool r) ∧ Below w.heap.size w w' := by
 have hu80 := Try.underlying80
 have HR0_4 := Aside0.mk hr0_4
 have HC0_4 := Aside0.mk hc0_4
 clear hr0_4 hc0_4
 have HR0_5 := Aside0.mk hr0_5
 have HC0_5 := Aside0.mk hc0_5
 clear hr0_5 hc0_5
 have HR1_4 := Aside0.mk hr1_4
 have HC1_4 := Aside0.mk hc1_4
 clear hr1_4 hc1_4
 have HR1_5 := Aside0.mk hr1_5
 have HC1_5 := Aside0.mk hc1_5
 clear hr1_5 hc1_5
 have HB := Aside0.mk (Below.refl w.heap.size w)
 have H := h
 unfold laws_eqSock.f at H
 clear h
 by_cases c3 : a0_0 = a1_0
 rotate_left
 ·
  rw [if_neg c3] at H
  have c3b0 : (a0_0 == a1_0) = false := beq_eq_false_iff_ne.mpr c3
  have c3b1 : (a0_0 != a1_0) = true := bne_iff_ne.mpr c3
  exact absurd (hr_.out ▸ H) (by simp)
 rw [if_pos c3] at H
 have c3b0 : (a0_0 == a1_0) = true := beq_iff_eq.mpr c3
 have c3b1 : (a0_0 != a1_0) = false := bne_eq_false_iff_eq.mpr c3
 clear c3
 by_cases c4 : a0_1 = a1_1
 rotate_left
 ·
  rw [if_neg c4] at H
  have c4b0 : (a0_1 == a1_1) = false := beq_eq_false_iff_ne.mpr c4
  have c4b1 : (a0_1 != a1_1) = true := bne_iff_ne.mpr c4
  exact absurd (hr_.out ▸ H) (by simp)
 rw [if_pos c4] at H
 have c4b0 : (a0_1 == a1_1) = true := beq_iff_eq.mpr c4
 have c4b1 : (a0_1 != a1_1) = false := bne_eq_false_iff_eq.mpr c4
 clear c4
 by_cases c5 : a0_2 = a1_2
 rotate_left
 ·
  rw [if_neg c5] at H
  have c5b0 : (a0_2 == a1_2) = false := beq_eq_false_iff_ne.mpr c5
  have c5b1 : (a0_2 != a1_2) = true := bne_iff_ne.mpr c5
  exact absurd (hr_.out ▸ H) (by simp)
 rw [if_pos c5] at H
 have c5b0 : (a0_2 == a1_2) = true := beq_iff_eq.mpr c5
 have c5b1 : (a0_2 != a1_2) = false := bne_eq_false_iff_eq.mpr c5
 clear c5
 by_cases c6 : (a0_3 != a1_3) = true
 ·
  rw [if_pos c6] at H
  have c6b0 : (a0_3 != a1_3) = true := c6
  (try (have c6b1 : decide (a0_3 = a1_3) = false := by simpa using c6))
  (try (have c6b2 : (a0_3 == a1_3) = false := by simpa using c6))
  (try (have c6b3 : ¬ (a0_3 = a1_3) := by simpa using c6))
  clear c6
  exact absurd (hr_.out ▸ H) (by simp)
 rw [if_neg c6] at H
 have c6b0 : (a0_3 != a1_3) = false := by simpa using c6
 (try (have c6b1 : decide (a0_3 = a1_3) = true := by simpa using c6))
 (try (have c6b2 : (a0_3 == a1_3) = true := by simpa using c6))
 clear c6
 replace H := bd_ H
 obtain ⟨t214, A7, H⟩ := H
 by_cases c8 : t214 = true
 rotate_left
 ·
  replace c8 := Bool.eq_false_iff.mpr c8
  subst c8
  rw [if_neg (show ¬ (false = true) by decide)] at H
  exact absurd (hr_.out ▸ H) (by simp)
 subst c8
 rw [if_pos rfl] at H
 replace H := bd_ H
 obtain ⟨t215, A9, H⟩ := H
 by_cases c10 : t215 = true
 rotate_left
 ·
  replace c10 := Bool.eq_false_iff.mpr c10
  subst c10
  rw [if_neg (show ¬ (false = true) by decide)] at H
  exact absurd (hr_.out ▸ H) (by simp)
 subst c10
 rw [if_pos rfl] at H
 by_cases c11 : a0_6 = a1_6
 rotate_left
 ·
  rw [if_neg c11] at H
  have c11b0 : (a0_6 == a1_6) = false := beq_eq_false_iff_ne.mpr c11
  have c11b1 : (a0_6 != a1_6) = true := bne_iff_ne.mpr c11
  exact absurd (hr_.out ▸ H) (by simp)
 rw [if_pos c11] at H
 have c11b0 : (a0_6 == a1_6) = true := beq_iff_eq.mpr c11
 have c11b1 : (a0_6 != a1_6) = false := bne_eq_false_iff_eq.mpr c11
 clear c11
 by_cases c12 : a0_7 = a1_7
 rotate_left
 ·
  rw [if_neg c12] at H
  have c12b0 : (a0_7 == a1_7) = false := beq_eq_false_iff_ne.mpr c12
  have c12b1 : (a0_7 != a1_7) = true := bne_iff_ne.mpr c12
  exact absurd (hr_.out ▸ H) (by simp)
 rw [if_pos c12] at H
 have c12b0 : (a0_7 == a1_7) = true := beq_iff_eq.mpr c12
 have c12b1 : (a0_7 != a1_7) = false := bne_eq_false_iff_eq.mpr c12
 clear c12
 obtain rfl := Option.some.inj H
 go_enter Try.func46, Try.ntmps46
 go_wp2_with (first | ((with_reducible refine gate_dst (N := 2) rfl ?_); refine box_event ?hg (N := 2) ?hd (cs := #[.int .i64 a0_0, .int .i64 a0_1, .int .i64 a0_2, .bool a0_3, .slice A0_4 l0_4.length c0_4, .slice A0_5 l0_5.length c0_5, .int .i64 a0_6, .int .i64 a0_7]) (t := 80) ?hr ?_; (case hd => rfl); (case hg => rfl); (case hr => first | (go_simp; done) | (go_simp; rfl)); intro gb212 hg w13 hbox hb; have BK212 := am_ (hbox); have GW212 := gA_ hg HB; have GE212 := GW212; have IGE212 := gI_ GE212; replace HB := bS_ HB hb; clear hb hbox hg) | ((with_reducible refine gate_dst (N := 3) rfl ?_); refine box_event ?hg (N := 3) ?hd (cs := #[.int .i64 a1_0, .int .i64 a1_1, .int .i64 a1_2, .bool a1_3, .slice A1_4 l1_4.length c1_4, .slice A1_5 l1_5.length c1_5, .int .i64 a1_6, .int .i64 a1_7]) (t := 80) ?hr ?_; (case hd => rfl); (case hg => rfl); (case hr => first | (go_simp; done) | (go_simp; rfl)); intro gb213 hg w14 hbox hb; have BK213 := am_ (hbox); have GW213 := gA_ hg HB; have GE213 := GW213; have IGE213 := gI_ GE213; replace HB := bS_ HB hb; have NB212_213 := am_ ((gN_ hg (qK BK212))); have NB213_212 := am_ ((gM_ hg (qK BK212))); replace BK212 := bK_ BK212 hb; clear hb hbox hg; have hnb15 := NB212_213.out; have hnc15 := NB213_212.out; have z16 := cz8 BK212.out; have z17 := cz8 BK213.out) | ((with_reducible refine gate_callee (f := 37) rfl ?_); refine goesL_ (some 29) rfl rfl Try.func37 (by kernel_rfl) rfl #[.slice A0_4 l0_4.length c0_4, .slice A1_4 l1_4.length c1_4] rfl la_ ?_; (with_reducible refine (laws_eqByteS.calls k _ _ l0_4 _ _ l1_4 true _ ?side1 ?side2 ?side3 ?side4 ⟨rfl⟩ A7.out).mono ?_); (case side1 => exact qC (Kd.C_below HR0_4.out HB.out)); (case side2 => exact HC0_4.out); (case side3 => exact qC (Kd.C_below HR1_4.out HB.out)); (case side4 => exact HC1_4.out); rintro e w' ⟨rfl, ⟨nd, rfl⟩⟩; refine ⟨_, rfl, ?_⟩) | ((with_reducible refine gate_callee (f := 37) rfl ?_); refine goesL_ (some 35) rfl rfl Try.func37 (by kernel_rfl) rfl #[.slice A0_5 l0_5.length c0_5, .slice A1_5 l1_5.length c1_5] rfl la_ ?_; (with_reducible refine (laws_eqByteS.calls k _ _ l0_5 _ _ l1_5 true _ ?side1 ?side2 ?side3 ?side4 ⟨rfl⟩ A9.out).mono ?_); (case side1 => repeat (first | exact (Kd.C_below HR0_5.out (qB HB)) | (with_reducible refine Kd.C_alloc ?_ _) | (with_reducible refine Kd.C_drewN ?_ _) | (with_reducible refine Kd.C_drew ?_))); (case side2 => exact HC0_5.out); (case side3 => repeat (first | exact (Kd.C_below HR1_5.out (qB HB)) | (with_reducible refine Kd.C_alloc ?_ _) | (with_reducible refine Kd.C_drewN ?_ _) | (with_reducible refine Kd.C_drew ?_))); (case side4 => exact HC1_5.out); rintro e w' ⟨rfl, ⟨nd, rfl⟩⟩; refine ⟨_, rfl, ?_⟩))
 go_ret
 exact ⟨er_, qB HB⟩

/-! ### laws_eqSockS: function 11 -/
def laws_eqSockS.l0 : Nat → List (S80) → List (S80) → Int → Option (Bool)
 | 0, _, _, _ => none
 | k + 1, x0, x1, x5 => if x5 < (x0.length : Int) then (if 0 ≤ x5 then (if x5 < (x1.length : Int) then ((laws_eqSock.f k ((rd_T80 x0 x5).f0) ((rd_T80 x0 x5).f1) ((rd_T80 x0 x5).f2) ((rd_T80 x0 x5).f3) ((rd_T80 x0 x5).f4) ((rd_T80 x0 x5).f5) ((rd_T80 x0 x5).f6) ((rd_T80 x0 x5).f7) ((rd_T80 x1 x5).f0) ((rd_T80 x1 x5).f1) ((rd_T80 x1 x5).f2) ((rd_T80 x1 x5).f3) ((rd_T80 x1 x5).f4) ((rd_T80 x1 x5).f5) ((rd_T80 x1 x5).f6) ((rd_T80 x1 x5).f7)).bind fun t218 => (if t218 = true then (laws_eqSockS.l0 k x0 x1 (wrap64 (x5 + 1))) else (some false))) else (none)) else (none)) else (some true)
def laws_eqSockS.f (k : Nat) (l0 : List (S80)) (l1 : List (S80)) : Option (Bool) := if (l0.length : Int) = (l1.length : Int) then (laws_eqSockS.l0 k l0 l1 0) else (some false)
theorem laws_eqSockS.mono_l : ∀ k, (∀ y0 y1 y2, LeO (laws_eqSockS.l0 k y0 y1 y2) (laws_eqSockS.l0 (k + 1) y0 y1 y2))
 | 0 => fun _ _ _ r h => by simp [laws_eqSockS.l0] at h
 | k + 1 => by
  have ih0 := laws_eqSockS.mono_l k
  ·
   intro y0 y1 y2
   unfold laws_eqSockS.l0
   repeat' first
   | (with_reducible exact ih0 _ _ _)
   | (with_reducible exact laws_eqSock.mono _ _ _ _ _ _ _ _ _ _ _ _ _ _ _ _ _)
   | (with_reducible exact LeO.refl _)
   | (with_reducible exact LeO.none _)
   | (with_reducible refine LeO.ite ?_ ?_)
   | (with_reducible refine LeO.bind ?_ (fun _ => ?_))
theorem laws_eqSockS.mono : ∀ a0 a1 k, LeO (laws_eqSockS.f k a0 a1) (laws_eqSockS.f (k + 1) a0 a1) := by
 intro a0 a1 k
 have ih0 := laws_eqSockS.mono_l k
 unfold laws_eqSockS.f
 repeat' first
   | (with_reducible exact ih0 _ _ _)
   | (with_reducible exact laws_eqSock.mono _ _ _ _ _ _ _ _ _ _ _ _ _ _ _ _ _)
   | (with_reducible exact LeO.refl _)
   | (with_reducible exact LeO.none _)
   | (with_reducible refine LeO.ite ?_ ?_)
   | (with_reducible refine LeO.bind ?_ (fun _ => ?_))
def laws_eqSockS.T6 : Bool × List (List Nat × List Nat) := (true, [([], []), ([], []), ([0, 1], [0, 1]), ([2], [2]), ([], []), ([], []), ([4, 5], [4, 5]), ([6], [6]), ([3, 7], [3, 7]), ([8], [8])])
def laws_eqSockS.B6 : List Nat := [0, 0, 3, 7, 0, 0, 48, 112, 255, 511]
theorem laws_eqSockS.tab6 : rtab .any (opsOf Try.f11 6) = laws_eqSockS.T6 := by kernel_rfl
theorem laws_eqSockS.bits6 : waitsOk laws_eqSockS.T6.2 laws_eqSockS.B6 = true := by kernel_rfl
set_option maxHeartbeats 8000000 in
set_option maxRecDepth 100000 in
theorem laws_eqSockS.calls (k : Nat) (A0 : Option Addr) (c0 : Nat) (l0 : List (S80)) (A1 : Option Addr) (c1 : Nat) (l1 : List (S80)) (r : Bool) (w : World) (hr0 : Kd.C k80 w A0 l0.length l0) (hc0 : l0.length ≤ c0) (hr1 : Kd.C k80 w A1 l1.length l1) (hc1 : l1.length ≤ c1) (hr_ : Aside0 (r = true)) (h : laws_eqSockS.f k l0 l1 = some r) :
  Calls Try.prog 11 #[.slice A0 l0.length c0, .slice A1 l1.length c1] w fun e w' => e = .returned (.bool r) ∧ Below w.heap.size w w' := by
 have hu80 := Try.underlying80
 have HR0 := Aside0.mk hr0
 have HC0 := Aside0.mk hc0
 clear hr0 hc0
 have HR1 := Aside0.mk hr1
 have HC1 := Aside0.mk hc1
 clear hr1 hc1
 have HB := Aside0.mk (Below.refl w.heap.size w)
 have H := h
 unfold laws_eqSockS.f at H
 clear h
 by_cases c3 : (l0.length : Int) = (l1.length : Int)
 rotate_left
 ·
  rw [if_neg c3] at H
  have c3b0 : ((l0.length : Int) == (l1.length : Int)) = false := beq_eq_false_iff_ne.mpr c3
  have c3b1 : ((l0.length : Int) != (l1.length : Int)) = true := bne_iff_ne.mpr c3
  have c3b2 : (l0.length == l1.length) = false := by first | simpa using c3 | (simp at c3 ⊢; omega)
  exact absurd (hr_.out ▸ H) (by simp)
 rw [if_pos c3] at H
 have c3b0 : ((l0.length : Int) == (l1.length : Int)) = true := beq_iff_eq.mpr c3
 have c3b1 : ((l0.length : Int) != (l1.length : Int)) = false := bne_eq_false_iff_eq.mpr c3
 have c3b2 : (l0.length == l1.length) = true := by first | simpa using c3 | (simp at c3 ⊢; omega)
 clear c3
 have H' := Aside0.mk H
 clear H
 go_enter Try.func11, Try.ntmps11
 go_wp2
 go_loopg [5] k (fun kq v5 w' => ∃ (x5_1 : Int), v5 = .int .i64 x5_1 ∧ Aside0 (laws_eqSockS.l0 kq l0 l1 x5_1 = some r) ∧ Aside0 (kq ≤ k) ∧ Aside0 (Below w.heap.size w w'))
 case atStart => exact ⟨(0), eqq_, H', ⟨Nat.le_refl _⟩, ⟨qB HB⟩⟩
 case round =>
  clear H'
  try clear c1
  try clear p2
  try clear c3
  try clear c3b0
  try clear c3b1
  try clear c3b2
  obtain ⟨x5_1, rfl, HA, HK1, HB⟩ := hrel
  cases gk with
  | zero => exact absurd HA.out (by simp [laws_eqSockS.l0])
  | succ k1 =>
   have H := HA.out
   clear HA
   simp only [laws_eqSockS.l0] at H
   by_cases c4 : x5_1 < (l0.length : Int)
   rotate_left
   ·
    rw [if_neg c4] at H
    have c4b0 : decide (x5_1 < (l0.length : Int)) = false := decide_eq_false c4
    clear c4
    obtain rfl := Option.some.inj H
    go_wp2
    go_ret
    exact ⟨er_, qB HB⟩
   rw [if_pos c4] at H
   have c4b0 : decide (x5_1 < (l0.length : Int)) = true := decide_eq_true c4
   clear c4
   by_cases c5 : 0 ≤ x5_1
   case neg => exact nn_ c5 H
   rw [if_pos c5] at H
   have c5b0 : decide (0 ≤ x5_1) = true := decide_eq_true c5
   clear c5
   by_cases c6 : x5_1 < (l1.length : Int)
   case neg => exact nn_ c6 H
   rw [if_pos c6] at H
   have c6b0 : decide (x5_1 < (l1.length : Int)) = true := decide_eq_true c6
   clear c6
   replace H := bd_ H
   obtain ⟨t218, A7, H⟩ := H
   by_cases c8 : t218 = true
   rotate_left
   ·
    replace c8 := Bool.eq_false_iff.mpr c8
    subst c8
    rw [if_neg (show ¬ (false = true) by decide)] at H
    exact absurd (hr_.out ▸ H) (by simp)
   subst c8
   rw [if_pos rfl] at H
   have H' := Aside0.mk H
   clear H
   try go_wp2
   replace HB := am_ (below_drew1 HB.out)
   have p216 : 0 ≤ (x5_1 : Int) := od_
   have q216 : x5_1 < (l0.length : Int) := od_
   obtain ⟨ad216, A216_4, c216_4, A216_5, c216_5, e216, hx216_0, hx216_1, hx216_2, hx216_3, hx216_4, hx216_5, hx216_6, hx216_7, hl216_4, hi216_4, hl216_5, hi216_5⟩ := at_T80 HR0.out x5_1 p216 q216
   have hw216_7 := hx216_7
   have hw216_6 := hx216_6
   have hw216_5 := hx216_5
   have hw216_4 := hx216_4
   have hw216_3 := hx216_3
   have hw216_2 := hx216_2
   have hw216_1 := hx216_1
   have hw216_0 := hx216_0
   cases e216
   replace hx216_0 := lb_ HB hx216_0
   replace hx216_1 := lb_ HB hx216_1
   replace hx216_2 := lb_ HB hx216_2
   replace hx216_3 := lb_ HB hx216_3
   replace hx216_4 := lb_ HB hx216_4
   replace hx216_5 := lb_ HB hx216_5
   replace hx216_6 := lb_ HB hx216_6
   replace hx216_7 := lb_ HB hx216_7
   have HR216_4 := Aside0.mk hi216_4
   have HC216_4 := Aside0.mk hl216_4
   clear hi216_4 hl216_4
   have HR216_5 := Aside0.mk hi216_5
   have HC216_5 := Aside0.mk hl216_5
   clear hi216_5 hl216_5
   replace p216 := eq_true p216
   replace q216 := eq_true q216
   have p217 : 0 ≤ (x5_1 : Int) := od_
   have q217 : x5_1 < (l1.length : Int) := od_
   obtain ⟨ad217, A217_4, c217_4, A217_5, c217_5, e217, hx217_0, hx217_1, hx217_2, hx217_3, hx217_4, hx217_5, hx217_6, hx217_7, hl217_4, hi217_4, hl217_5, hi217_5⟩ := at_T80 HR1.out x5_1 p217 q217
   have hw217_7 := hx217_7
   have hw217_6 := hx217_6
   have hw217_5 := hx217_5
   have hw217_4 := hx217_4
   have hw217_3 := hx217_3
   have hw217_2 := hx217_2
   have hw217_1 := hx217_1
   have hw217_0 := hx217_0
   cases e217
   replace hx217_0 := lb_ HB hx217_0
   replace hx217_1 := lb_ HB hx217_1
   replace hx217_2 := lb_ HB hx217_2
   replace hx217_3 := lb_ HB hx217_3
   replace hx217_4 := lb_ HB hx217_4
   replace hx217_5 := lb_ HB hx217_5
   replace hx217_6 := lb_ HB hx217_6
   replace hx217_7 := lb_ HB hx217_7
   have HR217_4 := Aside0.mk hi217_4
   have HC217_4 := Aside0.mk hl217_4
   clear hi217_4 hl217_4
   have HR217_5 := Aside0.mk hi217_5
   have HC217_5 := Aside0.mk hl217_5
   clear hi217_5 hl217_5
   replace p217 := eq_true p217
   replace q217 := eq_true q217
   refine start_ (n := 10) (S := fun w' => w'.cell? (ad216.add ((x5_1).toNat * 8)) = some (.int .i64 ((rd_T80 l0 x5_1).f0)) ∧ w'.cell? ⟨(ad216.add ((x5_1).toNat * 8)).block, (ad216.add ((x5_1).toNat * 8)).off + 1, none⟩ = some (.int .i64 ((rd_T80 l0 x5_1).f1)) ∧ w'.cell? ⟨(ad216.add ((x5_1).toNat * 8)).block, (ad216.add ((x5_1).toNat * 8)).off + 2, none⟩ = some (.int .i64 ((rd_T80 l0 x5_1).f2)) ∧ w'.cell? ⟨(ad216.add ((x5_1).toNat * 8)).block, (ad216.add ((x5_1).toNat * 8)).off + 3, none⟩ = some (.bool ((rd_T80 l0 x5_1).f3)) ∧ w'.cell? ⟨(ad216.add ((x5_1).toNat * 8)).block, (ad216.add ((x5_1).toNat * 8)).off + 4, none⟩ = some (.slice A216_4 ((rd_T80 l0 x5_1).f4).length c216_4) ∧ w'.cell? ⟨(ad216.add ((x5_1).toNat * 8)).block, (ad216.add ((x5_1).toNat * 8)).off + 5, none⟩ = some (.slice A216_5 ((rd_T80 l0 x5_1).f5).length c216_5) ∧ w'.cell? ⟨(ad216.add ((x5_1).toNat * 8)).block, (ad216.add ((x5_1).toNat * 8)).off + 6, none⟩ = some (.int .i64 ((rd_T80 l0 x5_1).f6)) ∧ w'.cell? ⟨(ad216.add ((x5_1).toNat * 8)).block, (ad216.add ((x5_1).toNat * 8)).off + 7, none⟩ = some (.int .i64 ((rd_T80 l0 x5_1).f7)) ∧ w'.cell? (ad217.add ((x5_1).toNat * 8)) = some (.int .i64 ((rd_T80 l1 x5_1).f0)) ∧ w'.cell? ⟨(ad217.add ((x5_1).toNat * 8)).block, (ad217.add ((x5_1).toNat * 8)).off + 1, none⟩ = some (.int .i64 ((rd_T80 l1 x5_1).f1)) ∧ w'.cell? ⟨(ad217.add ((x5_1).toNat * 8)).block, (ad217.add ((x5_1).toNat * 8)).off + 2, none⟩ = some (.int .i64 ((rd_T80 l1 x5_1).f2)) ∧ w'.cell? ⟨(ad217.add ((x5_1).toNat * 8)).block, (ad217.add ((x5_1).toNat * 8)).off + 3, none⟩ = some (.bool ((rd_T80 l1 x5_1).f3)) ∧ w'.cell? ⟨(ad217.add ((x5_1).toNat * 8)).block, (ad217.add ((x5_1).toNat * 8)).off + 4, none⟩ = some (.slice A217_4 ((rd_T80 l1 x5_1).f4).length c217_4) ∧ w'.cell? ⟨(ad217.add ((x5_1).toNat * 8)).block, (ad217.add ((x5_1).toNat * 8)).off + 5, none⟩ = some (.slice A217_5 ((rd_T80 l1 x5_1).f5).length c217_5) ∧ w'.cell? ⟨(ad217.add ((x5_1).toNat * 8)).block, (ad217.add ((x5_1).toNat * 8)).off + 6, none⟩ = some (.int .i64 ((rd_T80 l1 x5_1).f6)) ∧ w'.cell? ⟨(ad217.add ((x5_1).toNat * 8)).block, (ad217.add ((x5_1).toNat * 8)).off + 7, none⟩ = some (.int .i64 ((rd_T80 l1 x5_1).f7))) (ds := []) #[oo,oo,oo,oo,oo,oo,oo,oo,oo,oo] (by kernel_rfl) rfl rfl ⟨(lb_ HB hw216_0 :), (lb_ HB hw216_1 :), (lb_ HB hw216_2 :), (lb_ HB hw216_3 :), (lb_ HB hw216_4 :), (lb_ HB hw216_5 :), (lb_ HB hw216_6 :), (lb_ HB hw216_7 :), (lb_ HB hw217_0 :), (lb_ HB hw217_1 :), (lb_ HB hw217_2 :), (lb_ HB hw217_3 :), (lb_ HB hw217_4 :), (lb_ HB hw217_5 :), (lb_ HB hw217_6 :), (lb_ HB hw217_7 :)⟩ (fun hHeld => ?_); refine with_tabW laws_eqSockS.tab6 laws_eqSockS.bits6 (fun HT_ HW_ => ?_)
   generalize wr.drew = w9 at HB HR216_4 HR216_5 HR217_4 HR217_5 hx216_0 hx216_1 hx216_2 hx216_3 hx216_4 hx216_5 hx216_6 hx216_7 hx217_0 hx217_1 hx217_2 hx217_3 hx217_4 hx217_5 hx217_6 hx217_7 hHeld ⊢
   refine pz_ (i := 0) (N := some 17) HT_ #[ii,oo,oo,oo,oo,oo,oo,oo,oo,oo] rfl rfl ?_
   refine pz_ (i := 1) (N := some 18) HT_ #[ii,ii,oo,oo,oo,oo,oo,oo,oo,oo] rfl rfl ?_
   refine pz_ (i := 2) (N := some 19) HT_ #[ii,ii,ii,oo,oo,oo,oo,oo,oo,oo] rfl rfl ?_
   refine pz_ (i := 4) (N := some 21) HT_ #[ii,ii,ii,oo,ii,oo,oo,oo,oo,oo] rfl rfl ?_
   refine pz_ (i := 5) (N := some 22) HT_ #[ii,ii,ii,oo,ii,ii,oo,oo,oo,oo] rfl rfl ?_
   refine pz_ (i := 6) (N := some 23) HT_ #[ii,ii,ii,oo,ii,ii,ii,oo,oo,oo] rfl rfl ?_
   refine take_ (i := 3) (N := some 20) (v := ?_) (a' := ?_) #[ii,ii,ii,ii,ii,ii,ii,oo,oo,oo] rfl rfl (take_ofW HT_.out HW_.out (by kernel_rfl)) (fun _ _ _ h => h) (Or.inl ⟨by rfl, ?_⟩) hHeld ?_ ?_
   rotate_left
   ·
    rintro w' ⟨s0, s1, s2, s3, s4, s5, s6, s7, s8, s9, s10, s11, s12, s13, s14, s15⟩
    go_simp
    with_reducible rfl
   rotate_left
   ·
    exact ap_
   refine take_ (i := 7) (N := some 24) (v := ?_) (a' := ?_) #[ii,ii,ii,ii,ii,ii,ii,ii,oo,oo] rfl rfl (take_ofW HT_.out HW_.out (by kernel_rfl)) (fun _ _ _ h => h) (Or.inl ⟨by rfl, ?_⟩) hHeld ?_ ?_
   rotate_left
   ·
    rintro w' ⟨s0, s1, s2, s3, s4, s5, s6, s7, s8, s9, s10, s11, s12, s13, s14, s15⟩
    go_simp
    with_reducible rfl
   rotate_left
   ·
    exact ap_
   refine one_ (i := 8) (N := some 25) #[ii,ii,ii,ii,ii,ii,ii,ii,ii,oo] rfl rfl (one_of HT_.out (by kernel_rfl)) (by decide) (fun K hK => ?_)
   refine goes_ Try.func46 (by kernel_rfl) rfl #[.agg #[.int .i64 ((rd_T80 l0 x5_1).f0), .int .i64 ((rd_T80 l0 x5_1).f1), .int .i64 ((rd_T80 l0 x5_1).f2), .bool ((rd_T80 l0 x5_1).f3), .slice A216_4 ((rd_T80 l0 x5_1).f4).length c216_4, .slice A216_5 ((rd_T80 l0 x5_1).f5).length c216_5, .int .i64 ((rd_T80 l0 x5_1).f6), .int .i64 ((rd_T80 l0 x5_1).f7)], .agg #[.int .i64 ((rd_T80 l1 x5_1).f0), .int .i64 ((rd_T80 l1 x5_1).f1), .int .i64 ((rd_T80 l1 x5_1).f2), .bool ((rd_T80 l1 x5_1).f3), .slice A217_4 ((rd_T80 l1 x5_1).f4).length c217_4, .slice A217_5 ((rd_T80 l1 x5_1).f5).length c217_5, .int .i64 ((rd_T80 l1 x5_1).f6), .int .i64 ((rd_T80 l1 x5_1).f7)]] (by rfl) rfl rfl la_ ?_
   with_reducible refine (laws_eqSock.calls k1 ((rd_T80 l0 x5_1).f0) ((rd_T80 l0 x5_1).f1) ((rd_T80 l0 x5_1).f2) ((rd_T80 l0 x5_1).f3) _ _ ((rd_T80 l0 x5_1).f4) _ _ ((rd_T80 l0 x5_1).f5) ((rd_T80 l0 x5_1).f6) ((rd_T80 l0 x5_1).f7) ((rd_T80 l1 x5_1).f0) ((rd_T80 l1 x5_1).f1) ((rd_T80 l1 x5_1).f2) ((rd_T80 l1 x5_1).f3) _ _ ((rd_T80 l1 x5_1).f4) _ _ ((rd_T80 l1 x5_1).f5) ((rd_T80 l1 x5_1).f6) ((rd_T80 l1 x5_1).f7) true _ ?side1 ?side2 ?side3 ?side4 ?side5 ?side6 ?side7 ?side8 ⟨rfl⟩ A7.out).mono ?_
   (case side1 => exact qC (Kd.C_below HR216_4.out HB.out))
   (case side2 => exact HC216_4.out)
   (case side3 => exact qC (Kd.C_below HR216_5.out HB.out))
   (case side4 => exact HC216_5.out)
   (case side5 => exact qC (Kd.C_below HR217_4.out HB.out))
   (case side6 => exact HC217_4.out)
   (case side7 => exact qC (Kd.C_below HR217_5.out HB.out))
   (case side8 => exact HC217_5.out)
   rintro e w10 ⟨rfl, hb⟩
   refine ⟨_, rfl, ?_⟩
   replace HB := bS_ HB hb
   (try clear hb)
   refine hK.out _ _ ⟨(lb_ HB hw216_0 :), (lb_ HB hw216_1 :), (lb_ HB hw216_2 :), (lb_ HB hw216_3 :), (lb_ HB hw216_4 :), (lb_ HB hw216_5 :), (lb_ HB hw216_6 :), (lb_ HB hw216_7 :), (lb_ HB hw217_0 :), (lb_ HB hw217_1 :), (lb_ HB hw217_2 :), (lb_ HB hw217_3 :), (lb_ HB hw217_4 :), (lb_ HB hw217_5 :), (lb_ HB hw217_6 :), (lb_ HB hw217_7 :)⟩ (fun hHeld => ?_)
   clear hK K
   refine norm_ (a' := ?_) ?_ ?_
   rotate_left
   ·
    show Act.put _ (some 25) _ = _
    exact ap_
   refine pz_ (i := 9) (N := some 26) HT_ #[ii,ii,ii,ii,ii,ii,ii,ii,ii,ii] rfl rfl ?_
   refine done_ (done_of HT_.out (by kernel_rfl)) ?_
   try go_wp2
   go_roundg k1
   case measure => have := HK1.out; omega
   case rel => exact ⟨(wrap64 (x5_1 + 1)), eqq_, H', ⟨by have := HK1.out; omega⟩, ⟨qB HB⟩⟩

/-! ### laws_markByteS: function 38 -/
def laws_markByteS.l0 : Nat → List Int → Int → Int → Option (Int × List Int)
 | 0, _, _, _ => none
 | k + 1, x0, x1, x5 => if x5 < (x0.length : Int) then (if 0 ≤ x5 then (laws_markByteS.l0 k (x0.set (x5 : Int).toNat ((x1) % 256)) (wrap64 (x1 + 1)) (wrap64 (x5 + 1))) else (none)) else (some (x1, x0))
def laws_markByteS.f (k : Nat) (l0 : List Int) (a1 : Int) : Option (Int × List Int) := laws_markByteS.l0 k l0 a1 0
theorem laws_markByteS.mono_l : ∀ k, (∀ y0 y1 y2, LeO (laws_markByteS.l0 k y0 y1 y2) (laws_markByteS.l0 (k + 1) y0 y1 y2))
 | 0 => fun _ _ _ r h => by simp [laws_markByteS.l0] at h
 | k + 1 => by
  have ih0 := laws_markByteS.mono_l k
  ·
   intro y0 y1 y2
   unfold laws_markByteS.l0
   repeat' first
   | (with_reducible exact ih0 _ _ _)
   | (with_reducible exact LeO.refl _)
   | (with_reducible exact LeO.none _)
   | (with_reducible refine LeO.ite ?_ ?_)
   | (with_reducible refine LeO.bind ?_ (fun _ => ?_))
theorem laws_markByteS.mono : ∀ a0 a1 k, LeO (laws_markByteS.f k a0 a1) (laws_markByteS.f (k + 1) a0 a1) := by
 intro a0 a1 k
 have ih0 := laws_markByteS.mono_l k
 unfold laws_markByteS.f
 repeat' first
   | (with_reducible exact ih0 _ _ _)
   | (with_reducible exact LeO.refl _)
   | (with_reducible exact LeO.none _)
   | (with_reducible refine LeO.ite ?_ ?_)
   | (with_reducible refine LeO.bind ?_ (fun _ => ?_))
set_option maxHeartbeats 8000000 in
set_option maxRecDepth 100000 in
theorem laws_markByteS.calls (k : Nat) (P0_ : Nat → Prop) (u9000_ : Value) (l0 : List Int) (a1 : Int) (r1 : Int) (r2 : List Int) (w0 w : World) (hB : Below w0.heap.size w0 w) (ho0 : Kd.R (Kd.int .u8) 5 w w0.heap.size P0_ u9000_ l0) (h : laws_markByteS.f k l0 a1 = some (r1, r2)) :
  Calls Try.prog 38 #[u9000_, .int .i64 a1] w fun e w' => e = .returned (.int .i64 r1) ∧ Kd.R (Kd.int .u8) 5 w' w0.heap.size (fun k_ => (P0_ k_ ∨ w.heap.size ≤ k_)) u9000_ r2 ∧ Below w0.heap.size w0 w' ∧ Kept w w' (fun k_ => P0_ k_) := by
 have HO0 := Aside0.mk (show Kd.R (Kd.int .u8) 5 w w0.heap.size (fun k_ => (P0_ k_ ∨ w.heap.size ≤ k_)) u9000_ l0 from Kd.R_mono ho0 (fun k_ hk => (.inl hk)))
 have HK := Aside0.mk (Kept.refl w (fun k_ => P0_ k_))
 have HW0 := Aside0.mk hB.size
 have HB := Aside0.mk hB
 clear hB
 have H : (laws_markByteS.l0 k l0 a1 0) = some (r1, r2) := h
 clear h
 have H' := Aside0.mk H
 clear H
 go_enter Try.func38, Try.ntmps38
 go_wp2
 go_loopg [1, 5] k (fun kq v1 v5 w' => ∃ (x0_1 : List Int) (x1_1 : Int) (x5_1 : Int), v1 = .int .i64 x1_1 ∧ v5 = .int .i64 x5_1 ∧ Aside0 (laws_markByteS.l0 kq x0_1 x1_1 x5_1 = some (r1, r2)) ∧ Aside0 (kq ≤ k) ∧ Aside0 (Kd.R (Kd.int .u8) 5 w' w0.heap.size (fun k_ => (P0_ k_ ∨ w.heap.size ≤ k_)) u9000_ x0_1) ∧ Aside0 (Kept w w' (fun k_ => P0_ k_)) ∧ Aside0 (Below w0.heap.size w0 w'))
 case atStart => exact ⟨(l0), (a1), (0), eqq_, eqq_, H', ⟨Nat.le_refl _⟩, ⟨qR HO0⟩, ⟨by repeat (first | (with_reducible first | exact HK.out | apply Kept.alloc | apply Kept.drewN | apply Kept.drew) | exact HK.out)⟩, ⟨qB HB⟩⟩
 case round =>
  clear H'
  try clear p2
  obtain ⟨x0_1, x1_1, x5_1, rfl, rfl, HA, HK1, HO_0, HK, HB⟩ := hrel
  cases gk with
  | zero => exact absurd HA.out (by simp [laws_markByteS.l0])
  | succ k1 =>
   have H := HA.out
   clear HA
   simp only [laws_markByteS.l0] at H
   by_cases c3 : x5_1 < (x0_1.length : Int)
   rotate_left
   ·
    rw [if_neg c3] at H
    have c3b0 : decide (x5_1 < (x0_1.length : Int)) = false := decide_eq_false c3
    clear c3
    simp only [Option.some.injEq, Prod.mk.injEq] at H
    obtain ⟨rfl, rfl⟩ := H
    obtain ⟨Ao9, co9, eo9⟩ := Kd.R_slice HO_0.out
    subst eo9
    go_wp2
    go_ret
    exact ⟨er_, qR HO_0, qB HB, by repeat (first | (with_reducible first | exact HK.out | apply Kept.alloc | apply Kept.drewN | apply Kept.drew) | exact HK.out)⟩
   rw [if_pos c3] at H
   have c3b0 : decide (x5_1 < (x0_1.length : Int)) = true := decide_eq_true c3
   clear c3
   by_cases c4 : 0 ≤ x5_1
   case neg => exact nn_ c4 H
   rw [if_pos c4] at H
   have c4b0 : decide (0 ≤ x5_1) = true := decide_eq_true c4
   clear c4
   obtain ⟨y219, hy219⟩ : ∃ y_ : List Int, y_ = (x0_1.set (x5_1 : Int).toNat ((x1_1) % 256)) := ⟨_, rfl⟩
   rw [← hy219] at H
   have Ny219 := Aside0.mk hy219
   clear hy219
   have H' := Aside0.mk H
   clear H
   obtain ⟨Ao6, co6, eo6⟩ := Kd.R_slice HO_0.out
   subst eo6
   have p5 : 0 ≤ (x5_1 : Int) := od_
   have q5 : (x5_1 : Int) < ((x0_1.length : Int) : Int) := od_
   obtain ⟨go5, co5, eo5, gb5, gl5, cl5, HG5⟩ := Kd.R_form HO_0.out (by omega)
   (first | cases eo5 | (injection eo5 with ea_ en_ ec_; (first | subst ea_ | (injection ea_ with ea_; subst ea_)); subst ec_; clear en_))
   have GB5 := Aside0.mk gb5
   have GG5 := Aside0.mk HG5
   clear gb5 gl5 HG5
   have HMgo5 := Aside0.mk (show (P0_ go5 ∨ w.heap.size ≤ go5) from (HO_0.out.1 _ rfl))
   obtain ⟨hx5_0, hf5_0⟩ := Kd.R_celln 0 HO_0.out (x5_1 : Int) p5 q5
   replace p5 := eq_true p5
   replace q5 := eq_true q5
   have HP7 := Kd.R_putg HO_0.out (x5_1 : Int) ((x1_1) % 256)
   go_wp2_with (first | ((with_reducible refine gate_store (t := 5) (p := 16) rfl ?_); refine store_event (t := 5) (p := 16) (v := ?vo_w8) (w1 := (wr.setCell ⟨go5, (x5_1 : Int).toNat, none⟩ (.int .u8 ((x1_1) % 256)))) ?hg ?ho ?hn ?hr ?_; (case ho => rfl); (case hg => rfl); (case hn => rfl); (case hr => first | (go_simp; done) | (go_simp; rfl)); intro w8 hw; have hg : wr.grownBy w8 (some go5) := (by rw [hw]; exact HP7.2); have hp_ : Kd.R (Kd.int .u8) 5 w8 w0.heap.size (fun k_ => (P0_ k_ ∨ w.heap.size ≤ k_)) (.slice (some ⟨go5, 0, none⟩) x0_1.length co6) y219 := (by rw [hw, Ny219.out]; exact HP7.1); clear HP7; replace HB := am_ ((by rw [hw]; exact below_set (HB.out) GB5.out : Below w0.heap.size w0 w8)); replace HK := am_ (Kept.of_grown (S := (fun k_ => P0_ k_)) hg (by repeat (first | (with_reducible first | exact HK.out | apply Kept.alloc | apply Kept.drewN | apply Kept.drew) | exact HK.out)) (fun k_ e_ => (HO_0.out.1 k_ e_))); replace HO_0 := am_ (hp_); clear hg hw hp_))
   go_roundg k1
   case measure => have := HK1.out; omega
   case rel => exact ⟨(y219), (wrap64 (x1_1 + 1)), (wrap64 (x5_1 + 1)), eqq_, eqq_, H', ⟨by have := HK1.out; omega⟩, ⟨qR HO_0⟩, ⟨by repeat (first | (with_reducible first | exact HK.out | apply Kept.alloc | apply Kept.drewN | apply Kept.drew) | exact HK.out)⟩, ⟨qB HB⟩⟩

/-! ### laws_markSockS: function 12, by hand: each element's two rows are lent to laws_markByteS and put back -/
def laws_markSockS.f (k : Nat) : List (S80) → Int → Option (Int × List (S80))
 | [], kk => some (kk, [])
 | x :: l, kk => (laws_markByteS.f k x.f4 (wrap64 (wrap64 (wrap64 (wrap64 (kk + 1) + 1) + 1) + 1))).bind fun b => (laws_markByteS.f k x.f5 b.1).bind fun c => (laws_markSockS.f k l (wrap64 (wrap64 (c.1 + 1) + 1))).bind fun d => some (d.1, (⟨kk, wrap64 (kk + 1), wrap64 (wrap64 (kk + 1) + 1), (Int.tmod (wrap64 (wrap64 (wrap64 (kk + 1) + 1) + 1)) 3 == 0), b.2, c.2, c.1, wrap64 (c.1 + 1)⟩ : S80) :: d.2)
theorem laws_markSockS.mono : ∀ l a k, LeO (laws_markSockS.f k l a) (laws_markSockS.f (k + 1) l a) := by
 intro l
 induction l with
 | nil => intro a k; exact LeO.refl _
 | cons x l ih => intro a k; exact LeO.bind (laws_markByteS.mono _ _ _) (fun _ => LeO.bind (laws_markByteS.mono _ _ _) (fun _ => LeO.bind (ih _ _) (fun _ => LeO.refl _)))
set_option maxHeartbeats 8000000 in
set_option maxRecDepth 100000 in
theorem laws_markSockS.calls (k : Nat) (P0_ : Nat → Prop) (u9000_ : Value) (l0 : List (S80)) (a1 : Int) (r1 : Int) (r2 : List (S80)) (w0 w : World) (hB : Below w0.heap.size w0 w) (ho0 : Kd.S k80 80 w w0.heap.size P0_ u9000_ l0) (h : laws_markSockS.f k l0 a1 = some (r1, r2)) :
  Calls Try.prog 12 #[u9000_, .int .i64 a1] w fun e w' => e = .returned (.int .i64 r1) ∧ Kd.S k80 80 w' w0.heap.size P0_ u9000_ r2 ∧ Below w0.heap.size w0 w' ∧ Kept w w' P0_ := by
 have hu80 := Try.underlying80
 obtain ⟨A0, c0, e0⟩ := Kd.S_slice ho0
 subst e0
 have hbig : l0.length ≤ 9223372036854775807 := (Kd.S_reads' ho0).2.2.2.1
 have HBIG := Aside0.mk hbig
 have HO := Aside0.mk ho0
 have HB := Aside0.mk hB
 have HK := Aside0.mk (Kept.refl w P0_)
 have HI := Aside0.mk (show (laws_markSockS.f k (l0.drop (0 : Int).toNat) a1).map (fun p => (p.1, l0.take (0 : Int).toNat ++ p.2)) = some (r1, r2) by simp [h])
 clear ho0 hB h hbig
 go_enter Try.func12, Try.ntmps12
 go_wp2
 go_loopg [1, 5] l0.length (fun gg v1 v5 wr => ∃ (xs : List (S80)) (kk i : Int), v1 = .int .i64 kk ∧ v5 = .int .i64 i ∧ Aside0 (0 ≤ i ∧ i ≤ (l0.length : Int) ∧ ((l0.length : Int) - i).toNat ≤ gg ∧ xs.length = l0.length) ∧ Aside0 ((laws_markSockS.f k (xs.drop i.toNat) kk).map (fun p => (p.1, xs.take i.toNat ++ p.2)) = some (r1, r2)) ∧ Aside0 (Kd.S k80 80 wr w0.heap.size P0_ (.slice A0 l0.length c0) xs) ∧ Aside0 (Below w0.heap.size w0 wr) ∧ Aside0 (Kept w wr P0_))
 case atStart => exact ⟨l0, a1, 0, rfl, rfl, ⟨by omega, by omega, by omega, rfl⟩, HI, HO, HB, HK⟩
 case round =>
  clear HI HO HB HK
  obtain ⟨xs, kk, i, rfl, rfl, HR, HI, HO, HB, HK⟩ := hrel
  obtain ⟨h0, h1, hg, hl⟩ := HR.out
  by_cases hlt : i < (l0.length : Int)
  rotate_left
  ·
   have c3 : decide (i < (l0.length : Int)) = false := decide_eq_false hlt
   go_wp2
   go_ret
   have hi := HI.out
   rw [List.drop_eq_nil_of_le (by omega), List.take_of_length_le (by omega)] at hi
   simp only [laws_markSockS.f, Option.map_some, List.append_nil] at hi
   obtain ⟨rfl, rfl⟩ := Prod.mk.inj (Option.some.inj hi)
   exact ⟨rfl, HO.out, HB.out, HK.out⟩
  have c3 : decide (i < (l0.length : Int)) = true := decide_eq_true hlt
  obtain ⟨g, cap, eg, hgb, hgl, _⟩ := Kd.S_form HO.out (by omega)
  injection eg with eg1 eg2 eg3
  subst eg1
  clear eg2 eg3
  obtain ⟨oki, ce, hcl, hM, hcc, hfr, hoki, hH⟩ := Kd.S_elem HO.out z80 i h0 hlt
  have hit : i.toNat < xs.length := by omega
  have hdrop : xs.drop i.toNat = xs.getD i.toNat z80 :: xs.drop (i + 1).toNat := by
   rw [List.drop_eq_getElem_cons hit, show (i + 1).toNat = i.toNat + 1 by omega]
   congr 1
   simp [List.getD_eq_getElem?_getD, List.getElem?_eq_getElem hit]
  have hi1 := HI.out
  rw [hdrop] at hi1
  have HH := Aside0.mk hH
  clear hH hdrop
  generalize xs.getD i.toNat z80 = x at hM hi1
  obtain ⟨t0, t1, t2, t3, t4, t5, t6, t7⟩ := x
  obtain ⟨p, v4, v5, rfl, g4, g5⟩ := k80_openD hM
  obtain ⟨A4, c4, rfl⟩ := Kd.R_slice g4
  obtain ⟨A5, c5, rfl⟩ := Kd.R_slice g5
  simp only [laws_markSockS.f, Option.map_eq_some_iff, Option.bind_eq_some_iff] at hi1
  obtain ⟨pp, ⟨⟨b1, b2⟩, hb, ⟨c1, c2⟩, hc, ⟨q1, q2⟩, hq, hp⟩, hr⟩ := hi1
  obtain rfl := Option.some.inj hp
  clear hp
  simp only at hc hq hr
  have hx0 : wr.cell? ⟨g, i.toNat * 8, none⟩ = some (.int .i64 t0) := hcc 0 _ rfl
  have hf0 : wr.frozen? ⟨g, i.toNat * 8, none⟩ = false := hfr 0
  have hx1 : wr.cell? ⟨g, i.toNat * 8 + 1, none⟩ = some (.int .i64 t1) := hcc 1 _ rfl
  have hf1 : wr.frozen? ⟨g, i.toNat * 8 + 1, none⟩ = false := hfr 1
  have hx2 : wr.cell? ⟨g, i.toNat * 8 + 2, none⟩ = some (.int .i64 t2) := hcc 2 _ rfl
  have hf2 : wr.frozen? ⟨g, i.toNat * 8 + 2, none⟩ = false := hfr 2
  have hx3 : wr.cell? ⟨g, i.toNat * 8 + 3, none⟩ = some (.bool t3) := hcc 3 _ rfl
  have hf3 : wr.frozen? ⟨g, i.toNat * 8 + 3, none⟩ = false := hfr 3
  have hx4 : wr.cell? ⟨g, i.toNat * 8 + 4, none⟩ = some (.slice A4 t4.length c4) := hcc 4 _ rfl
  have hx5 : wr.cell? ⟨g, i.toNat * 8 + 5, none⟩ = some (.slice A5 t5.length c5) := hcc 5 _ rfl
  have hx6 : wr.cell? ⟨g, i.toNat * 8 + 6, none⟩ = some (.int .i64 t6) := hcc 6 _ rfl
  have hx7 : wr.cell? ⟨g, i.toNat * 8 + 7, none⟩ = some (.int .i64 t7) := hcc 7 _ rfl
  have hPg : P0_ g := HO.out.elim fun f hf => hf.1 g (by simp [Value.ownBlock])
  have nb : ∀ (q : Nat → Prop) k_, (oki k_ ∧ q k_) → k_ ≠ g := fun q k_ hk => (hoki k_ hk.1).2
  have HH4 := Aside0.mk (show Kd.H k80 80 ((((wr.setCell ⟨g, i.toNat * 8, none⟩ (.int .i64 kk)).setCell ⟨g, i.toNat * 8 + 1, none⟩ (.int .i64 (wrap64 (kk + 1)))).setCell ⟨g, i.toNat * 8 + 2, none⟩ (.int .i64 (wrap64 (wrap64 (kk + 1) + 1)))).setCell ⟨g, i.toNat * 8 + 3, none⟩ (.bool (Int.tmod (wrap64 (wrap64 (wrap64 (kk + 1) + 1) + 1)) 3 == 0))) w0.heap.size P0_ (.slice (some ⟨g, 0, none⟩) l0.length c0) xs i oki _ from (Kd.H_seg HH.out h0 hlt (seg := [.int .i64 kk, .int .i64 (wrap64 (kk + 1)), .int .i64 (wrap64 (wrap64 (kk + 1) + 1)), .bool (Int.tmod (wrap64 (wrap64 (wrap64 (kk + 1) + 1) + 1)) 3 == 0)]) (j := 0) (show 0 + 4 ≤ 8 by decide) (by intro q hq; simp only [List.mem_cons, List.not_mem_nil, or_false] at hq; rcases hq with rfl | rfl | rfl | rfl <;> rfl)).1)
  have hB4 : Below w0.heap.size w0 ((((wr.setCell ⟨g, i.toNat * 8, none⟩ (.int .i64 kk)).setCell ⟨g, i.toNat * 8 + 1, none⟩ (.int .i64 (wrap64 (kk + 1)))).setCell ⟨g, i.toNat * 8 + 2, none⟩ (.int .i64 (wrap64 (wrap64 (kk + 1) + 1)))).setCell ⟨g, i.toNat * 8 + 3, none⟩ (.bool (Int.tmod (wrap64 (wrap64 (wrap64 (kk + 1) + 1) + 1)) 3 == 0))) := (below_set (below_set (below_set (below_set HB.out hgb) hgb) hgb) hgb)
  have HK4 := Aside0.mk (show Kept w ((((wr.setCell ⟨g, i.toNat * 8, none⟩ (.int .i64 kk)).setCell ⟨g, i.toNat * 8 + 1, none⟩ (.int .i64 (wrap64 (kk + 1)))).setCell ⟨g, i.toNat * 8 + 2, none⟩ (.int .i64 (wrap64 (wrap64 (kk + 1) + 1)))).setCell ⟨g, i.toNat * 8 + 3, none⟩ (.bool (Int.tmod (wrap64 (wrap64 (wrap64 (kk + 1) + 1) + 1)) 3 == 0))) P0_ from (Kept.setCell (p := ⟨g, i.toNat * 8 + 3, none⟩) (Kept.setCell (p := ⟨g, i.toNat * 8 + 2, none⟩) (Kept.setCell (p := ⟨g, i.toNat * 8 + 1, none⟩) (Kept.setCell (p := ⟨g, i.toNat * 8, none⟩) HK.out (.inl hPg) _) (.inl hPg) _) (.inl hPg) _) (.inl hPg) _))
  have HCALL := Aside0.mk (laws_markByteS.calls k (fun k_ => oki k_ ∧ p k_) (.slice A4 t4.length c4) t4 (wrap64 (wrap64 (wrap64 (wrap64 (kk + 1) + 1) + 1) + 1)) b1 b2 w0 _ hB4 (Kd.R_far (p := ⟨g, i.toNat * 8 + 3, none⟩) (Kd.R_far (p := ⟨g, i.toNat * 8 + 2, none⟩) (Kd.R_far (p := ⟨g, i.toNat * 8 + 1, none⟩) (Kd.R_far (p := ⟨g, i.toNat * 8, none⟩) g4 (nb p) _) (nb p) _) (nb p) _) (nb p) _) hb)
  have HG5 := Aside0.mk (show (Kd.int .u8).R 5 ((((wr.setCell ⟨g, i.toNat * 8, none⟩ (.int .i64 kk)).setCell ⟨g, i.toNat * 8 + 1, none⟩ (.int .i64 (wrap64 (kk + 1)))).setCell ⟨g, i.toNat * 8 + 2, none⟩ (.int .i64 (wrap64 (wrap64 (kk + 1) + 1)))).setCell ⟨g, i.toNat * 8 + 3, none⟩ (.bool (Int.tmod (wrap64 (wrap64 (wrap64 (kk + 1) + 1) + 1)) 3 == 0))) w0.heap.size (fun k_ => oki k_ ∧ ¬ p k_) (.slice A5 t5.length c5) t5 from (Kd.R_far (p := ⟨g, i.toNat * 8 + 3, none⟩) (Kd.R_far (p := ⟨g, i.toNat * 8 + 2, none⟩) (Kd.R_far (p := ⟨g, i.toNat * 8 + 1, none⟩) (Kd.R_far (p := ⟨g, i.toNat * 8, none⟩) g5 (nb (fun k_ => ¬ p k_)) _) (nb (fun k_ => ¬ p k_)) _) (nb (fun k_ => ¬ p k_)) _) (nb (fun k_ => ¬ p k_)) _))
  have HOK := Aside0.mk hoki
  have HPG := Aside0.mk hPg
  have HNB := Aside0.mk nb
  have HGB := Aside0.mk hgb
  have H01 := Aside0.mk (And.intro h0 hlt)
  have HC := Aside0.mk hc
  have HQ := Aside0.mk hq
  have HRR := Aside0.mk hr
  have HL := Aside0.mk hl
  have hm : Aside0 (((l0.length : Int) - (i + 1)).toNat < gk ∧ 0 ≤ i + 1 ∧ i + 1 ≤ (l0.length : Int) ∧ wrap64 (i + 1) = i + 1) := ⟨by omega, by omega, by omega, by have := HBIG.out; unfold wrap64; omega⟩
  have HIT := Aside0.mk hit
  have HGO := Aside0.mk (fun k_ (e_ : (Value.slice A4 t4.length c4).ownBlock = some k_) => g4.1 k_ e_)
  have HGO5 := Aside0.mk (fun k_ (e_ : (Value.slice A5 t5.length c5).ownBlock = some k_) => g5.1 k_ e_)
  clear HH hB4 hoki hPg nb hgb hc hq hr hb hl hit g4 g5 hcc hfr hM hcl h1 hg hgl HR HI
  replace h0 := eq_true h0
  replace hlt := eq_true hlt
  have t_ := trivial
  go_wp2_with (clear t_; go_at_call 38; refine HCALL.out.mono ?_; rintro e w1 ⟨rfl, hR1, hB1, hK1⟩; have HH1 := am_ (Kd.H_kept HH4.out hK1 (fun k_ _ hn h_ => hn h_.1)); have HR1 := am_ (Kd.R_reok (ok := fun k_ => oki k_ ∧ p k_) rfl hR1 (fun k_ hk => HGO.out k_ hk)); replace HG5 := am_ (Kd.R_kept HG5.out hK1 (fun k_ hk h_ => hk.2 h_.2)); have HB1 := am_ hB1; have HK1 := am_ (Kept.then_ HK4.out hK1 (fun k_ hk => .inl (HOK.out k_ hk.1).1)); (try clear hx0 hx1 hx2 hx3 hx4 hx5 hx6 hx7 hf0 hf1 hf2 hf3); have hx5 : w1.cell? ⟨g, i.toNat * 8 + 5, none⟩ = some (.slice A5 t5.length c5) := (Kd.H_at HH1.out H01.out.1 H01.out.2).1 5 _ rfl; clear hR1 hB1 hK1 HH4 HK4)
  have HCALL2 := Aside0.mk (laws_markByteS.calls k (fun k_ => oki k_ ∧ ¬ p k_) (.slice A5 t5.length c5) t5 b1 c1 c2 w0 _ HB1.out HG5.out HC.out)
  have t_ := trivial
  go_wp2_with (clear t_; go_at_call 38; refine HCALL2.out.mono ?_; rintro e w2 ⟨rfl, hR2, hB2, hK2⟩; have HH2 := am_ (Kd.H_kept HH1.out hK2 (fun k_ _ hn h_ => hn h_.1)); have HR2 := am_ (Kd.R_reok (ok := fun k_ => oki k_ ∧ ¬ p k_) rfl hR2 (fun k_ hk => HGO5.out k_ hk)); replace HR1 := am_ (Kd.R_kept HR1.out hK2 (fun k_ hk h_ => h_.2 hk.2)); have HB2 := am_ hB2; have HK2 := am_ (Kept.then_ HK1.out hK2 (fun k_ hk => .inl (HOK.out k_ hk.1).1)); (try clear hx5); have hx6 : w2.cell? ⟨g, i.toNat * 8 + 6, none⟩ = some (.int .i64 t6) := (Kd.H_at HH2.out H01.out.1 H01.out.2).1 6 _ rfl; have hx7 : w2.cell? ⟨g, i.toNat * 8 + 7, none⟩ = some (.int .i64 t7) := (Kd.H_at HH2.out H01.out.1 H01.out.2).1 7 _ rfl; have hf6 : w2.frozen? ⟨g, i.toNat * 8 + 6, none⟩ = false := (Kd.H_at HH2.out H01.out.1 H01.out.2).2 6; have hf7 : w2.frozen? ⟨g, i.toNat * 8 + 7, none⟩ = false := (Kd.H_at HH2.out H01.out.1 H01.out.2).2 7; clear hR2 hB2 hK2 HH1 HK1 HB1 HCALL HCALL2)
  have hw := hm.out.2.2.2
  have hPg := HPG.out
  have hgb := HGB.out
  have HH6 := Aside0.mk (show Kd.H k80 80 ((w2.setCell ⟨g, i.toNat * 8 + 6, none⟩ (.int .i64 c1)).setCell ⟨g, i.toNat * 8 + 7, none⟩ (.int .i64 (wrap64 (c1 + 1)))) w0.heap.size P0_ (.slice (some ⟨g, 0, none⟩) l0.length c0) xs i oki _ from (Kd.H_seg HH2.out H01.out.1 H01.out.2 (seg := [.int .i64 c1, .int .i64 (wrap64 (c1 + 1))]) (j := 6) (show 6 + 2 ≤ 8 by decide) (by intro q hq; simp only [List.mem_cons, List.not_mem_nil, or_false] at hq; rcases hq with rfl | rfl <;> rfl)).1)
  have HO2 := Kd.H_back (x' := (⟨kk, wrap64 (kk + 1), wrap64 (wrap64 (kk + 1) + 1), (Int.tmod (wrap64 (wrap64 (wrap64 (kk + 1) + 1) + 1)) 3 == 0), b2, c2, c1, wrap64 (c1 + 1)⟩ : S80)) HH6.out (k80_mkMp _ _ oki p (x := (⟨kk, wrap64 (kk + 1), wrap64 (wrap64 (kk + 1) + 1), (Int.tmod (wrap64 (wrap64 (wrap64 (kk + 1) + 1) + 1)) 3 == 0), b2, c2, c1, wrap64 (c1 + 1)⟩ : S80)) (v4 := .slice A4 t4.length c4) (v5 := .slice A5 t5.length c5) (Kd.R_far (p := ⟨g, i.toNat * 8 + 7, none⟩) (Kd.R_far (p := ⟨g, i.toNat * 8 + 6, none⟩) HR1.out (HNB.out p) _) (HNB.out p) _) (Kd.R_far (p := ⟨g, i.toNat * 8 + 7, none⟩) (Kd.R_far (p := ⟨g, i.toNat * 8 + 6, none⟩) HR2.out (HNB.out (fun k_ => ¬ p k_)) _) (HNB.out (fun k_ => ¬ p k_)) _)) (fun _ hk => hk)
  have HN := Aside0.mk (show (laws_markSockS.f k ((xs.set i.toNat (⟨kk, wrap64 (kk + 1), wrap64 (wrap64 (kk + 1) + 1), (Int.tmod (wrap64 (wrap64 (wrap64 (kk + 1) + 1) + 1)) 3 == 0), b2, c2, c1, wrap64 (c1 + 1)⟩ : S80)).drop (i + 1).toNat) (wrap64 (wrap64 (c1 + 1) + 1))).map (fun p => (p.1, (xs.set i.toNat (⟨kk, wrap64 (kk + 1), wrap64 (wrap64 (kk + 1) + 1), (Int.tmod (wrap64 (wrap64 (wrap64 (kk + 1) + 1) + 1)) 3 == 0), b2, c2, c1, wrap64 (c1 + 1)⟩ : S80)).take (i + 1).toNat ++ p.2)) = some (r1, r2) by
   have hi := HIT.out
   have h0_ := H01.out.1
   have e1 : (xs.set i.toNat (⟨kk, wrap64 (kk + 1), wrap64 (wrap64 (kk + 1) + 1), (Int.tmod (wrap64 (wrap64 (wrap64 (kk + 1) + 1) + 1)) 3 == 0), b2, c2, c1, wrap64 (c1 + 1)⟩ : S80)).drop (i + 1).toNat = xs.drop (i + 1).toNat := by
    rw [show (i + 1).toNat = i.toNat + 1 by omega, List.drop_set_of_lt (by omega)]
   have e2 : (xs.set i.toNat (⟨kk, wrap64 (kk + 1), wrap64 (wrap64 (kk + 1) + 1), (Int.tmod (wrap64 (wrap64 (wrap64 (kk + 1) + 1) + 1)) 3 == 0), b2, c2, c1, wrap64 (c1 + 1)⟩ : S80)).take (i + 1).toNat = xs.take i.toNat ++ [(⟨kk, wrap64 (kk + 1), wrap64 (wrap64 (kk + 1) + 1), (Int.tmod (wrap64 (wrap64 (wrap64 (kk + 1) + 1) + 1)) 3 == 0), b2, c2, c1, wrap64 (c1 + 1)⟩ : S80)] := by
    rw [show (i + 1).toNat = i.toNat + 1 by omega, List.take_add_one, List.getElem?_set_self hi, List.take_set_of_le (by omega)]
    rfl
   rw [e1, e2, HQ.out]
   simp only [Option.map_some, List.append_assoc, List.singleton_append]
   exact congrArg some HRR.out)
  go_roundg (((l0.length : Int) - (i + 1)).toNat)
  case measure => exact hm.out.1
  case rel => exact ⟨xs.set i.toNat (⟨kk, wrap64 (kk + 1), wrap64 (wrap64 (kk + 1) + 1), (Int.tmod (wrap64 (wrap64 (wrap64 (kk + 1) + 1) + 1)) 3 == 0), b2, c2, c1, wrap64 (c1 + 1)⟩ : S80), (wrap64 (wrap64 (c1 + 1) + 1)), i + 1, rfl, by rw [hw], ⟨hm.out.2.1, hm.out.2.2.1, Nat.le_refl _, by rw [List.length_set]; exact HL.out⟩, HN, ⟨HO2⟩, ⟨(below_set (below_set HB2.out hgb) hgb)⟩, ⟨(Kept.setCell (p := ⟨g, i.toNat * 8 + 7, none⟩) (Kept.setCell (p := ⟨g, i.toNat * 8 + 6, none⟩) HK2.out (.inl hPg) _) (.inl hPg) _)⟩⟩

/-! ### laws_heldByteS: function 47 -/
def laws_heldByteS.l0 : Nat → List Int → Int → Int → Option (Int)
 | 0, _, _, _ => none
 | k + 1, x0, x1, x5 => if x5 < (x0.length : Int) then (if 0 ≤ x5 then (if (rd x0 x5) = ((x1) % 256) then (laws_heldByteS.l0 k x0 (wrap64 (x1 + 1)) (wrap64 (x5 + 1))) else (some (-1))) else (none)) else (some x1)
def laws_heldByteS.f (k : Nat) (l0 : List Int) (a1 : Int) : Option (Int) := laws_heldByteS.l0 k l0 a1 0
theorem laws_heldByteS.mono_l : ∀ k, (∀ y0 y1 y2, LeO (laws_heldByteS.l0 k y0 y1 y2) (laws_heldByteS.l0 (k + 1) y0 y1 y2))
 | 0 => fun _ _ _ r h => by simp [laws_heldByteS.l0] at h
 | k + 1 => by
  have ih0 := laws_heldByteS.mono_l k
  ·
   intro y0 y1 y2
   unfold laws_heldByteS.l0
   repeat' first
   | (with_reducible exact ih0 _ _ _)
   | (with_reducible exact LeO.refl _)
   | (with_reducible exact LeO.none _)
   | (with_reducible refine LeO.ite ?_ ?_)
   | (with_reducible refine LeO.bind ?_ (fun _ => ?_))
theorem laws_heldByteS.mono : ∀ a0 a1 k, LeO (laws_heldByteS.f k a0 a1) (laws_heldByteS.f (k + 1) a0 a1) := by
 intro a0 a1 k
 have ih0 := laws_heldByteS.mono_l k
 unfold laws_heldByteS.f
 repeat' first
   | (with_reducible exact ih0 _ _ _)
   | (with_reducible exact LeO.refl _)
   | (with_reducible exact LeO.none _)
   | (with_reducible refine LeO.ite ?_ ?_)
   | (with_reducible refine LeO.bind ?_ (fun _ => ?_))
set_option maxHeartbeats 8000000 in
set_option maxRecDepth 100000 in
theorem laws_heldByteS.calls (k : Nat) (A0 : Option Addr) (c0 : Nat) (l0 : List Int) (a1 : Int) (r : Int) (w : World) (hr0 : Kd.C (Kd.int .u8) w A0 l0.length l0) (hc0 : l0.length ≤ c0) (h : laws_heldByteS.f k l0 a1 = some r) :
  Calls Try.prog 47 #[.slice A0 l0.length c0, .int .i64 a1] w fun e w' => e = .returned (.int .i64 r) ∧ Drawn0 w w' := by
 have HR0 := Aside0.mk hr0
 have HC0 := Aside0.mk hc0
 clear hr0 hc0
 have H : (laws_heldByteS.l0 k l0 a1 0) = some r := h
 clear h
 have H' := Aside0.mk H
 clear H
 go_enter Try.func47, Try.ntmps47
 go_wp2
 go_loopg [1, 5] k (fun kq v1 v5 w' => ∃ (x1_1 : Int) (x5_1 : Int), v1 = .int .i64 x1_1 ∧ v5 = .int .i64 x5_1 ∧ Aside0 (laws_heldByteS.l0 kq l0 x1_1 x5_1 = some r) ∧ Aside0 (kq ≤ k) ∧ Drawn0 w w')
 case atStart => exact ⟨(a1), (0), eqq_, eqq_, H', ⟨Nat.le_refl _⟩, by repeat (first | exact Drawn0.refl _ | apply Drawn0.step)⟩
 case round =>
  clear H'
  try clear p2
  obtain ⟨x1_1, x5_1, rfl, rfl, HA, HK1, ⟨m1, rfl⟩⟩ := hrel
  cases gk with
  | zero => exact absurd HA.out (by simp [laws_heldByteS.l0])
  | succ k1 =>
   have H := HA.out
   clear HA
   simp only [laws_heldByteS.l0] at H
   by_cases c3 : x5_1 < (l0.length : Int)
   rotate_left
   ·
    rw [if_neg c3] at H
    have c3b0 : decide (x5_1 < (l0.length : Int)) = false := decide_eq_false c3
    clear c3
    obtain rfl := Option.some.inj H
    go_wp2
    go_ret
    exact ⟨by first | rfl | (simp; done) | (simp [*]; done), by repeat (first | exact Drawn0.refl _ | apply Drawn0.step)⟩
   rw [if_pos c3] at H
   have c3b0 : decide (x5_1 < (l0.length : Int)) = true := decide_eq_true c3
   clear c3
   by_cases c4 : 0 ≤ x5_1
   case neg => exact nn_ c4 H
   rw [if_pos c4] at H
   have c4b0 : decide (0 ≤ x5_1) = true := decide_eq_true c4
   clear c4
   by_cases c5 : (rd l0 x5_1) = ((x1_1) % 256)
   rotate_left
   ·
    rw [if_neg c5] at H
    have c5b0 : ((rd l0 x5_1) == ((x1_1) % 256)) = false := beq_eq_false_iff_ne.mpr c5
    have c5b1 : ((rd l0 x5_1) != ((x1_1) % 256)) = true := bne_iff_ne.mpr c5
    obtain rfl := Option.some.inj H
    have p220 : 0 ≤ (x5_1 : Int) := od_
    have q220 : x5_1 < (l0.length : Int) := od_
    obtain ⟨ad220, e220, hx220_0⟩ := Kd.at_int HR0.out x5_1 p220 q220
    cases e220
    replace p220 := eq_true p220
    replace q220 := eq_true q220
    go_wp2
    go_ret
    exact ⟨by first | rfl | (simp; done) | (simp [*]; done), by repeat (first | exact Drawn0.refl _ | apply Drawn0.step)⟩
   rw [if_pos c5] at H
   have c5b0 : ((rd l0 x5_1) == ((x1_1) % 256)) = true := beq_iff_eq.mpr c5
   have c5b1 : ((rd l0 x5_1) != ((x1_1) % 256)) = false := bne_eq_false_iff_eq.mpr c5
   clear c5
   have H' := Aside0.mk H
   clear H
   have p220 : 0 ≤ (x5_1 : Int) := od_
   have q220 : x5_1 < (l0.length : Int) := od_
   obtain ⟨ad220, e220, hx220_0⟩ := Kd.at_int HR0.out x5_1 p220 q220
   cases e220
   replace p220 := eq_true p220
   replace q220 := eq_true q220
   go_wp2
   go_roundg k1
   case measure => have := HK1.out; omega
   case rel => exact ⟨(wrap64 (x1_1 + 1)), (wrap64 (x5_1 + 1)), eqq_, eqq_, H', ⟨by have := HK1.out; omega⟩, by repeat (first | exact Drawn0.refl _ | apply Drawn0.step)⟩

end Go.Proofs.Ytiffahfpfgnjnab.PFnExactFree
