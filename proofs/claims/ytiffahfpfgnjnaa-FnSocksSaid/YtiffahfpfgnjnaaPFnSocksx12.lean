-- Written by a program of this session (myprint.py, over the kit's print): contracts of FnSocks
import Derived.Test.YtiffahfpfgnjnaaPFnSocksx0
import Derived.Test.YtiffahfpfgnjnaaPFnSocksx2
namespace Go.Proofs.Ytiffahfpfgnjnaa.PFnSocks
open Go.RowKit Go.Proofs.YtiffahfpfgnjnaaW.PrintWords Go.Proofs.YtiffahfpfgnjnaaW.PrintLast Go.Proofs.YtiffahfpfgnjnaaW.PrintMore Go.Proofs.YtiffahfpfgnjnaaV
attribute [local go_sem] max2_int min2_int max_two min_two max_three min_three max_four min_four   -- for this text's walks alone
set_option linter.unusedVariables false
set_option linter.unusedSimpArgs false

/-! ### laws_sameSock: function 36 -/
def laws_sameSock.f (a0_0 : Int) (a0_1 : Int) (a0_2 : Int) (a0_3 : Bool) (l0_4 : List Int) (l0_5 : List Int) (a0_6 : Int) (a0_7 : Int) (a1_0 : Int) (a1_1 : Int) (a1_2 : Int) (a1_3 : Bool) (l1_4 : List Int) (l1_5 : List Int) (a1_6 : Int) (a1_7 : Int) : Option (Bool) := if a0_0 = a1_0 then (if a0_1 = a1_1 then (if a0_2 = a1_2 then (if (a0_3 == a1_3) = true then ((laws_same.f l0_4 l1_4).bind fun t659 => (if t659 = true then ((laws_same.f l0_5 l1_5).bind fun t660 => (if t660 = true then (if a0_6 = a1_6 then (some (a0_7 == a1_7)) else (some false)) else (some false))) else (some false))) else (some false)) else (some false)) else (some false)) else (some false)
set_option maxHeartbeats 8000000 in
set_option maxRecDepth 100000 in
theorem laws_sameSock.calls (a0_0 : Int) (a0_1 : Int) (a0_2 : Int) (a0_3 : Bool) (A0_4 : Option Addr) (c0_4 : Nat) (l0_4 : List Int) (A0_5 : Option Addr) (c0_5 : Nat) (l0_5 : List Int) (a0_6 : Int) (a0_7 : Int) (a1_0 : Int) (a1_1 : Int) (a1_2 : Int) (a1_3 : Bool) (A1_4 : Option Addr) (c1_4 : Nat) (l1_4 : List Int) (A1_5 : Option Addr) (c1_5 : Nat) (l1_5 : List Int) (a1_6 : Int) (a1_7 : Int) (r : Bool) (w : World) (hr0_4 : Kd.C (Kd.int .u8) w A0_4 l0_4.length l0_4) (hc0_4 : l0_4.length ≤ c0_4) (hr0_5 : Kd.C (Kd.int .u8) w A0_5 l0_5.length l0_5) (hc0_5 : l0_5.length ≤ c0_5) (hr1_4 : Kd.C (Kd.int .u8) w A1_4 l1_4.length l1_4) (hc1_4 : l1_4.length ≤ c1_4) (hr1_5 : Kd.C (Kd.int .u8) w A1_5 l1_5.length l1_5) (hc1_5 : l1_5.length ≤ c1_5) (h : laws_sameSock.f a0_0 a0_1 a0_2 a0_3 l0_4 l0_5 a0_6 a0_7 a1_0 a1_1 a1_2 a1_3 l1_4 l1_5 a1_6 a1_7 = some r) :
  Calls Try.prog 36 #[.agg #[.int .i64 a0_0, .int .i64 a0_1, .int .i64 a0_2, .bool a0_3, .slice A0_4 l0_4.length c0_4, .slice A0_5 l0_5.length c0_5, .int .i64 a0_6, .int .i64 a0_7], .agg #[.int .i64 a1_0, .int .i64 a1_1, .int .i64 a1_2, .bool a1_3, .slice A1_4 l1_4.length c1_4, .slice A1_5 l1_5.length c1_5, .int .i64 a1_6, .int .i64 a1_7]] w fun e w' => e = .returned (.bool r) ∧ Below w.heap.size w w' := by
 have hu41 := Try.underlying41
 have HR0_4 := Aside0.mk hr0_4
 have HC0_4 := Aside0.mk hc0_4
 clear hr0_4 hc0_4
 have HR0_5 := Aside0.mk hr0_5
 have HC0_5 := Aside0.mk hc0_5
 clear hr0_5 hc0_5
 have HR1_4 := Aside0.mk hr1_4
 have HC1_4 := Aside0.mk hc1_4
 clear hr1_4 hc1_4
 have HR1_5 := Aside0.mk hr1_5
 have HC1_5 := Aside0.mk hc1_5
 clear hr1_5 hc1_5
 have HB := Aside0.mk (Below.refl w.heap.size w)
 have H := h
 unfold laws_sameSock.f at H
 clear h
 have HC3 := Aside0.mk H
 clear H
 go_enter Try.func36, Try.ntmps36
 go_upto_region 1 with (first | ((with_reducible refine gate_dst (N := 2) rfl ?_); refine bx_ (N := 2) (cs := #[.int .i64 a0_0, .int .i64 a0_1, .int .i64 a0_2, .bool a0_3, .slice A0_4 l0_4.length c0_4, .slice A0_5 l0_5.length c0_5, .int .i64 a0_6, .int .i64 a0_7]) (t := 41) ?_; intro gb657 hg w4 hbox hb; have BK657 := am_ (hbox); have GW657 := gA_ hg HB; have GE657 := GW657; have IGE657 := gI_ GE657; replace HB := bS_ HB hb; clear hb hbox hg) | ((with_reducible refine gate_dst (N := 3) rfl ?_); refine bx_ (N := 3) (cs := #[.int .i64 a1_0, .int .i64 a1_1, .int .i64 a1_2, .bool a1_3, .slice A1_4 l1_4.length c1_4, .slice A1_5 l1_5.length c1_5, .int .i64 a1_6, .int .i64 a1_7]) (t := 41) ?_; intro gb658 hg w5 hbox hb; have BK658 := am_ (hbox); have GW658 := gA_ hg HB; have GE658 := GW658; have IGE658 := gI_ GE658; replace HB := bS_ HB hb; have NB657_658 := am_ ((gN_ hg (qK BK657))); have NB658_657 := am_ ((gM_ hg (qK BK657))); replace BK657 := bK_ BK657 hb; clear hb hbox hg))
 (try simp only [Act.put, List.setIfInBounds_toArray, List.set_cons_zero, List.set_cons_succ])
 have H := HC3.out
 clear HC3
 by_cases c6 : a0_0 = a1_0
 rotate_left
 ·
  rw [if_neg c6] at H
  have c6b0 : (a0_0 == a1_0) = false := beq_eq_false_iff_ne.mpr c6
  have c6b1 : (a0_0 != a1_0) = true := bne_iff_ne.mpr c6
  obtain rfl := Option.some.inj H
  have hnb36 := NB657_658.out
  have hnc36 := NB658_657.out
  (try clear zK657)
  have zK657 := cz8 BK657.out
  (try clear zK658)
  have zK658 := cz8 BK658.out
  go_wp2
  go_ret
  exact ⟨er_, qB HB⟩
 rw [if_pos c6] at H
 have c6b0 : (a0_0 == a1_0) = true := beq_iff_eq.mpr c6
 have c6b1 : (a0_0 != a1_0) = false := bne_eq_false_iff_eq.mpr c6
 clear c6
 by_cases c7 : a0_1 = a1_1
 rotate_left
 ·
  rw [if_neg c7] at H
  have c7b0 : (a0_1 == a1_1) = false := beq_eq_false_iff_ne.mpr c7
  have c7b1 : (a0_1 != a1_1) = true := bne_iff_ne.mpr c7
  obtain rfl := Option.some.inj H
  have hnb33 := NB657_658.out
  have hnc33 := NB658_657.out
  (try clear zK657)
  have zK657 := cz8 BK657.out
  (try clear zK658)
  have zK658 := cz8 BK658.out
  go_wp2
  go_ret
  exact ⟨er_, qB HB⟩
 rw [if_pos c7] at H
 have c7b0 : (a0_1 == a1_1) = true := beq_iff_eq.mpr c7
 have c7b1 : (a0_1 != a1_1) = false := bne_eq_false_iff_eq.mpr c7
 clear c7
 by_cases c8 : a0_2 = a1_2
 rotate_left
 ·
  rw [if_neg c8] at H
  have c8b0 : (a0_2 == a1_2) = false := beq_eq_false_iff_ne.mpr c8
  have c8b1 : (a0_2 != a1_2) = true := bne_iff_ne.mpr c8
  obtain rfl := Option.some.inj H
  have hnb30 := NB657_658.out
  have hnc30 := NB658_657.out
  (try clear zK657)
  have zK657 := cz8 BK657.out
  (try clear zK658)
  have zK658 := cz8 BK658.out
  go_wp2
  go_ret
  exact ⟨er_, qB HB⟩
 rw [if_pos c8] at H
 have c8b0 : (a0_2 == a1_2) = true := beq_iff_eq.mpr c8
 have c8b1 : (a0_2 != a1_2) = false := bne_eq_false_iff_eq.mpr c8
 clear c8
 by_cases c9 : (a0_3 == a1_3) = true
 rotate_left
 ·
  rw [if_neg c9] at H
  have c9b0 : (a0_3 == a1_3) = false := by simpa using c9
  (try (have c9b1 : decide (a0_3 = a1_3) = false := by simpa using c9))
  (try (have c9b2 : (a0_3 == a1_3) = false := by simpa using c9))
  (try (have c9b3 : ¬ (a0_3 = a1_3) := by simpa using c9))
  clear c9
  obtain rfl := Option.some.inj H
  have hnb27 := NB657_658.out
  have hnc27 := NB658_657.out
  (try clear zK657)
  have zK657 := cz8 BK657.out
  (try clear zK658)
  have zK658 := cz8 BK658.out
  go_wp2
  go_ret
  exact ⟨er_, qB HB⟩
 rw [if_pos c9] at H
 have c9b0 : (a0_3 == a1_3) = true := c9
 (try (have c9b1 : decide (a0_3 = a1_3) = true := by simpa using c9))
 (try (have c9b2 : (a0_3 == a1_3) = true := by simpa using c9))
 clear c9
 replace H := bd_ H
 obtain ⟨t659, A10, H⟩ := H
 by_cases c11 : t659 = true
 rotate_left
 ·
  replace c11 := Bool.eq_false_iff.mpr c11
  subst c11
  rw [if_neg (show ¬ (false = true) by decide)] at H
  obtain rfl := Option.some.inj H
  have hnb24 := NB657_658.out
  have hnc24 := NB658_657.out
  (try clear zK657)
  have zK657 := cz8 BK657.out
  (try clear zK658)
  have zK658 := cz8 BK658.out
  go_wp2_with (first | (go_at_call 15; (with_reducible refine (laws_same.calls _ _ l0_4 _ _ l1_4 false _ ?side1 ?side2 ?side3 ?side4 A10.out).mono ?_); (case side1 => exact qC (Kd.C_below HR0_4.out HB.out)); (case side2 => exact HC0_4.out); (case side3 => exact qC (Kd.C_below HR1_4.out HB.out)); (case side4 => exact HC1_4.out); rintro e w' ⟨rfl, ⟨nd, rfl⟩⟩))
  go_ret
  exact ⟨er_, qB HB⟩
 subst c11
 rw [if_pos rfl] at H
 replace H := bd_ H
 obtain ⟨t660, A12, H⟩ := H
 by_cases c13 : t660 = true
 rotate_left
 ·
  replace c13 := Bool.eq_false_iff.mpr c13
  subst c13
  rw [if_neg (show ¬ (false = true) by decide)] at H
  obtain rfl := Option.some.inj H
  have hnb21 := NB657_658.out
  have hnc21 := NB658_657.out
  (try clear zK657)
  have zK657 := cz8 BK657.out
  (try clear zK658)
  have zK658 := cz8 BK658.out
  go_wp2_with (first | (go_at_call 15; (with_reducible refine (laws_same.calls _ _ l0_4 _ _ l1_4 true _ ?side1 ?side2 ?side3 ?side4 A10.out).mono ?_); (case side1 => exact qC (Kd.C_below HR0_4.out HB.out)); (case side2 => exact HC0_4.out); (case side3 => exact qC (Kd.C_below HR1_4.out HB.out)); (case side4 => exact HC1_4.out); rintro e w' ⟨rfl, ⟨nd, rfl⟩⟩) | (go_at_call 15; (with_reducible refine (laws_same.calls _ _ l0_5 _ _ l1_5 false _ ?side1 ?side2 ?side3 ?side4 A12.out).mono ?_); (case side1 => repeat (first | exact (Kd.C_below HR0_5.out (qB HB)) | (with_reducible refine Kd.C_alloc ?_ _) | (with_reducible refine Kd.C_drewN ?_ _) | (with_reducible refine Kd.C_drew ?_))); (case side2 => exact HC0_5.out); (case side3 => repeat (first | exact (Kd.C_below HR1_5.out (qB HB)) | (with_reducible refine Kd.C_alloc ?_ _) | (with_reducible refine Kd.C_drewN ?_ _) | (with_reducible refine Kd.C_drew ?_))); (case side4 => exact HC1_5.out); rintro e w' ⟨rfl, ⟨nd, rfl⟩⟩))
  go_ret
  exact ⟨er_, qB HB⟩
 subst c13
 rw [if_pos rfl] at H
 by_cases c14 : a0_6 = a1_6
 rotate_left
 ·
  rw [if_neg c14] at H
  have c14b0 : (a0_6 == a1_6) = false := beq_eq_false_iff_ne.mpr c14
  have c14b1 : (a0_6 != a1_6) = true := bne_iff_ne.mpr c14
  obtain rfl := Option.some.inj H
  have hnb18 := NB657_658.out
  have hnc18 := NB658_657.out
  (try clear zK657)
  have zK657 := cz8 BK657.out
  (try clear zK658)
  have zK658 := cz8 BK658.out
  go_wp2_with (first | (go_at_call 15; (with_reducible refine (laws_same.calls _ _ l0_4 _ _ l1_4 true _ ?side1 ?side2 ?side3 ?side4 A10.out).mono ?_); (case side1 => exact qC (Kd.C_below HR0_4.out HB.out)); (case side2 => exact HC0_4.out); (case side3 => exact qC (Kd.C_below HR1_4.out HB.out)); (case side4 => exact HC1_4.out); rintro e w' ⟨rfl, ⟨nd, rfl⟩⟩) | (go_at_call 15; (with_reducible refine (laws_same.calls _ _ l0_5 _ _ l1_5 true _ ?side1 ?side2 ?side3 ?side4 A12.out).mono ?_); (case side1 => repeat (first | exact (Kd.C_below HR0_5.out (qB HB)) | (with_reducible refine Kd.C_alloc ?_ _) | (with_reducible refine Kd.C_drewN ?_ _) | (with_reducible refine Kd.C_drew ?_))); (case side2 => exact HC0_5.out); (case side3 => repeat (first | exact (Kd.C_below HR1_5.out (qB HB)) | (with_reducible refine Kd.C_alloc ?_ _) | (with_reducible refine Kd.C_drewN ?_ _) | (with_reducible refine Kd.C_drew ?_))); (case side4 => exact HC1_5.out); rintro e w' ⟨rfl, ⟨nd, rfl⟩⟩))
  go_ret
  exact ⟨er_, qB HB⟩
 rw [if_pos c14] at H
 have c14b0 : (a0_6 == a1_6) = true := beq_iff_eq.mpr c14
 have c14b1 : (a0_6 != a1_6) = false := bne_eq_false_iff_eq.mpr c14
 clear c14
 obtain rfl := Option.some.inj H
 have hnb15 := NB657_658.out
 have hnc15 := NB658_657.out
 (try clear zK657)
 have zK657 := cz8 BK657.out
 (try clear zK658)
 have zK658 := cz8 BK658.out
 go_wp2_with (first | (go_at_call 15; (with_reducible refine (laws_same.calls _ _ l0_4 _ _ l1_4 true _ ?side1 ?side2 ?side3 ?side4 A10.out).mono ?_); (case side1 => exact qC (Kd.C_below HR0_4.out HB.out)); (case side2 => exact HC0_4.out); (case side3 => exact qC (Kd.C_below HR1_4.out HB.out)); (case side4 => exact HC1_4.out); rintro e w' ⟨rfl, ⟨nd, rfl⟩⟩) | (go_at_call 15; (with_reducible refine (laws_same.calls _ _ l0_5 _ _ l1_5 true _ ?side1 ?side2 ?side3 ?side4 A12.out).mono ?_); (case side1 => repeat (first | exact (Kd.C_below HR0_5.out (qB HB)) | (with_reducible refine Kd.C_alloc ?_ _) | (with_reducible refine Kd.C_drewN ?_ _) | (with_reducible refine Kd.C_drew ?_))); (case side2 => exact HC0_5.out); (case side3 => repeat (first | exact (Kd.C_below HR1_5.out (qB HB)) | (with_reducible refine Kd.C_alloc ?_ _) | (with_reducible refine Kd.C_drewN ?_ _) | (with_reducible refine Kd.C_drew ?_))); (case side4 => exact HC1_5.out); rintro e w' ⟨rfl, ⟨nd, rfl⟩⟩))
 go_ret
 exact ⟨er_, qB HB⟩

/-! ### laws_sameSocks: function 32 -/
def laws_sameSocks.l0 : Nat → List (S41) → List (S41) → Int → Option (Bool)
 | 0, _, _, _ => none
 | k + 1, x0, x1, x5 => if x5 < (x0.length : Int) then (if 0 ≤ x5 then (if x5 < (x1.length : Int) then ((laws_sameSock.f ((rd_T41 x0 x5).f0) ((rd_T41 x0 x5).f1) ((rd_T41 x0 x5).f2) ((rd_T41 x0 x5).f3) ((rd_T41 x0 x5).f4) ((rd_T41 x0 x5).f5) ((rd_T41 x0 x5).f6) ((rd_T41 x0 x5).f7) ((rd_T41 x1 x5).f0) ((rd_T41 x1 x5).f1) ((rd_T41 x1 x5).f2) ((rd_T41 x1 x5).f3) ((rd_T41 x1 x5).f4) ((rd_T41 x1 x5).f5) ((rd_T41 x1 x5).f6) ((rd_T41 x1 x5).f7)).bind fun t663 => (if t663 = true then (laws_sameSocks.l0 k x0 x1 (wrap64 (x5 + 1))) else (some false))) else (none)) else (none)) else (some true)
def laws_sameSocks.f (k : Nat) (l0 : List (S41)) (l1 : List (S41)) : Option (Bool) := if (l0.length : Int) = (l1.length : Int) then (laws_sameSocks.l0 k l0 l1 0) else (some false)
theorem laws_sameSocks.mono_l : ∀ k, (∀ y0 y1 y2, LeO (laws_sameSocks.l0 k y0 y1 y2) (laws_sameSocks.l0 (k + 1) y0 y1 y2))
 | 0 => fun _ _ _ r h => by simp [laws_sameSocks.l0] at h
 | k + 1 => by
  have ih0 := laws_sameSocks.mono_l k
  ·
   intro y0 y1 y2
   unfold laws_sameSocks.l0
   exact mo_
theorem laws_sameSocks.mono : ∀ a0 a1 k, LeO (laws_sameSocks.f k a0 a1) (laws_sameSocks.f (k + 1) a0 a1) := by
 intro a0 a1 k
 have ih0 := laws_sameSocks.mono_l k
 unfold laws_sameSocks.f
 exact mo_
def laws_sameSocks.T6 : Bool × List (List Nat × List Nat) := (true, [([], []), ([], []), ([0, 1], [0, 1]), ([2], [2]), ([], []), ([], []), ([4, 5], [4, 5]), ([6], [6]), ([3, 7], [3, 7]), ([8], [8])])
def laws_sameSocks.B6 : List Nat := [0, 0, 3, 7, 0, 0, 48, 112, 255, 511]
theorem laws_sameSocks.tab6 : rtab .any (opsOf Try.f32 6) = laws_sameSocks.T6 := by kernel_rfl
theorem laws_sameSocks.bits6 : waitsOk laws_sameSocks.T6.2 laws_sameSocks.B6 = true := by kernel_rfl
set_option maxHeartbeats 8000000 in
set_option maxRecDepth 100000 in
theorem laws_sameSocks.calls (k : Nat) (A0 : Option Addr) (c0 : Nat) (l0 : List (S41)) (A1 : Option Addr) (c1 : Nat) (l1 : List (S41)) (r : Bool) (w : World) (hr0 : Kd.C k41 w A0 l0.length l0) (hc0 : l0.length ≤ c0) (hr1 : Kd.C k41 w A1 l1.length l1) (hc1 : l1.length ≤ c1) (h : laws_sameSocks.f k l0 l1 = some r) :
  Calls Try.prog 32 #[.slice A0 l0.length c0, .slice A1 l1.length c1] w fun e w' => e = .returned (.bool r) ∧ Below w.heap.size w w' := by
 have hu41 := Try.underlying41
 have HR0 := Aside0.mk hr0
 have HC0 := Aside0.mk hc0
 clear hr0 hc0
 have HR1 := Aside0.mk hr1
 have HC1 := Aside0.mk hc1
 clear hr1 hc1
 have HB := Aside0.mk (Below.refl w.heap.size w)
 have H := h
 unfold laws_sameSocks.f at H
 clear h
 by_cases c3 : (l0.length : Int) = (l1.length : Int)
 rotate_left
 ·
  rw [if_neg c3] at H
  have c3b0 : ((l0.length : Int) == (l1.length : Int)) = false := beq_eq_false_iff_ne.mpr c3
  have c3b1 : ((l0.length : Int) != (l1.length : Int)) = true := bne_iff_ne.mpr c3
  have c3b2 : (l0.length == l1.length) = false := by first | simpa using c3 | (simp at c3 ⊢; omega)
  obtain rfl := Option.some.inj H
  go_enter Try.func32, Try.ntmps32
  go_wp2
  go_ret
  exact ⟨er_, qB HB⟩
 rw [if_pos c3] at H
 have c3b0 : ((l0.length : Int) == (l1.length : Int)) = true := beq_iff_eq.mpr c3
 have c3b1 : ((l0.length : Int) != (l1.length : Int)) = false := bne_eq_false_iff_eq.mpr c3
 have c3b2 : (l0.length == l1.length) = true := by first | simpa using c3 | (simp at c3 ⊢; omega)
 clear c3
 have H' := Aside0.mk H
 clear H
 go_enter Try.func32, Try.ntmps32
 go_wp2
 go_loopg [5] k (fun kq v5 w' => ∃ (x5_1 : Int), v5 = .int .i64 x5_1 ∧ Aside0 (laws_sameSocks.l0 kq l0 l1 x5_1 = some r) ∧ Aside0 (kq ≤ k) ∧ Aside0 (Below w.heap.size w w'))
 case atStart => exact ⟨(0), eqq_, H', ⟨Nat.le_refl _⟩, ⟨qB HB⟩⟩
 case round =>
  clear H'
  try clear c1
  try clear p2
  try clear c3
  try clear c3b0
  try clear c3b1
  try clear c3b2
  obtain ⟨x5_1, rfl, HA, HK1, HB⟩ := hrel
  cases gk with
  | zero => exact absurd HA.out (by simp [laws_sameSocks.l0])
  | succ k1 =>
   have H := HA.out
   clear HA
   simp only [laws_sameSocks.l0] at H
   by_cases c4 : x5_1 < (l0.length : Int)
   rotate_left
   ·
    rw [if_neg c4] at H
    have c4b0 : decide (x5_1 < (l0.length : Int)) = false := decide_eq_false c4
    clear c4
    obtain rfl := Option.some.inj H
    go_wp2
    go_ret
    exact ⟨er_, qB HB⟩
   rw [if_pos c4] at H
   have c4b0 : decide (x5_1 < (l0.length : Int)) = true := decide_eq_true c4
   clear c4
   by_cases c5 : 0 ≤ x5_1
   case neg => exact nn_ c5 H
   rw [if_pos c5] at H
   have c5b0 : decide (0 ≤ x5_1) = true := decide_eq_true c5
   clear c5
   by_cases c6 : x5_1 < (l1.length : Int)
   case neg => exact nn_ c6 H
   rw [if_pos c6] at H
   have c6b0 : decide (x5_1 < (l1.length : Int)) = true := decide_eq_true c6
   clear c6
   replace H := bd_ H
   obtain ⟨t663, A7, H⟩ := H
   have HC8 := Aside0.mk H
   clear H
   try go_wp2
   replace HB := am_ (below_drew1 HB.out)
   have p661 : 0 ≤ (x5_1 : Int) := od_
   have q661 : x5_1 < (l0.length : Int) := od_
   obtain ⟨ad661, A661_4, c661_4, A661_5, c661_5, e661, hx661_0, hx661_1, hx661_2, hx661_3, hx661_4, hx661_5, hx661_6, hx661_7, hl661_4, hi661_4, hl661_5, hi661_5⟩ := at_T41 HR0.out x5_1 p661 q661
   have hw661_7 := hx661_7
   have hw661_6 := hx661_6
   have hw661_5 := hx661_5
   have hw661_4 := hx661_4
   have hw661_3 := hx661_3
   have hw661_2 := hx661_2
   have hw661_1 := hx661_1
   have hw661_0 := hx661_0
   cases e661
   replace hx661_0 := lb_ HB hx661_0
   replace hx661_1 := lb_ HB hx661_1
   replace hx661_2 := lb_ HB hx661_2
   replace hx661_3 := lb_ HB hx661_3
   replace hx661_4 := lb_ HB hx661_4
   replace hx661_5 := lb_ HB hx661_5
   replace hx661_6 := lb_ HB hx661_6
   replace hx661_7 := lb_ HB hx661_7
   have HR661_4 := Aside0.mk hi661_4
   have HC661_4 := Aside0.mk hl661_4
   clear hi661_4 hl661_4
   have HR661_5 := Aside0.mk hi661_5
   have HC661_5 := Aside0.mk hl661_5
   clear hi661_5 hl661_5
   replace p661 := eq_true p661
   replace q661 := eq_true q661
   have p662 : 0 ≤ (x5_1 : Int) := od_
   have q662 : x5_1 < (l1.length : Int) := od_
   obtain ⟨ad662, A662_4, c662_4, A662_5, c662_5, e662, hx662_0, hx662_1, hx662_2, hx662_3, hx662_4, hx662_5, hx662_6, hx662_7, hl662_4, hi662_4, hl662_5, hi662_5⟩ := at_T41 HR1.out x5_1 p662 q662
   have hw662_7 := hx662_7
   have hw662_6 := hx662_6
   have hw662_5 := hx662_5
   have hw662_4 := hx662_4
   have hw662_3 := hx662_3
   have hw662_2 := hx662_2
   have hw662_1 := hx662_1
   have hw662_0 := hx662_0
   cases e662
   replace hx662_0 := lb_ HB hx662_0
   replace hx662_1 := lb_ HB hx662_1
   replace hx662_2 := lb_ HB hx662_2
   replace hx662_3 := lb_ HB hx662_3
   replace hx662_4 := lb_ HB hx662_4
   replace hx662_5 := lb_ HB hx662_5
   replace hx662_6 := lb_ HB hx662_6
   replace hx662_7 := lb_ HB hx662_7
   have HR662_4 := Aside0.mk hi662_4
   have HC662_4 := Aside0.mk hl662_4
   clear hi662_4 hl662_4
   have HR662_5 := Aside0.mk hi662_5
   have HC662_5 := Aside0.mk hl662_5
   clear hi662_5 hl662_5
   replace p662 := eq_true p662
   replace q662 := eq_true q662
   refine start_ (n := 10) (S := fun w' => w'.cell? (ad661.add ((x5_1).toNat * 8)) = some (.int .i64 ((rd_T41 l0 x5_1).f0)) ∧ w'.cell? ⟨(ad661.add ((x5_1).toNat * 8)).block, (ad661.add ((x5_1).toNat * 8)).off + 1, none⟩ = some (.int .i64 ((rd_T41 l0 x5_1).f1)) ∧ w'.cell? ⟨(ad661.add ((x5_1).toNat * 8)).block, (ad661.add ((x5_1).toNat * 8)).off + 2, none⟩ = some (.int .i64 ((rd_T41 l0 x5_1).f2)) ∧ w'.cell? ⟨(ad661.add ((x5_1).toNat * 8)).block, (ad661.add ((x5_1).toNat * 8)).off + 3, none⟩ = some (.bool ((rd_T41 l0 x5_1).f3)) ∧ w'.cell? ⟨(ad661.add ((x5_1).toNat * 8)).block, (ad661.add ((x5_1).toNat * 8)).off + 4, none⟩ = some (.slice A661_4 ((rd_T41 l0 x5_1).f4).length c661_4) ∧ w'.cell? ⟨(ad661.add ((x5_1).toNat * 8)).block, (ad661.add ((x5_1).toNat * 8)).off + 5, none⟩ = some (.slice A661_5 ((rd_T41 l0 x5_1).f5).length c661_5) ∧ w'.cell? ⟨(ad661.add ((x5_1).toNat * 8)).block, (ad661.add ((x5_1).toNat * 8)).off + 6, none⟩ = some (.int .i64 ((rd_T41 l0 x5_1).f6)) ∧ w'.cell? ⟨(ad661.add ((x5_1).toNat * 8)).block, (ad661.add ((x5_1).toNat * 8)).off + 7, none⟩ = some (.int .i64 ((rd_T41 l0 x5_1).f7)) ∧ w'.cell? (ad662.add ((x5_1).toNat * 8)) = some (.int .i64 ((rd_T41 l1 x5_1).f0)) ∧ w'.cell? ⟨(ad662.add ((x5_1).toNat * 8)).block, (ad662.add ((x5_1).toNat * 8)).off + 1, none⟩ = some (.int .i64 ((rd_T41 l1 x5_1).f1)) ∧ w'.cell? ⟨(ad662.add ((x5_1).toNat * 8)).block, (ad662.add ((x5_1).toNat * 8)).off + 2, none⟩ = some (.int .i64 ((rd_T41 l1 x5_1).f2)) ∧ w'.cell? ⟨(ad662.add ((x5_1).toNat * 8)).block, (ad662.add ((x5_1).toNat * 8)).off + 3, none⟩ = some (.bool ((rd_T41 l1 x5_1).f3)) ∧ w'.cell? ⟨(ad662.add ((x5_1).toNat * 8)).block, (ad662.add ((x5_1).toNat * 8)).off + 4, none⟩ = some (.slice A662_4 ((rd_T41 l1 x5_1).f4).length c662_4) ∧ w'.cell? ⟨(ad662.add ((x5_1).toNat * 8)).block, (ad662.add ((x5_1).toNat * 8)).off + 5, none⟩ = some (.slice A662_5 ((rd_T41 l1 x5_1).f5).length c662_5) ∧ w'.cell? ⟨(ad662.add ((x5_1).toNat * 8)).block, (ad662.add ((x5_1).toNat * 8)).off + 6, none⟩ = some (.int .i64 ((rd_T41 l1 x5_1).f6)) ∧ w'.cell? ⟨(ad662.add ((x5_1).toNat * 8)).block, (ad662.add ((x5_1).toNat * 8)).off + 7, none⟩ = some (.int .i64 ((rd_T41 l1 x5_1).f7))) (ds := []) #[oo,oo,oo,oo,oo,oo,oo,oo,oo,oo] (by kernel_rfl) rfl rfl ⟨(lb_ HB hw661_0 :), (lb_ HB hw661_1 :), (lb_ HB hw661_2 :), (lb_ HB hw661_3 :), (lb_ HB hw661_4 :), (lb_ HB hw661_5 :), (lb_ HB hw661_6 :), (lb_ HB hw661_7 :), (lb_ HB hw662_0 :), (lb_ HB hw662_1 :), (lb_ HB hw662_2 :), (lb_ HB hw662_3 :), (lb_ HB hw662_4 :), (lb_ HB hw662_5 :), (lb_ HB hw662_6 :), (lb_ HB hw662_7 :)⟩ (fun hHeld => ?_); refine with_tabW laws_sameSocks.tab6 laws_sameSocks.bits6 (fun HT_ HW_ => ?_)
   generalize wr.drew = w9 at HB HR661_4 HR661_5 HR662_4 HR662_5 hx661_0 hx661_1 hx661_2 hx661_3 hx661_4 hx661_5 hx661_6 hx661_7 hx662_0 hx662_1 hx662_2 hx662_3 hx662_4 hx662_5 hx662_6 hx662_7 hHeld ⊢
   refine pq_ 0 17 HT_ #[ii,oo,oo,oo,oo,oo,oo,oo,oo,oo] ?_
   refine pq_ 1 18 HT_ #[ii,ii,oo,oo,oo,oo,oo,oo,oo,oo] ?_
   refine pq_ 2 19 HT_ #[ii,ii,ii,oo,oo,oo,oo,oo,oo,oo] ?_
   refine pq_ 4 21 HT_ #[ii,ii,ii,oo,ii,oo,oo,oo,oo,oo] ?_
   refine pq_ 5 22 HT_ #[ii,ii,ii,oo,ii,ii,oo,oo,oo,oo] ?_
   refine pq_ 6 23 HT_ #[ii,ii,ii,oo,ii,ii,ii,oo,oo,oo] ?_
   refine tz_ (i := 3) (N := some 20) HT_ HW_ #[ii,ii,ii,ii,ii,ii,ii,oo,oo,oo] rfl rfl hHeld ?_
   refine tz_ (i := 7) (N := some 24) HT_ HW_ #[ii,ii,ii,ii,ii,ii,ii,ii,oo,oo] rfl rfl hHeld ?_
   refine on_ HT_ (i := 8) (N := some 25) #[ii,ii,ii,ii,ii,ii,ii,ii,ii,oo] (fun K hK => ?_)
   refine goes_ Try.func36 (by kernel_rfl) rfl #[.agg #[.int .i64 ((rd_T41 l0 x5_1).f0), .int .i64 ((rd_T41 l0 x5_1).f1), .int .i64 ((rd_T41 l0 x5_1).f2), .bool ((rd_T41 l0 x5_1).f3), .slice A661_4 ((rd_T41 l0 x5_1).f4).length c661_4, .slice A661_5 ((rd_T41 l0 x5_1).f5).length c661_5, .int .i64 ((rd_T41 l0 x5_1).f6), .int .i64 ((rd_T41 l0 x5_1).f7)], .agg #[.int .i64 ((rd_T41 l1 x5_1).f0), .int .i64 ((rd_T41 l1 x5_1).f1), .int .i64 ((rd_T41 l1 x5_1).f2), .bool ((rd_T41 l1 x5_1).f3), .slice A662_4 ((rd_T41 l1 x5_1).f4).length c662_4, .slice A662_5 ((rd_T41 l1 x5_1).f5).length c662_5, .int .i64 ((rd_T41 l1 x5_1).f6), .int .i64 ((rd_T41 l1 x5_1).f7)]] (by rfl) rfl rfl la_ ?_
   with_reducible refine (laws_sameSock.calls ((rd_T41 l0 x5_1).f0) ((rd_T41 l0 x5_1).f1) ((rd_T41 l0 x5_1).f2) ((rd_T41 l0 x5_1).f3) _ _ ((rd_T41 l0 x5_1).f4) _ _ ((rd_T41 l0 x5_1).f5) ((rd_T41 l0 x5_1).f6) ((rd_T41 l0 x5_1).f7) ((rd_T41 l1 x5_1).f0) ((rd_T41 l1 x5_1).f1) ((rd_T41 l1 x5_1).f2) ((rd_T41 l1 x5_1).f3) _ _ ((rd_T41 l1 x5_1).f4) _ _ ((rd_T41 l1 x5_1).f5) ((rd_T41 l1 x5_1).f6) ((rd_T41 l1 x5_1).f7) t663 _ ?side1 ?side2 ?side3 ?side4 ?side5 ?side6 ?side7 ?side8 A7.out).mono ?_
   (case side1 => exact qC (Kd.C_below HR661_4.out HB.out))
   (case side2 => exact HC661_4.out)
   (case side3 => exact qC (Kd.C_below HR661_5.out HB.out))
   (case side4 => exact HC661_5.out)
   (case side5 => exact qC (Kd.C_below HR662_4.out HB.out))
   (case side6 => exact HC662_4.out)
   (case side7 => exact qC (Kd.C_below HR662_5.out HB.out))
   (case side8 => exact HC662_5.out)
   rintro e w10 ⟨rfl, hb⟩
   refine ⟨_, rfl, ?_⟩
   replace HB := bS_ HB hb
   (try clear hb)
   refine hK.out _ _ ⟨(lb_ HB hw661_0 :), (lb_ HB hw661_1 :), (lb_ HB hw661_2 :), (lb_ HB hw661_3 :), (lb_ HB hw661_4 :), (lb_ HB hw661_5 :), (lb_ HB hw661_6 :), (lb_ HB hw661_7 :), (lb_ HB hw662_0 :), (lb_ HB hw662_1 :), (lb_ HB hw662_2 :), (lb_ HB hw662_3 :), (lb_ HB hw662_4 :), (lb_ HB hw662_5 :), (lb_ HB hw662_6 :), (lb_ HB hw662_7 :)⟩ (fun hHeld => ?_)
   clear hK K
   refine nm_ (some 25) ?_
   refine pq_ 9 26 HT_ #[ii,ii,ii,ii,ii,ii,ii,ii,ii,ii] ?_
   refine done_ (done_of HT_.out (by kernel_rfl)) ?_
   go_upto_if 26 with (fail)
   have H := HC8.out
   clear HC8
   by_cases c11 : t663 = true
   rotate_left
   ·
    replace c11 := Bool.eq_false_iff.mpr c11
    subst c11
    rw [if_neg (show ¬ (false = true) by decide)] at H
    obtain rfl := Option.some.inj H
    go_wp2
    go_ret
    exact ⟨er_, qB HB⟩
   subst c11
   rw [if_pos rfl] at H
   have H' := Aside0.mk H
   clear H
   go_wp2
   go_roundg k1
   case measure => have := HK1.out; omega
   case rel => exact ⟨(wrap64 (x5_1 + 1)), eqq_, H', ⟨by have := HK1.out; omega⟩, ⟨qB HB⟩⟩

end Go.Proofs.Ytiffahfpfgnjnaa.PFnSocks
