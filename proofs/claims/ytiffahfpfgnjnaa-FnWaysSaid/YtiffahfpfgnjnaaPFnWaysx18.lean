-- Written by a program of this session (myprint.py, over the kit's print): contracts of FnWays
import Derived.Test.YtiffahfpfgnjnaaPFnWaysx0
import Derived.Test.YtiffahfpfgnjnaaPFnWaysx12
import Derived.Test.YtiffahfpfgnjnaaPFnWaysx13
import Derived.Test.YtiffahfpfgnjnaaPFnWaysx15
import Derived.Test.YtiffahfpfgnjnaaPFnWaysx16
namespace Go.Proofs.Ytiffahfpfgnjnaa.PFnWays
open Go.RowKit Go.Proofs.YtiffahfpfgnjnaaW.PrintWords Go.Proofs.YtiffahfpfgnjnaaW.PrintLast Go.Proofs.YtiffahfpfgnjnaaW.PrintMore Go.Proofs.YtiffahfpfgnjnaaV
attribute [local go_sem] max2_int min2_int max_two min_two max_three min_three max_four min_four   -- for this text's walks alone
set_option linter.unusedVariables false
set_option linter.unusedSimpArgs false

/-! ### impl_LineOk: function 18 -/
def impl_LineOk.j0 : Nat → Bool → Int → ByteArray → Int → Int → Int → Int → Int → Option (Bool)
 | 0, _, _, _, _, _, _, _, _ => none
 | k + 1, x18, x808000, x808001, x808002, x808003, x808004, x808005, x808006 => if x18 = true then (some false) else (if x808003 = 0 then ((impl_sinceOk.f x808004).bind fun t811 => (if t811 = true then (if x808005 = 0 then (some (x808006 == 0)) else (some false)) else (some false))) else (if x808003 = 1 then (if x808004 = 0 then ((impl_sockIdOk.f x808005).bind fun t812 => (if t812 = true then (some (decide (x808006 ≥ 1))) else (some false))) else (some false)) else (if x808003 = 2 then (if x808004 = 0 then ((impl_sockIdOk.f x808005).bind fun t813 => (if t813 = true then (some (decide (x808006 ≥ 1))) else (some false))) else (some false)) else (some false))))
def impl_LineOk.f (k : Nat) (a0_0 : Int) (a0_1 : ByteArray) (a0_2 : Int) (a0_3 : Int) (a0_4 : Int) (a0_5 : Int) (a0_6 : Int) : Option (Bool) := (impl_sockIdOk.f a0_0).bind fun t808 => (if t808 = true then ((impl_nameOk.f k a0_1).bind fun t809 => (if t809 = true then ((impl_isIn.f a0_2 1 60000).bind fun t810 => (impl_LineOk.j0 k (!t810) a0_0 a0_1 a0_2 a0_3 a0_4 a0_5 a0_6)) else (impl_LineOk.j0 k true a0_0 a0_1 a0_2 a0_3 a0_4 a0_5 a0_6))) else (impl_LineOk.j0 k true a0_0 a0_1 a0_2 a0_3 a0_4 a0_5 a0_6))
theorem impl_LineOk.mono_l : ∀ k, (∀ y0 y1 y2 y3 y4 y5 y6 y7, LeO (impl_LineOk.j0 k y0 y1 y2 y3 y4 y5 y6 y7) (impl_LineOk.j0 (k + 1) y0 y1 y2 y3 y4 y5 y6 y7))
 | 0 => fun _ _ _ _ _ _ _ _ r h => by simp [impl_LineOk.j0] at h
 | k + 1 => by
  have ih0 := impl_LineOk.mono_l k
  ·
   intro y0 y1 y2 y3 y4 y5 y6 y7
   unfold impl_LineOk.j0
   have m0 := @impl_nameOk.mono; exact mo_
theorem impl_LineOk.mono : ∀ a0 a1 a2 a3 a4 a5 a6 k, LeO (impl_LineOk.f k a0 a1 a2 a3 a4 a5 a6) (impl_LineOk.f (k + 1) a0 a1 a2 a3 a4 a5 a6) := by
 intro a0 a1 a2 a3 a4 a5 a6 k
 have ih0 := impl_LineOk.mono_l k
 unfold impl_LineOk.f
 have m0 := @impl_nameOk.mono; exact mo_
set_option maxHeartbeats 8000000 in
set_option maxRecDepth 100000 in
theorem impl_LineOk.calls (k : Nat) (a0_0 : Int) (a0_1 : ByteArray) (a0_2 : Int) (a0_3 : Int) (a0_4 : Int) (a0_5 : Int) (a0_6 : Int) (r : Bool) (w : World) (h : impl_LineOk.f k a0_0 a0_1 a0_2 a0_3 a0_4 a0_5 a0_6 = some r) :
  Calls Try.prog 18 #[.agg #[.int .i64 a0_0, .string a0_1, .int .i64 a0_2, .int .i64 a0_3, .int .i64 a0_4, .int .i64 a0_5, .int .i64 a0_6]] w fun e w' => e = .returned (.bool r) ∧ Below w.heap.size w w' := by
 have hu27 := Try.underlying27
 have HB := Aside0.mk (Below.refl w.heap.size w)
 have H := h
 unfold impl_LineOk.f at H
 clear h
 have HC2 := Aside0.mk H
 clear H
 go_enter Try.func18, Try.ntmps18
 go_upto_region 1 with (first | ((with_reducible refine gate_dst (N := 1) rfl ?_); refine bx_ (N := 1) (cs := #[.int .i64 a0_0, .string a0_1, .int .i64 a0_2, .int .i64 a0_3, .int .i64 a0_4, .int .i64 a0_5, .int .i64 a0_6]) (t := 27) ?_; intro gb807 hg w3 hbox hb; have BK807 := am_ (hbox); have GW807 := gA_ hg HB; have GE807 := GW807; have IGE807 := gI_ GE807; replace HB := bS_ HB hb; clear hb hbox hg))
 (try simp only [Act.put, List.setIfInBounds_toArray, List.set_cons_zero, List.set_cons_succ])
 go_cut [18] (fun v18 wc => ∃ (kq : Nat) (x18_1 : Bool), v18 = .bool x18_1 ∧ Aside0 (impl_LineOk.j0 kq x18_1 a0_0 a0_1 a0_2 a0_3 a0_4 a0_5 a0_6 = some r) ∧ Aside0 (kq ≤ k) ∧ Aside0 (wc.heap[gb807]? = some (.cells #[.int .i64 a0_0, .string a0_1, .int .i64 a0_2, .int .i64 a0_3, .int .i64 a0_4, .int .i64 a0_5, .int .i64 a0_6] 27 (0, 0))) ∧ Aside0 (Below w.heap.size w wc))
 case first =>
  have H := HC2.out
  clear HC2
  replace H := bd_ H
  obtain ⟨t808, A4, H⟩ := H
  by_cases c5 : t808 = true
  rotate_left
  ·
   replace c5 := Bool.eq_false_iff.mpr c5
   subst c5
   rw [if_neg (show ¬ (false = true) by decide)] at H
   have H' := Aside0.mk H
   clear H
   (try clear zK807)
   have zK807 := cz7 BK807.out
   go_wp2_with (first | ((with_reducible refine gate_callee (f := 79) rfl ?_); refine gl_ (some 5) Try.func79 #[.int .i64 a0_0] ?_; (with_reducible refine (impl_sockIdOk.calls a0_0 false _ A4.out).mono ?_); rintro e w' ⟨rfl, ⟨nd, rfl⟩⟩; refine ⟨_, rfl, ?_⟩))
   go_meet
   case rel => exact ⟨_, (true), eqq_, H', ⟨by first | omega | exact Nat.le_refl _⟩, ⟨qK BK807⟩, ⟨qB HB⟩⟩
  subst c5
  rw [if_pos rfl] at H
  replace H := bd_ H
  obtain ⟨t809, A6, H⟩ := H
  by_cases c7 : t809 = true
  rotate_left
  ·
   replace c7 := Bool.eq_false_iff.mpr c7
   subst c7
   rw [if_neg (show ¬ (false = true) by decide)] at H
   have H' := Aside0.mk H
   clear H
   (try clear zK807)
   have zK807 := cz7 BK807.out
   go_wp2_with (first | ((with_reducible refine gate_callee (f := 79) rfl ?_); refine gl_ (some 5) Try.func79 #[.int .i64 a0_0] ?_; (with_reducible refine (impl_sockIdOk.calls a0_0 true _ A4.out).mono ?_); rintro e w' ⟨rfl, ⟨nd, rfl⟩⟩; refine ⟨_, rfl, ?_⟩) | (go_at_call 80; (with_reducible refine (impl_nameOk.calls k a0_1 false _ A6.out).mono ?_); rintro e w' ⟨rfl, ⟨nd, rfl⟩⟩))
   go_meet
   case rel => exact ⟨_, (true), eqq_, H', ⟨by first | omega | exact Nat.le_refl _⟩, ⟨qK BK807⟩, ⟨qB HB⟩⟩
  subst c7
  rw [if_pos rfl] at H
  replace H := bd_ H
  obtain ⟨t810, A8, H⟩ := H
  have H' := Aside0.mk H
  clear H
  (try clear zK807)
  have zK807 := cz7 BK807.out
  go_wp2_with (first | ((with_reducible refine gate_callee (f := 79) rfl ?_); refine gl_ (some 5) Try.func79 #[.int .i64 a0_0] ?_; (with_reducible refine (impl_sockIdOk.calls a0_0 true _ A4.out).mono ?_); rintro e w' ⟨rfl, ⟨nd, rfl⟩⟩; refine ⟨_, rfl, ?_⟩) | (go_at_call 80; (with_reducible refine (impl_nameOk.calls k a0_1 true _ A6.out).mono ?_); rintro e w' ⟨rfl, ⟨nd, rfl⟩⟩) | (go_at_call 87; (with_reducible refine (impl_isIn.calls a0_2 1 60000 t810 _ A8.out).mono ?_); rintro e w' ⟨rfl, ⟨nd, rfl⟩⟩))
  go_meet
  case rel => exact ⟨_, (!t810), eqq_, H', ⟨by first | omega | exact Nat.le_refl _⟩, ⟨qK BK807⟩, ⟨qB HB⟩⟩
 case rest =>
  clear HC2
  try clear c1
  try clear p2
  try clear c5
  try clear c7
  (try clear zK807)
  (try clear zK807)
  (try clear zK807)
  (try clear f10)
  (try clear f11)
  (try clear f9)
  obtain ⟨kq, x18_1, rfl, HA, HJ1, BK807, HB⟩ := hcut
  cases kq with
  | zero => exact absurd HA.out (by simp [impl_LineOk.j0])
  | succ kj1 =>
   have H := HA.out
   clear HA
   simp only [impl_LineOk.j0] at H
   by_cases c12 : x18_1 = true
   ·
    subst c12
    rw [if_pos rfl] at H
    obtain rfl := Option.some.inj H
    go_wp2
    go_ret
    exact ⟨er_, qB HB⟩
   replace c12 := Bool.eq_false_iff.mpr c12
   subst c12
   rw [if_neg (show ¬ (false = true) by decide)] at H
   by_cases c13 : a0_3 = 0
   ·
    rw [if_pos c13] at H
    have c13b0 : (a0_3 == 0) = true := beq_iff_eq.mpr c13
    have c13b1 : (a0_3 != 0) = false := bne_eq_false_iff_eq.mpr c13
    clear c13
    replace H := bd_ H
    obtain ⟨t811, A14, H⟩ := H
    by_cases c15 : t811 = true
    rotate_left
    ·
     replace c15 := Bool.eq_false_iff.mpr c15
     subst c15
     rw [if_neg (show ¬ (false = true) by decide)] at H
     obtain rfl := Option.some.inj H
     (try clear zK807)
     have zK807 := cz7 BK807.out
     go_wp2_with (first | ((with_reducible refine gate_callee (f := 81) rfl ?_); refine gl_ (some 25) Try.func81 #[.int .i64 a0_4] ?_; (with_reducible refine (impl_sinceOk.calls a0_4 false _ A14.out).mono ?_); rintro e w' ⟨rfl, ⟨nd, rfl⟩⟩; refine ⟨_, rfl, ?_⟩))
     go_ret
     exact ⟨er_, qB HB⟩
    subst c15
    rw [if_pos rfl] at H
    by_cases c16 : a0_5 = 0
    rotate_left
    ·
     rw [if_neg c16] at H
     have c16b0 : (a0_5 == 0) = false := beq_eq_false_iff_ne.mpr c16
     have c16b1 : (a0_5 != 0) = true := bne_iff_ne.mpr c16
     obtain rfl := Option.some.inj H
     (try clear zK807)
     have zK807 := cz7 BK807.out
     go_wp2_with (first | ((with_reducible refine gate_callee (f := 81) rfl ?_); refine gl_ (some 25) Try.func81 #[.int .i64 a0_4] ?_; (with_reducible refine (impl_sinceOk.calls a0_4 true _ A14.out).mono ?_); rintro e w' ⟨rfl, ⟨nd, rfl⟩⟩; refine ⟨_, rfl, ?_⟩))
     go_ret
     exact ⟨er_, qB HB⟩
    rw [if_pos c16] at H
    have c16b0 : (a0_5 == 0) = true := beq_iff_eq.mpr c16
    have c16b1 : (a0_5 != 0) = false := bne_eq_false_iff_eq.mpr c16
    clear c16
    obtain rfl := Option.some.inj H
    (try clear zK807)
    have zK807 := cz7 BK807.out
    go_wp2_with (first | ((with_reducible refine gate_callee (f := 81) rfl ?_); refine gl_ (some 25) Try.func81 #[.int .i64 a0_4] ?_; (with_reducible refine (impl_sinceOk.calls a0_4 true _ A14.out).mono ?_); rintro e w' ⟨rfl, ⟨nd, rfl⟩⟩; refine ⟨_, rfl, ?_⟩))
    go_ret
    exact ⟨er_, qB HB⟩
   rw [if_neg c13] at H
   have c13b0 : (a0_3 == 0) = false := beq_eq_false_iff_ne.mpr c13
   have c13b1 : (a0_3 != 0) = true := bne_iff_ne.mpr c13
   by_cases c20 : a0_3 = 1
   ·
    rw [if_pos c20] at H
    have c20b0 : (a0_3 == 1) = true := beq_iff_eq.mpr c20
    have c20b1 : (a0_3 != 1) = false := bne_eq_false_iff_eq.mpr c20
    clear c20
    by_cases c21 : a0_4 = 0
    rotate_left
    ·
     rw [if_neg c21] at H
     have c21b0 : (a0_4 == 0) = false := beq_eq_false_iff_ne.mpr c21
     have c21b1 : (a0_4 != 0) = true := bne_iff_ne.mpr c21
     obtain rfl := Option.some.inj H
     (try clear zK807)
     have zK807 := cz7 BK807.out
     go_wp2
     go_ret
     exact ⟨er_, qB HB⟩
    rw [if_pos c21] at H
    have c21b0 : (a0_4 == 0) = true := beq_iff_eq.mpr c21
    have c21b1 : (a0_4 != 0) = false := bne_eq_false_iff_eq.mpr c21
    clear c21
    replace H := bd_ H
    obtain ⟨t812, A22, H⟩ := H
    by_cases c23 : t812 = true
    ·
     subst c23
     rw [if_pos rfl] at H
     obtain rfl := Option.some.inj H
     (try clear zK807)
     have zK807 := cz7 BK807.out
     go_wp2_with (first | (go_at_call 79; (with_reducible refine (impl_sockIdOk.calls a0_5 true _ A22.out).mono ?_); rintro e w' ⟨rfl, ⟨nd, rfl⟩⟩))
     go_ret
     exact ⟨er_, qB HB⟩
    replace c23 := Bool.eq_false_iff.mpr c23
    subst c23
    rw [if_neg (show ¬ (false = true) by decide)] at H
    obtain rfl := Option.some.inj H
    (try clear zK807)
    have zK807 := cz7 BK807.out
    go_wp2_with (first | (go_at_call 79; (with_reducible refine (impl_sockIdOk.calls a0_5 false _ A22.out).mono ?_); rintro e w' ⟨rfl, ⟨nd, rfl⟩⟩))
    go_ret
    exact ⟨er_, qB HB⟩
   rw [if_neg c20] at H
   have c20b0 : (a0_3 == 1) = false := beq_eq_false_iff_ne.mpr c20
   have c20b1 : (a0_3 != 1) = true := bne_iff_ne.mpr c20
   by_cases c27 : a0_3 = 2
   rotate_left
   ·
    rw [if_neg c27] at H
    have c27b0 : (a0_3 == 2) = false := beq_eq_false_iff_ne.mpr c27
    have c27b1 : (a0_3 != 2) = true := bne_iff_ne.mpr c27
    obtain rfl := Option.some.inj H
    (try clear zK807)
    have zK807 := cz7 BK807.out
    go_wp2
    go_ret
    exact ⟨er_, qB HB⟩
   rw [if_pos c27] at H
   have c27b0 : (a0_3 == 2) = true := beq_iff_eq.mpr c27
   have c27b1 : (a0_3 != 2) = false := bne_eq_false_iff_eq.mpr c27
   clear c27
   by_cases c28 : a0_4 = 0
   rotate_left
   ·
    rw [if_neg c28] at H
    have c28b0 : (a0_4 == 0) = false := beq_eq_false_iff_ne.mpr c28
    have c28b1 : (a0_4 != 0) = true := bne_iff_ne.mpr c28
    obtain rfl := Option.some.inj H
    (try clear zK807)
    have zK807 := cz7 BK807.out
    go_wp2
    go_ret
    exact ⟨er_, qB HB⟩
   rw [if_pos c28] at H
   have c28b0 : (a0_4 == 0) = true := beq_iff_eq.mpr c28
   have c28b1 : (a0_4 != 0) = false := bne_eq_false_iff_eq.mpr c28
   clear c28
   replace H := bd_ H
   obtain ⟨t813, A29, H⟩ := H
   by_cases c30 : t813 = true
   ·
    subst c30
    rw [if_pos rfl] at H
    obtain rfl := Option.some.inj H
    (try clear zK807)
    have zK807 := cz7 BK807.out
    go_wp2_with (first | (go_at_call 79; (with_reducible refine (impl_sockIdOk.calls a0_5 true _ A29.out).mono ?_); rintro e w' ⟨rfl, ⟨nd, rfl⟩⟩))
    go_ret
    exact ⟨er_, qB HB⟩
   replace c30 := Bool.eq_false_iff.mpr c30
   subst c30
   rw [if_neg (show ¬ (false = true) by decide)] at H
   obtain rfl := Option.some.inj H
   (try clear zK807)
   have zK807 := cz7 BK807.out
   go_wp2_with (first | (go_at_call 79; (with_reducible refine (impl_sockIdOk.calls a0_5 false _ A29.out).mono ?_); rintro e w' ⟨rfl, ⟨nd, rfl⟩⟩))
   go_ret
   exact ⟨er_, qB HB⟩

/-! ### impl_PutText: function 66 -/
def impl_PutText.f (k : Nat) (l0 : List Int) (a1 : ByteArray) : Option (List Int) := (slices_Clone_byte.f l0).bind fun t814 => ((impl_TextOk.f k a1).bind fun t817 => (if t817 = true then (if t814.length < 140737488355328 then ((some (t814 ++ [((a1.size : Int)) % 256] : List Int)).bind fun y818 => (if y818.length + a1.size < 140737488355328 then (some (y818 ++ bytesOf a1)) else (none))) else (none)) else (some t814)))
theorem impl_PutText.mono : ∀ a0 a1 k, LeO (impl_PutText.f k a0 a1) (impl_PutText.f (k + 1) a0 a1) := by
 intro a0 a1 k
 unfold impl_PutText.f
 have m0 := @impl_TextOk.mono; exact mo_
set_option maxHeartbeats 8000000 in
set_option maxRecDepth 100000 in
theorem impl_PutText.calls (k : Nat) (A0 : Option Addr) (c0 : Nat) (l0 : List Int) (a1 : ByteArray) (r : List Int) (w : World) (hr0 : Kd.C (Kd.int .u8) w A0 l0.length l0) (hc0 : l0.length ≤ c0) (h : impl_PutText.f k l0 a1 = some r) :
  Calls Try.prog 66 #[.slice A0 l0.length c0, .string a1] w fun e w' => ∃ v0_ : Value, e = .returned (v0_) ∧ Kd.R (Kd.int .u8) 5 w' w.heap.size (fun _ => True) v0_ r ∧ Below w.heap.size w w' := by
 have HR0 := Aside0.mk hr0
 have HC0 := Aside0.mk hc0
 clear hr0 hc0
 have HB := Aside0.mk (Below.refl w.heap.size w)
 have H := h
 unfold impl_PutText.f at H
 clear h
 replace H := bd_ H
 obtain ⟨t814, A3, H⟩ := H
 replace H := bd_ H
 obtain ⟨t817, A4, H⟩ := H
 have HC5 := Aside0.mk H
 clear H
 go_enter Try.func66, Try.ntmps66
 go_upto_if 10 with (first | ((with_reducible refine gate_callee (f := 118) rfl ?_); refine gl_ (some 7) Try.func118 #[.slice A0 l0.length c0] ?_; (with_reducible refine (slices_Clone_byte.calls _ _ l0 t814 _ ?side1 ?side2 A3.out).mono ?_); (case side1 => exact qC (HR0.out)); (case side2 => exact HC0.out); rintro e w6 ⟨v815, rfl, ho0, hb⟩; refine ⟨_, rfl, ?_⟩; have HO816 := am_ (Kd.R_lower ho0 (below_size (qB HB))); replace HB := bS_ HB hb; (try clear hb); (try clear ho0)) | ((with_reducible refine gate_callee (f := 82) rfl ?_); refine gl_ (some 9) Try.func82 #[.string a1] ?_; (with_reducible refine (impl_TextOk.calls k a1 t817 _ A4.out).mono ?_); rintro e w' ⟨rfl, ⟨nd, rfl⟩⟩; refine ⟨_, rfl, ?_⟩))
 (try simp only [Act.put, List.setIfInBounds_toArray, List.set_cons_zero, List.set_cons_succ])
 (try (rw [drewN_self w6]; generalize hq_ : World.drewN w6 _ = w6; have n0_ : Aside0 (Kd.R (Kd.int .u8) 5 w6 w.heap.size (fun _ => True) v815 t814) := ⟨by rw [← hq_]; exact (qR HO816)⟩; have n1_ : Aside0 (Below w.heap.size w w6) := ⟨by rw [← hq_]; exact (qB HB)⟩; clear HO816 HB hq_; have HO816 := n0_; have HB := n1_; clear n0_ n1_))
 have H := HC5.out
 clear HC5
 by_cases c7 : t817 = true
 rotate_left
 ·
  replace c7 := Bool.eq_false_iff.mpr c7
  subst c7
  rw [if_neg (show ¬ (false = true) by decide)] at H
  obtain rfl := Option.some.inj H
  go_wp2
  go_ret
  exact ⟨_, er_, qR HO816, qB HB⟩
 subst c7
 rw [if_pos rfl] at H
 by_cases c8 : t814.length < 140737488355328
 case neg => exact nn_ c8 H
 rw [if_pos c8] at H
 have LMc8 := Aside0.mk c8
 clear c8
 obtain ⟨y818, hy818⟩ : ∃ y_ : List Int, y_ = (t814 ++ [((a1.size : Int)) % 256]) := ⟨_, rfl⟩
 replace H := mk_ H hy818
 (try dsimp only at H)
 have Ny818 := Aside0.mk hy818
 clear hy818
 by_cases c9 : y818.length + a1.size < 140737488355328
 case neg => exact nn_ c9 H
 rw [if_pos c9] at H
 have LMc9 := Aside0.mk c9
 clear c9
 obtain ⟨y821, hy821⟩ : ∃ y_ : List Int, y_ = (y818 ++ bytesOf a1) := ⟨_, rfl⟩
 rw [← hy821] at H
 have Ny821 := Aside0.mk hy821
 clear hy821
 obtain rfl := Option.some.inj H
 go_wp2_with (first | ((with_reducible refine gate_builtin (b := .append) (xs := #[.tmp 12, .tmp 16]) rfl ?_); at_builtin; refine Kd.R_append (Kd.int .u8) (w0 := w) w.heap.size rfl (.tmp 12) (.tmp 16) 22 5 (.int .u8 0) 1 rfl Try.underlying22 info5 rfl (by decide) (by omega) v815 t814 (((a1.size : Int)) % 256) [.int .u8 (((a1.size : Int)) % 256)] (fun _ => True) (fun _ => False) rfl rfl ?aP (fun _ hk => hk.elim) ?aF ?aO ?aB ?aS ?aL ?_; (case aP => exact rfl); (case aB => exact (qB HB)); (case aF => exact (fun _ _ => trivial)); (case aO => exact (qR HO816)); (case aS => exact (below_size (qB HB))); (case aL => have := LMc8.out; omega); intro v819 w10 ho hb hg hat; rw [← Ny818.out] at ho; replace HB := am_ (hb); have HO820 := am_ (ho); clear HO816; clear ho hb hg hat) | (at_builtin; refine print_append_str (w0 := w) w.heap.size rfl (.tmp 17) _ 22 9 5 rfl Try.underlying22 Try.underlying9 info5 v819 y818 a1 rfl rfl ?aO ?aB ?aS ?aL ?_; (case aB => exact (qB HB)); (case aO => exact (Kd.own_of_R (qR HO820))); (case aS => exact (below_size (qB HB))); (case aL => have := LMc9.out; omega); intro v822 w11 ho0 hb hg; have ho := Kd.R_of_own (h1 := fun _ => rfl) (ok := fun _ => True) ho0 (fun _ _ => trivial); clear ho0; have hat := True.intro; rw [← Ny821.out] at ho; change Kd.R (Kd.int .u8) 5 w11 w.heap.size (fun _ => True) v822 y821 at ho; replace HB := am_ (hb); have HO823 := am_ (ho); clear HO820; clear ho hb hg hat))
 go_ret
 exact ⟨_, er_, qR HO823, qB HB⟩

/-! ### impl_PutWord: function 67 -/
def impl_PutWord.f (l0 : List Int) (a1 : Int) : Option (List Int) := (slices_Clone_byte.f l0).bind fun t824 => ((some (([(a1 / 256) % 256, (a1) % 256] : List Int) : List Int)).bind fun y827 => (if t824.length + y827.length < 140737488355328 then (some (t824 ++ y827)) else (none)))
set_option maxHeartbeats 8000000 in
set_option maxRecDepth 100000 in
theorem impl_PutWord.calls (A0 : Option Addr) (c0 : Nat) (l0 : List Int) (a1 : Int) (r : List Int) (w : World) (hr0 : Kd.C (Kd.int .u8) w A0 l0.length l0) (hc0 : l0.length ≤ c0) (h : impl_PutWord.f l0 a1 = some r) :
  Calls Try.prog 67 #[.slice A0 l0.length c0, .int .i64 a1] w fun e w' => ∃ v0_ : Value, e = .returned (v0_) ∧ Kd.R (Kd.int .u8) 5 w' w.heap.size (fun _ => True) v0_ r ∧ Below w.heap.size w w' := by
 have HR0 := Aside0.mk hr0
 have HC0 := Aside0.mk hc0
 clear hr0 hc0
 have HB := Aside0.mk (Below.refl w.heap.size w)
 have H := h
 unfold impl_PutWord.f at H
 clear h
 replace H := bd_ H
 obtain ⟨t824, A3, H⟩ := H
 obtain ⟨y827, hy827⟩ : ∃ y_ : List Int, y_ = (([(a1 / 256) % 256, (a1) % 256] : List Int)) := ⟨_, rfl⟩
 replace H := mk_ H hy827
 (try dsimp only at H)
 have Ny827 := Aside0.mk hy827
 clear hy827
 by_cases c4 : t824.length + y827.length < 140737488355328
 case neg => exact nn_ c4 H
 rw [if_pos c4] at H
 have LMc4 := Aside0.mk c4
 clear c4
 obtain ⟨y830, hy830⟩ : ∃ y_ : List Int, y_ = (t824 ++ y827) := ⟨_, rfl⟩
 replace H : (some y830) = some r := by first | (rw [hy830]; with_reducible exact H) | (have H2_ := (Option.bind_some _ _).symm.trans H; rw [hy830]; with_reducible exact H2_) | (have H2_ := (Option.bind_some _ _).symm.trans H; with_reducible exact H2_) | with_reducible exact H | (rw [hy830]; exact H) | exact H
 have Ny830 := Aside0.mk hy830
 clear hy830
 obtain rfl := Option.some.inj H
 go_enter Try.func67, Try.ntmps67
 go_wp2_with (first | ((with_reducible refine gate_callee (f := 118) rfl ?_); refine gl_ (some 6) Try.func118 #[.slice A0 l0.length c0] ?_; (with_reducible refine (slices_Clone_byte.calls _ _ l0 t824 _ ?side1 ?side2 A3.out).mono ?_); (case side1 => exact qC (HR0.out)); (case side2 => exact HC0.out); rintro e w5 ⟨v825, rfl, ho0, hb⟩; refine ⟨_, rfl, ?_⟩; have HO826 := am_ (Kd.R_lower ho0 (below_size (qB HB))); replace HB := bS_ HB hb; (try clear hb); (try clear ho0)) | ((with_reducible refine gate_dst (N := 12) rfl ?_); refine Kd.R_lit (Kd.int .u8) _ 5 ?hg (N := 12) ?hd (xs := ([(a1 / 256) % 256, (a1) % 256] : List Int)) (inner := [.int .u8 ((a1 / 256) % 256), .int .u8 ((a1) % 256)]) (ok := fun _ => True) (okp := fun _ => True) ?hr ?hp (fun _ hk => hk) trivial (Below.refl _ _) (Nat.le_refl _) (by simp) ?_; (case hd => rfl); (case hg => rfl); (case hr => first | (go_simp; done) | (go_simp; rfl)); (case hp => exact (Reps.one (show Kd.M (Kd.int .u8) _ _ _ ((a1 / 256) % 256) [.int .u8 ((a1 / 256) % 256)] from rfl) (Reps.one (show Kd.M (Kd.int .u8) _ _ _ ((a1) % 256) [.int .u8 ((a1) % 256)] from rfl) (Reps.none _ _)))); intro v828 w6 ho7 hb hg_ hnew_; clear hg_ hnew_; (first | rw [← Ny827.out] at ho7 | (simp only [Int.reduceToNat] at ho7; rw [← Ny827.out] at ho7)); have HO829 := am_ (Kd.R_lower (Kd.R_new' ho7 (Kd.R_lt (qR HO826))) (below_size (qB HB))); replace HO826 := eA_ HO826 ho7 hb; replace HB := bS_ HB hb; clear hb ho7; obtain ⟨Ao9, co9, eo9⟩ := Kd.R_slice HO829.out; subst eo9) | ((with_reducible refine gate_builtin (b := .append) (xs := #[.tmp 6, .tmp 12]) rfl ?_); at_builtin; refine Kd.R_append_rows (Kd.int .u8) (w0 := w) w.heap.size rfl (.tmp 6) (.tmp 12) 22 5 (.int .u8 0) 1 rfl Try.underlying22 info5 rfl (by decide) (by omega) v825 t824 y827 _ _ _ (fun k_ => some k_ ≠ (.slice Ao9 y827.length co9 : Value).ownBlock) (fun _ => False) rfl rfl ?aO ?aR (fun _ _ h => h) (fun _ h => h.elim) ?aF ?aB ?aS ?aL ?_; (case aR => exact qC ((Kd.R_reads' HO829.out).2.2)); (case aB => exact (qB HB)); (case aF => exact (fun k_ hk => Kd.fresh' (Kd.R_lt (qR HO829)) k_ hk)); (case aO => exact (tR (Kd.R_mono HO826.out (fun _ hk => hk.2)))); (case aS => exact (below_size (qB HB))); (case aL => have := LMc4.out; omega); intro v831 w8 ho hb hg hat; rw [← Ny830.out] at ho; replace HO829 := am_ (Kd.R_after (ok := (fun _ => True)) (qR HO829) hg hat); replace HB := am_ (hb); have HO832 := am_ (ho); clear HO826; clear ho hb hg hat))
 go_ret
 exact ⟨_, er_, by (with_reducible repeat (first | apply Kd.R_alloc | apply Kd.R_drewN | apply Kd.R_drew)); exact Kd.R_mono HO832.out (fun _ hk => trivial), qB HB⟩

/-! ### impl_putSince: function 68 -/
def impl_putSince.f (l0 : List Int) (a1 : Int) : Option (List Int) := (impl_PutWord.f l0 (wrap64 (Int.tdiv a1 256))).bind fun t833 => (if t833.length < 140737488355328 then (some (t833 ++ [(Int.tmod a1 256) % 256])) else (none))
set_option maxHeartbeats 8000000 in
set_option maxRecDepth 100000 in
theorem impl_putSince.calls (A0 : Option Addr) (c0 : Nat) (l0 : List Int) (a1 : Int) (r : List Int) (w : World) (hr0 : Kd.C (Kd.int .u8) w A0 l0.length l0) (hc0 : l0.length ≤ c0) (h : impl_putSince.f l0 a1 = some r) :
  Calls Try.prog 68 #[.slice A0 l0.length c0, .int .i64 a1] w fun e w' => ∃ v0_ : Value, e = .returned (v0_) ∧ Kd.R (Kd.int .u8) 5 w' w.heap.size (fun _ => True) v0_ r ∧ Below w.heap.size w w' := by
 have HR0 := Aside0.mk hr0
 have HC0 := Aside0.mk hc0
 clear hr0 hc0
 have HB := Aside0.mk (Below.refl w.heap.size w)
 have H := h
 unfold impl_putSince.f at H
 clear h
 replace H := bd_ H
 obtain ⟨t833, A3, H⟩ := H
 by_cases c4 : t833.length < 140737488355328
 case neg => exact nn_ c4 H
 rw [if_pos c4] at H
 have LMc4 := Aside0.mk c4
 clear c4
 obtain ⟨y836, hy836⟩ : ∃ y_ : List Int, y_ = (t833 ++ [(Int.tmod a1 256) % 256]) := ⟨_, rfl⟩
 rw [← hy836] at H
 have Ny836 := Aside0.mk hy836
 clear hy836
 obtain rfl := Option.some.inj H
 go_enter Try.func68, Try.ntmps68
 go_wp2_with (first | ((with_reducible refine gate_callee (f := 67) rfl ?_); refine gl_ (some 8) Try.func67 #[.slice A0 l0.length c0, .int .i64 (wrap64 (Int.tdiv a1 256))] ?_; (with_reducible refine (impl_PutWord.calls _ _ l0 (wrap64 (Int.tdiv a1 256)) t833 _ ?side1 ?side2 A3.out).mono ?_); (case side1 => exact qC (HR0.out)); (case side2 => exact HC0.out); rintro e w5 ⟨v834, rfl, ho0, hb⟩; refine ⟨_, rfl, ?_⟩; have HO835 := am_ (Kd.R_lower ho0 (below_size (qB HB))); replace HB := bS_ HB hb; (try clear hb); (try clear ho0)) | ((with_reducible refine gate_builtin (b := .append) (xs := #[.tmp 8, .tmp 12]) rfl ?_); at_builtin; refine Kd.R_append (Kd.int .u8) (w0 := w) w.heap.size rfl (.tmp 8) (.tmp 12) 22 5 (.int .u8 0) 1 rfl Try.underlying22 info5 rfl (by decide) (by omega) v834 t833 ((Int.tmod a1 256) % 256) [.int .u8 ((Int.tmod a1 256) % 256)] (fun _ => True) (fun _ => False) rfl rfl ?aP (fun _ hk => hk.elim) ?aF ?aO ?aB ?aS ?aL ?_; (case aP => exact rfl); (case aB => exact (qB HB)); (case aF => exact (fun _ _ => trivial)); (case aO => exact (qR HO835)); (case aS => exact (below_size (qB HB))); (case aL => have := LMc4.out; omega); intro v837 w6 ho hb hg hat; rw [← Ny836.out] at ho; replace HB := am_ (hb); have HO838 := am_ (ho); clear HO835; clear ho hb hg hat))
 go_ret
 exact ⟨_, er_, qR HO838, qB HB⟩

end Go.Proofs.Ytiffahfpfgnjnaa.PFnWays
