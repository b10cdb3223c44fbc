-- Written by a program of this session (myprint.py, over the kit's print): contracts of FnFar
import Derived.Test.YtaimfkfpglhijaaPFnFarx0
import Derived.Test.YtaimfkfpglhijaaPFnFarx2
import Derived.Test.YtaimfkfpglhijaaPFnFarx3
namespace Go.Proofs.Ytaimfkfpglhijaa.PFnFar
open Go.RowKit Go.Proofs.YtaimfkfpglhijaaW.PrintWords Go.Proofs.YtaimfkfpglhijaaW.PrintLast Go.Proofs.YtaimfkfpglhijaaW.PrintMore Go.Proofs.YtaimfkfpglhijaaV
attribute [local go_sem] max2_int min2_int max_two min_two max_three min_three max_four min_four   -- for this text's walks alone
set_option linter.unusedVariables false
set_option linter.unusedSimpArgs false

/-! ### spec_SockOk: function 42 -/
def spec_SockOk.j0 : Nat → Bool → Int → Int → Int → Bool → List Int → List Int → Int → Int → Option (Bool)
 | 0, _, _, _, _, _, _, _, _, _ => none
 | k + 1, x24, x542000, x542001, x542002, x542003, x542004, x542005, x542006, x542007 => if x24 = true then (some false) else (if x542001 = 1 then (if x542006 = 0 then (some (x542007 == 0)) else (some false)) else ((spec_l1In.f x542006 0 2).bind fun t545 => (if t545 = true then ((spec_l1In.f x542007 0 (x542005.length : Int)).bind fun t546 => (some t546)) else (some false))))
def spec_SockOk.f (k : Nat) (a0_0 : Int) (a0_1 : Int) (a0_2 : Int) (a0_3 : Bool) (l0_4 : List Int) (l0_5 : List Int) (a0_6 : Int) (a0_7 : Int) : Option (Bool) := (spec_l1In.f a0_0 1 9999).bind fun t542 => (if t542 = true then ((spec_l1In.f a0_1 1 2).bind fun t543 => (if t543 = true then ((spec_l1In.f a0_2 1 3).bind fun t544 => (if t544 = true then (spec_SockOk.j0 k (decide ((l0_4.length : Int) > 240)) a0_0 a0_1 a0_2 a0_3 l0_4 l0_5 a0_6 a0_7) else (spec_SockOk.j0 k true a0_0 a0_1 a0_2 a0_3 l0_4 l0_5 a0_6 a0_7))) else (spec_SockOk.j0 k true a0_0 a0_1 a0_2 a0_3 l0_4 l0_5 a0_6 a0_7))) else (spec_SockOk.j0 k true a0_0 a0_1 a0_2 a0_3 l0_4 l0_5 a0_6 a0_7))
theorem spec_SockOk.mono_l : ∀ k, (∀ y0 y1 y2 y3 y4 y5 y6 y7 y8, LeO (spec_SockOk.j0 k y0 y1 y2 y3 y4 y5 y6 y7 y8) (spec_SockOk.j0 (k + 1) y0 y1 y2 y3 y4 y5 y6 y7 y8))
 | 0 => fun _ _ _ _ _ _ _ _ _ r h => by simp [spec_SockOk.j0] at h
 | k + 1 => by
  have ih0 := spec_SockOk.mono_l k
  ·
   intro y0 y1 y2 y3 y4 y5 y6 y7 y8
   unfold spec_SockOk.j0
   repeat' first
   | (with_reducible exact ih0 _ _ _ _ _ _ _ _ _)
   | (with_reducible exact LeO.refl _)
   | (with_reducible exact LeO.none _)
   | (with_reducible refine LeO.ite ?_ ?_)
   | (with_reducible refine LeO.bind ?_ (fun _ => ?_))
   | exact ih0 _ _ _ _ _ _ _ _ _
   | exact LeO.none _
   | refine LeO.ite ?_ ?_
   | refine LeO.bind ?_ (fun _ => ?_)
theorem spec_SockOk.mono : ∀ a0 a1 a2 a3 a4 a5 a6 a7 k, LeO (spec_SockOk.f k a0 a1 a2 a3 a4 a5 a6 a7) (spec_SockOk.f (k + 1) a0 a1 a2 a3 a4 a5 a6 a7) := by
 intro a0 a1 a2 a3 a4 a5 a6 a7 k
 have ih0 := spec_SockOk.mono_l k
 unfold spec_SockOk.f
 repeat' first
   | (with_reducible exact ih0 _ _ _ _ _ _ _ _ _)
   | (with_reducible exact LeO.refl _)
   | (with_reducible exact LeO.none _)
   | (with_reducible refine LeO.ite ?_ ?_)
   | (with_reducible refine LeO.bind ?_ (fun _ => ?_))
   | exact ih0 _ _ _ _ _ _ _ _ _
   | exact LeO.none _
   | refine LeO.ite ?_ ?_
   | refine LeO.bind ?_ (fun _ => ?_)
set_option maxHeartbeats 8000000 in
set_option maxRecDepth 100000 in
theorem spec_SockOk.calls (k : Nat) (a0_0 : Int) (a0_1 : Int) (a0_2 : Int) (a0_3 : Bool) (A0_4 : Option Addr) (c0_4 : Nat) (l0_4 : List Int) (A0_5 : Option Addr) (c0_5 : Nat) (l0_5 : List Int) (a0_6 : Int) (a0_7 : Int) (r : Bool) (w : World) (hr0_4 : Kd.C (Kd.int .u8) w A0_4 l0_4.length l0_4) (hc0_4 : l0_4.length ≤ c0_4) (hr0_5 : Kd.C (Kd.int .u8) w A0_5 l0_5.length l0_5) (hc0_5 : l0_5.length ≤ c0_5) (h : spec_SockOk.f k a0_0 a0_1 a0_2 a0_3 l0_4 l0_5 a0_6 a0_7 = some r) :
  Calls Try.prog 42 #[.agg #[.int .i64 a0_0, .int .i64 a0_1, .int .i64 a0_2, .bool a0_3, .slice A0_4 l0_4.length c0_4, .slice A0_5 l0_5.length c0_5, .int .i64 a0_6, .int .i64 a0_7]] w fun e w' => e = .returned (.bool r) ∧ Below w.heap.size w w' := by
 have hu41 := Try.underlying41
 have HR0_4 := Aside0.mk hr0_4
 have HC0_4 := Aside0.mk hc0_4
 clear hr0_4 hc0_4
 have HR0_5 := Aside0.mk hr0_5
 have HC0_5 := Aside0.mk hc0_5
 clear hr0_5 hc0_5
 have HB := Aside0.mk (Below.refl w.heap.size w)
 have H : ((spec_l1In.f a0_0 1 9999).bind fun t542 => (if t542 = true then ((spec_l1In.f a0_1 1 2).bind fun t543 => (if t543 = true then ((spec_l1In.f a0_2 1 3).bind fun t544 => (if t544 = true then (spec_SockOk.j0 k (decide ((l0_4.length : Int) > 240)) a0_0 a0_1 a0_2 a0_3 l0_4 l0_5 a0_6 a0_7) else (spec_SockOk.j0 k true a0_0 a0_1 a0_2 a0_3 l0_4 l0_5 a0_6 a0_7))) else (spec_SockOk.j0 k true a0_0 a0_1 a0_2 a0_3 l0_4 l0_5 a0_6 a0_7))) else (spec_SockOk.j0 k true a0_0 a0_1 a0_2 a0_3 l0_4 l0_5 a0_6 a0_7))) = some r := h
 clear h
 have HC2 := Aside0.mk H
 clear H
 go_enter Try.func42, Try.ntmps42
 go_upto_region 1 with (first | ((with_reducible refine gate_dst (N := 1) rfl ?_); (try (refine gate_guard (by rfl) ?_; dsimp only)); refine box_event ?hg (N := 1) ?hd (cs := #[.int .i64 a0_0, .int .i64 a0_1, .int .i64 a0_2, .bool a0_3, .slice A0_4 l0_4.length c0_4, .slice A0_5 l0_5.length c0_5, .int .i64 a0_6, .int .i64 a0_7]) (t := 41) ?hr ?_; (case hd => rfl); (case hg => rfl); (case hr => first | (go_simp; done) | (go_simp; rfl)); intro gb541 hg w3 hbox hb; have BK541 := am_ (hbox); have GW541 := am_ ((gG_ hg (qB HB))); have IGW541 := gI_ GW541; have GE541 := am_ ((gG_ hg (qB HB))); have IGE541 := gI_ GE541; replace HB := am_ (below_step (qB HB) hb); clear hb hbox hg))
 (try simp only [Act.put, List.setIfInBounds_toArray, List.set_cons_zero, List.set_cons_succ])
 go_cut [24] (fun v24 wc => ∃ (kq : Nat) (x24_1 : Bool), v24 = .bool x24_1 ∧ Aside0 (spec_SockOk.j0 kq x24_1 a0_0 a0_1 a0_2 a0_3 l0_4 l0_5 a0_6 a0_7 = some r) ∧ Aside0 (kq ≤ k) ∧ Aside0 (wc.heap[gb541]? = some (.cells #[.int .i64 a0_0, .int .i64 a0_1, .int .i64 a0_2, .bool a0_3, (.slice A0_4 l0_4.length c0_4), (.slice A0_5 l0_5.length c0_5), .int .i64 a0_6, .int .i64 a0_7] 41 (0, 0))) ∧ Aside0 (Below w.heap.size w wc))
 case first =>
  have H := HC2.out
  clear HC2
  obtain ⟨t542, A4, H⟩ := bd_ H
  by_cases c5 : t542 = true
  ·
   subst c5
   rw [if_pos rfl] at H
   obtain ⟨t543, A6, H⟩ := bd_ H
   by_cases c7 : t543 = true
   ·
    subst c7
    rw [if_pos rfl] at H
    obtain ⟨t544, A8, H⟩ := bd_ H
    by_cases c9 : t544 = true
    ·
     subst c9
     rw [if_pos rfl] at H
     have H' := Aside0.mk H
     clear H
     obtain ⟨z10_0, z10_1, z10_2, z10_3, z10_4, z10_5, z10_6, z10_7⟩ := cz8 BK541.out
     obtain ⟨f10_0, f10_1, f10_2, f10_3, f10_4, f10_5, f10_6, f10_7⟩ := fz8 BK541.out
     go_wp2_with (first | ((with_reducible refine gate_callee (f := 117) rfl ?_); refine goesL_ (some 5) rfl rfl Try.func117 (by kernel_rfl) rfl #[.int .i64 a0_0, .int .i64 1, .int .i64 9999] rfl la_ ?_; (with_reducible refine (spec_l1In.calls a0_0 1 9999 true _ A4.out).mono ?_); rintro e w' ⟨rfl, ⟨nd, rfl⟩⟩; refine ⟨_, rfl, ?_⟩) | (go_at_call 117; (with_reducible refine (spec_l1In.calls a0_1 1 2 true _ A6.out).mono ?_); rintro e w' ⟨rfl, ⟨nd, rfl⟩⟩) | (go_at_call 117; (with_reducible refine (spec_l1In.calls a0_2 1 3 true _ A8.out).mono ?_); rintro e w' ⟨rfl, ⟨nd, rfl⟩⟩))
     go_meet
     case rel => exact ⟨_, (decide ((l0_4.length : Int) > 240)), eqq_, H', ⟨by first | omega | exact Nat.le_refl _⟩, ⟨qK BK541⟩, ⟨qB HB⟩⟩
    ·
     replace c9 := Bool.eq_false_iff.mpr c9
     subst c9
     rw [if_neg (show ¬ (false = true) by decide)] at H
     have H' := Aside0.mk H
     clear H
     obtain ⟨z11_0, z11_1, z11_2, z11_3, z11_4, z11_5, z11_6, z11_7⟩ := cz8 BK541.out
     obtain ⟨f11_0, f11_1, f11_2, f11_3, f11_4, f11_5, f11_6, f11_7⟩ := fz8 BK541.out
     go_wp2_with (first | ((with_reducible refine gate_callee (f := 117) rfl ?_); refine goesL_ (some 5) rfl rfl Try.func117 (by kernel_rfl) rfl #[.int .i64 a0_0, .int .i64 1, .int .i64 9999] rfl la_ ?_; (with_reducible refine (spec_l1In.calls a0_0 1 9999 true _ A4.out).mono ?_); rintro e w' ⟨rfl, ⟨nd, rfl⟩⟩; refine ⟨_, rfl, ?_⟩) | (go_at_call 117; (with_reducible refine (spec_l1In.calls a0_1 1 2 true _ A6.out).mono ?_); rintro e w' ⟨rfl, ⟨nd, rfl⟩⟩) | (go_at_call 117; (with_reducible refine (spec_l1In.calls a0_2 1 3 false _ A8.out).mono ?_); rintro e w' ⟨rfl, ⟨nd, rfl⟩⟩))
     go_meet
     case rel => exact ⟨_, (true), eqq_, H', ⟨by first | omega | exact Nat.le_refl _⟩, ⟨qK BK541⟩, ⟨qB HB⟩⟩
   ·
    replace c7 := Bool.eq_false_iff.mpr c7
    subst c7
    rw [if_neg (show ¬ (false = true) by decide)] at H
    have H' := Aside0.mk H
    clear H
    obtain ⟨z12_0, z12_1, z12_2, z12_3, z12_4, z12_5, z12_6, z12_7⟩ := cz8 BK541.out
    obtain ⟨f12_0, f12_1, f12_2, f12_3, f12_4, f12_5, f12_6, f12_7⟩ := fz8 BK541.out
    go_wp2_with (first | ((with_reducible refine gate_callee (f := 117) rfl ?_); refine goesL_ (some 5) rfl rfl Try.func117 (by kernel_rfl) rfl #[.int .i64 a0_0, .int .i64 1, .int .i64 9999] rfl la_ ?_; (with_reducible refine (spec_l1In.calls a0_0 1 9999 true _ A4.out).mono ?_); rintro e w' ⟨rfl, ⟨nd, rfl⟩⟩; refine ⟨_, rfl, ?_⟩) | (go_at_call 117; (with_reducible refine (spec_l1In.calls a0_1 1 2 false _ A6.out).mono ?_); rintro e w' ⟨rfl, ⟨nd, rfl⟩⟩))
    go_meet
    case rel => exact ⟨_, (true), eqq_, H', ⟨by first | omega | exact Nat.le_refl _⟩, ⟨qK BK541⟩, ⟨qB HB⟩⟩
  ·
   replace c5 := Bool.eq_false_iff.mpr c5
   subst c5
   rw [if_neg (show ¬ (false = true) by decide)] at H
   have H' := Aside0.mk H
   clear H
   obtain ⟨z13_0, z13_1, z13_2, z13_3, z13_4, z13_5, z13_6, z13_7⟩ := cz8 BK541.out
   obtain ⟨f13_0, f13_1, f13_2, f13_3, f13_4, f13_5, f13_6, f13_7⟩ := fz8 BK541.out
   go_wp2_with (first | ((with_reducible refine gate_callee (f := 117) rfl ?_); refine goesL_ (some 5) rfl rfl Try.func117 (by kernel_rfl) rfl #[.int .i64 a0_0, .int .i64 1, .int .i64 9999] rfl la_ ?_; (with_reducible refine (spec_l1In.calls a0_0 1 9999 false _ A4.out).mono ?_); rintro e w' ⟨rfl, ⟨nd, rfl⟩⟩; refine ⟨_, rfl, ?_⟩))
   go_meet
   case rel => exact ⟨_, (true), eqq_, H', ⟨by first | omega | exact Nat.le_refl _⟩, ⟨qK BK541⟩, ⟨qB HB⟩⟩
 case rest =>
  clear HC2
  try clear c1
  try clear p2
  try clear c4
  try clear c5
  try clear c7
  try clear c9
  try clear c11
  (try clear z10_0 z10_1 z10_2 z10_3 z10_4 z10_5 z10_6 z10_7)
  (try clear z11_0 z11_1 z11_2 z11_3 z11_4 z11_5 z11_6 z11_7)
  (try clear z12_0 z12_1 z12_2 z12_3 z12_4 z12_5 z12_6 z12_7)
  (try clear z13_0 z13_1 z13_2 z13_3 z13_4 z13_5 z13_6 z13_7)
  (try clear f10_0 f10_1 f10_2 f10_3 f10_4 f10_5 f10_6 f10_7)
  (try clear f11_0 f11_1 f11_2 f11_3 f11_4 f11_5 f11_6 f11_7)
  (try clear f12_0 f12_1 f12_2 f12_3 f12_4 f12_5 f12_6 f12_7)
  (try clear f13_0 f13_1 f13_2 f13_3 f13_4 f13_5 f13_6 f13_7)
  obtain ⟨kq, x24_1, rfl, HA, HJ1, BK541, HB⟩ := hcut
  cases kq with
  | zero => exact absurd HA.out (by simp [spec_SockOk.j0])
  | succ kj1 =>
   have H := HA.out
   clear HA
   simp only [spec_SockOk.j0] at H
   by_cases c14 : x24_1 = true
   ·
    subst c14
    rw [if_pos rfl] at H
    obtain rfl := Option.some.inj H
    go_wp2
    go_ret
    exact ⟨er_, qB HB⟩
   ·
    replace c14 := Bool.eq_false_iff.mpr c14
    subst c14
    rw [if_neg (show ¬ (false = true) by decide)] at H
    by_cases c15 : a0_1 = 1
    ·
     rw [if_pos c15] at H
     have c15b0 : (a0_1 == 1) = true := beq_iff_eq.mpr c15
     have c15b1 : (a0_1 != 1) = false := bne_eq_false_iff_eq.mpr c15
     clear c15
     by_cases c16 : a0_6 = 0
     ·
      rw [if_pos c16] at H
      have c16b0 : (a0_6 == 0) = true := beq_iff_eq.mpr c16
      have c16b1 : (a0_6 != 0) = false := bne_eq_false_iff_eq.mpr c16
      clear c16
      obtain rfl := Option.some.inj H
      obtain ⟨z17_0, z17_1, z17_2, z17_3, z17_4, z17_5, z17_6, z17_7⟩ := cz8 BK541.out
      obtain ⟨f17_0, f17_1, f17_2, f17_3, f17_4, f17_5, f17_6, f17_7⟩ := fz8 BK541.out
      go_wp2
      go_ret
      exact ⟨er_, qB HB⟩
     ·
      rw [if_neg c16] at H
      have c16b0 : (a0_6 == 0) = false := beq_eq_false_iff_ne.mpr c16
      have c16b1 : (a0_6 != 0) = true := bne_iff_ne.mpr c16
      obtain rfl := Option.some.inj H
      obtain ⟨z18_0, z18_1, z18_2, z18_3, z18_4, z18_5, z18_6, z18_7⟩ := cz8 BK541.out
      obtain ⟨f18_0, f18_1, f18_2, f18_3, f18_4, f18_5, f18_6, f18_7⟩ := fz8 BK541.out
      go_wp2
      go_ret
      exact ⟨er_, qB HB⟩
    ·
     rw [if_neg c15] at H
     have c15b0 : (a0_1 == 1) = false := beq_eq_false_iff_ne.mpr c15
     have c15b1 : (a0_1 != 1) = true := bne_iff_ne.mpr c15
     obtain ⟨t545, A19, H⟩ := bd_ H
     by_cases c20 : t545 = true
     ·
      subst c20
      rw [if_pos rfl] at H
      obtain ⟨t546, A21, H⟩ := bd_ H
      obtain rfl := Option.some.inj H
      obtain ⟨z22_0, z22_1, z22_2, z22_3, z22_4, z22_5, z22_6, z22_7⟩ := cz8 BK541.out
      obtain ⟨f22_0, f22_1, f22_2, f22_3, f22_4, f22_5, f22_6, f22_7⟩ := fz8 BK541.out
      go_wp2_with (first | ((with_reducible refine gate_callee (f := 117) rfl ?_); refine goesL_ (some 38) rfl rfl Try.func117 (by kernel_rfl) rfl #[.int .i64 a0_6, .int .i64 0, .int .i64 2] rfl la_ ?_; (with_reducible refine (spec_l1In.calls a0_6 0 2 true _ A19.out).mono ?_); rintro e w' ⟨rfl, ⟨nd, rfl⟩⟩; refine ⟨_, rfl, ?_⟩) | (go_at_call 117; (with_reducible refine (spec_l1In.calls a0_7 0 (l0_5.length : Int) t546 _ A21.out).mono ?_); rintro e w' ⟨rfl, ⟨nd, rfl⟩⟩))
      go_ret
      exact ⟨er_, qB HB⟩
     ·
      replace c20 := Bool.eq_false_iff.mpr c20
      subst c20
      rw [if_neg (show ¬ (false = true) by decide)] at H
      obtain rfl := Option.some.inj H
      obtain ⟨z23_0, z23_1, z23_2, z23_3, z23_4, z23_5, z23_6, z23_7⟩ := cz8 BK541.out
      obtain ⟨f23_0, f23_1, f23_2, f23_3, f23_4, f23_5, f23_6, f23_7⟩ := fz8 BK541.out
      go_wp2_with (first | ((with_reducible refine gate_callee (f := 117) rfl ?_); refine goesL_ (some 38) rfl rfl Try.func117 (by kernel_rfl) rfl #[.int .i64 a0_6, .int .i64 0, .int .i64 2] rfl la_ ?_; (with_reducible refine (spec_l1In.calls a0_6 0 2 false _ A19.out).mono ?_); rintro e w' ⟨rfl, ⟨nd, rfl⟩⟩; refine ⟨_, rfl, ?_⟩))
      go_ret
      exact ⟨er_, qB HB⟩

/-! ### spec_l8Copy: function 130 -/
def spec_l8Copy.f (a0_0 : Int) (a0_1 : Int) (a0_2 : Int) (a0_3 : Bool) (l0_4 : List Int) (l0_5 : List Int) (a0_6 : Int) (a0_7 : Int) : Option (Int × Int × Int × Bool × List Int × List Int × Int × Int) := (some (([] : List Int) : List Int)).bind fun y550 => (if y550.length + l0_4.length < 140737488355328 then ((some (([] : List Int) : List Int)).bind fun y556 => (if y556.length + l0_5.length < 140737488355328 then (some (a0_0, a0_1, a0_2, a0_3, (y550 ++ l0_4), (y556 ++ l0_5), a0_6, a0_7)) else (none))) else (none))
set_option maxHeartbeats 8000000 in
set_option maxRecDepth 100000 in
theorem spec_l8Copy.calls (a0_0 : Int) (a0_1 : Int) (a0_2 : Int) (a0_3 : Bool) (A0_4 : Option Addr) (c0_4 : Nat) (l0_4 : List Int) (A0_5 : Option Addr) (c0_5 : Nat) (l0_5 : List Int) (a0_6 : Int) (a0_7 : Int) (r1 : Int) (r2 : Int) (r3 : Int) (r4 : Bool) (r5 : List Int) (r6 : List Int) (r7 : Int) (r8 : Int) (w : World) (hr0_4 : Kd.C (Kd.int .u8) w A0_4 l0_4.length l0_4) (hc0_4 : l0_4.length ≤ c0_4) (hr0_5 : Kd.C (Kd.int .u8) w A0_5 l0_5.length l0_5) (hc0_5 : l0_5.length ≤ c0_5) (h : spec_l8Copy.f a0_0 a0_1 a0_2 a0_3 l0_4 l0_5 a0_6 a0_7 = some (r1, r2, r3, r4, r5, r6, r7, r8)) :
  Calls Try.prog 130 #[.agg #[.int .i64 a0_0, .int .i64 a0_1, .int .i64 a0_2, .bool a0_3, .slice A0_4 l0_4.length c0_4, .slice A0_5 l0_5.length c0_5, .int .i64 a0_6, .int .i64 a0_7]] w fun e w' => ∃ v4_ v5_ : Value, e = .returned (.agg #[.int .i64 r1, .int .i64 r2, .int .i64 r3, .bool r4, v4_, v5_, .int .i64 r7, .int .i64 r8]) ∧ Kd.R (Kd.int .u8) 5 w' w.heap.size (fun k_ => some k_ ≠ (v5_ : Value).ownBlock) v4_ r5 ∧ Kd.R (Kd.int .u8) 5 w' w.heap.size (fun k_ => some k_ ≠ (v4_ : Value).ownBlock) v5_ r6 ∧ Below w.heap.size w w' := by
 have hu41 := Try.underlying41
 have HR0_4 := Aside0.mk hr0_4
 have HC0_4 := Aside0.mk hc0_4
 clear hr0_4 hc0_4
 have HR0_5 := Aside0.mk hr0_5
 have HC0_5 := Aside0.mk hc0_5
 clear hr0_5 hc0_5
 have HB := Aside0.mk (Below.refl w.heap.size w)
 have H : ((some (([] : List Int) : List Int)).bind fun y550 => (if y550.length + l0_4.length < 140737488355328 then ((some (([] : List Int) : List Int)).bind fun y556 => (if y556.length + l0_5.length < 140737488355328 then (some (a0_0, a0_1, a0_2, a0_3, (y550 ++ l0_4), (y556 ++ l0_5), a0_6, a0_7)) else (none))) else (none))) = some (r1, r2, r3, r4, r5, r6, r7, r8) := h
 clear h
 obtain ⟨y550, hy550⟩ : ∃ y_ : List Int, y_ = (([] : List Int)) := ⟨_, rfl⟩
 replace H := mk_ H hy550
 (try dsimp only at H)
 have Ny550 := Aside0.mk hy550
 clear hy550
 by_cases c2 : y550.length + l0_4.length < 140737488355328
 case neg => exact nn_ c2 H
 rw [if_pos c2] at H
 have LMc2 := Aside0.mk c2
 clear c2
 obtain ⟨y553, hy553⟩ : ∃ y_ : List Int, y_ = (y550 ++ l0_4) := ⟨_, rfl⟩
 replace H : ((some (([] : List Int) : List Int)).bind fun y556 => (if y556.length + l0_5.length < 140737488355328 then (some (a0_0, a0_1, a0_2, a0_3, y553, (y556 ++ l0_5), a0_6, a0_7)) else (none))) = some (r1, r2, r3, r4, r5, r6, r7, r8) := by first | (rw [hy553]; with_reducible exact H) | (have H2_ := (Option.bind_some _ _).symm.trans H; rw [hy553]; with_reducible exact H2_) | (have H2_ := (Option.bind_some _ _).symm.trans H; with_reducible exact H2_) | with_reducible exact H | (rw [hy553]; exact H) | exact H
 have Ny553 := Aside0.mk hy553
 clear hy553
 obtain ⟨y556, hy556⟩ : ∃ y_ : List Int, y_ = (([] : List Int)) := ⟨_, rfl⟩
 replace H := mk_ H hy556
 (try dsimp only at H)
 have Ny556 := Aside0.mk hy556
 clear hy556
 by_cases c3 : y556.length + l0_5.length < 140737488355328
 case neg => exact nn_ c3 H
 rw [if_pos c3] at H
 have LMc3 := Aside0.mk c3
 clear c3
 obtain ⟨y559, hy559⟩ : ∃ y_ : List Int, y_ = (y556 ++ l0_5) := ⟨_, rfl⟩
 replace H : (some (a0_0, a0_1, a0_2, a0_3, y553, y559, a0_6, a0_7)) = some (r1, r2, r3, r4, r5, r6, r7, r8) := by first | (rw [hy559]; with_reducible exact H) | (have H2_ := (Option.bind_some _ _).symm.trans H; rw [hy559]; with_reducible exact H2_) | (have H2_ := (Option.bind_some _ _).symm.trans H; with_reducible exact H2_) | with_reducible exact H | (rw [hy559]; exact H) | exact H
 have Ny559 := Aside0.mk hy559
 clear hy559
 simp only [Option.some.injEq, Prod.mk.injEq] at H
 obtain ⟨rfl, rfl, rfl, rfl, rfl, rfl, rfl, rfl⟩ := H
 go_enter Try.func130, Try.ntmps130
 go_wp2_with (first | ((with_reducible refine gate_dst (N := 1) rfl ?_); refine box_event ?hg (N := 1) ?hd (cs := #[.int .i64 a0_0, .int .i64 a0_1, .int .i64 a0_2, .bool a0_3, .slice A0_4 l0_4.length c0_4, .slice A0_5 l0_5.length c0_5, .int .i64 a0_6, .int .i64 a0_7]) (t := 41) ?hr ?_; (case hd => rfl); (case hg => rfl); (case hr => first | (go_simp; done) | (go_simp; rfl)); intro gb547 hg w4 hbox hb; have BK547 := am_ (hbox); have GW547 := am_ ((gG_ hg (qB HB))); have IGW547 := gI_ GW547; have GE547 := am_ ((gG_ hg (qB HB))); have IGE547 := gI_ GE547; replace HB := am_ (below_step (qB HB) hb); clear hb hbox hg) | ((with_reducible refine gate_dst (N := 2) rfl ?_); refine box_event ?hg (N := 2) ?hd (cs := #[.int .i64 0, .int .i64 0, .int .i64 0, .bool false, .slice none 0 0, .slice none 0 0, .int .i64 0, .int .i64 0]) (t := 41) ?hr ?_; (case hd => rfl); (case hg => rfl); (case hr => first | (go_simp; done) | (go_simp; rfl)); intro gb548 hg w5 hbox hb; have BK548 := am_ (hbox); have GW548 := am_ ((gG_ hg (qB HB))); have IGW548 := gI_ GW548; have GE548 := am_ ((gG_ hg (qB HB))); have IGE548 := gI_ GE548; replace HB := am_ (below_step (qB HB) hb); have NB547_548 := am_ ((gN_ hg (qK BK547))); have NB548_547 := am_ ((gM_ hg (qK BK547))); replace BK547 := am_ (blk_below (qK BK547) hb); clear hb hbox hg; have hnb6 := NB547_548.out; have hnc6 := NB548_547.out; obtain ⟨z7_0, z7_1, z7_2, z7_3, z7_4, z7_5, z7_6, z7_7⟩ := cz8 BK547.out; obtain ⟨f7_0, f7_1, f7_2, f7_3, f7_4, f7_5, f7_6, f7_7⟩ := fz8 BK547.out) | ((with_reducible refine gate_dst (N := 3) rfl ?_); refine box_event ?hg (N := 3) ?hd (cs := #[.int .i64 0, .int .i64 0, .int .i64 0, .bool false, .slice none 0 0, .slice none 0 0, .int .i64 0, .int .i64 0]) (t := 41) ?hr ?_; (case hd => rfl); (case hg => rfl); (case hr => first | (go_simp; done) | (go_simp; rfl)); intro gb549 hg w8 hbox hb; have BK549 := am_ (hbox); have GW549 := am_ ((gG_ hg (qB HB))); have IGW549 := gI_ GW549; have GE549 := am_ ((gG_ hg (qB HB))); have IGE549 := gI_ GE549; replace HB := am_ (below_step (qB HB) hb); have NB547_549 := am_ ((gN_ hg (qK BK547))); have NB549_547 := am_ ((gM_ hg (qK BK547))); replace BK547 := am_ (blk_below (qK BK547) hb); have NB548_549 := am_ ((gN_ hg (qK BK548))); have NB549_548 := am_ ((gM_ hg (qK BK548))); replace BK548 := am_ (blk_below (qK BK548) hb); clear hb hbox hg; have hnb9 := NB549_547.out; have hnc9 := NB547_549.out; have hnb10 := NB549_548.out; have hnc10 := NB548_549.out; obtain ⟨z11_0, z11_1, z11_2, z11_3, z11_4, z11_5, z11_6, z11_7⟩ := cz8 BK549.out; obtain ⟨f11_0, f11_1, f11_2, f11_3, f11_4, f11_5, f11_6, f11_7⟩ := fz8 BK549.out) | ((with_reducible refine gate_dst (N := 5) rfl ?_); refine Kd.R_lit (Kd.int .u8) _ 5 ?hg (N := 5) ?hd (xs := ([] : List Int)) (inner := []) (ok := fun _ => True) (okp := fun _ => True) ?hr ?hp (fun _ hk => hk) trivial (Below.refl _ _) (Nat.le_refl _) (by simp) ?_; (case hd => rfl); (case hg => rfl); (case hr => first | (go_simp; done) | (go_simp; rfl)); (case hp => exact (Reps.none _ _)); intro v551 w12 ho13 hb hg_ hnew_; clear hg_ hnew_; (first | rw [← Ny550.out] at ho13 | (simp only [Int.reduceToNat] at ho13; rw [← Ny550.out] at ho13)); have HO552 := am_ (Kd.R_lower ho13 (below_size (qB HB))); replace BK547 := am_ (blk_below (g := gb547) (o := .cells #[.int .i64 a0_0, .int .i64 a0_1, .int .i64 a0_2, .bool a0_3, .slice A0_4 l0_4.length c0_4, .slice A0_5 l0_5.length c0_5, .int .i64 a0_6, .int .i64 a0_7] 41 (0, 0)) (by (with_reducible repeat (first | refine blk_drewN ?_ _ | refine blk_drew ?_ | refine blk_alloc ?_ _)); refine Go.Proofs.YtaimfkfpglhijaaV.blk_far8 ?_ NB547_549.out; exact qK BK547) hb); replace BK548 := am_ (blk_below (g := gb548) (o := .cells #[.int .i64 0, .int .i64 0, .int .i64 0, .bool false, .slice none 0 0, .slice none 0 0, .int .i64 0, .int .i64 0] 41 (0, 0)) (by (with_reducible repeat (first | refine blk_drewN ?_ _ | refine blk_drew ?_ | refine blk_alloc ?_ _)); refine Go.Proofs.YtaimfkfpglhijaaV.blk_far8 ?_ NB548_549.out; exact qK BK548) hb); replace BK549 := am_ (blk_below (g := gb549) (o := .cells #[.int .i64 a0_0, .int .i64 a0_1, .int .i64 a0_2, .bool a0_3, .slice A0_4 l0_4.length c0_4, .slice A0_5 l0_5.length c0_5, .int .i64 a0_6, .int .i64 a0_7] 41 (0, 0)) (by (with_reducible repeat (first | refine blk_drewN ?_ _ | refine blk_drew ?_ | refine blk_alloc ?_ _)); refine Go.Proofs.YtaimfkfpglhijaaV.blk_all8 (show _ = some (Go.Obj.cells #[.int .i64 0, .int .i64 0, .int .i64 0, .bool false, .slice none 0 0, .slice none 0 0, .int .i64 0, .int .i64 0] _ (0, 0)) from ?_); exact qK BK549) hb); replace HB := am_ (below_step (qB HB) hb); clear hb ho13; obtain ⟨z14_0, z14_1, z14_2, z14_3, z14_4, z14_5, z14_6, z14_7⟩ := cz8 BK547.out; obtain ⟨f14_0, f14_1, f14_2, f14_3, f14_4, f14_5, f14_6, f14_7⟩ := fz8 BK547.out) | ((with_reducible refine gate_builtin (b := .append) (xs := #[.tmp 5, .tmp 7]) rfl ?_); at_builtin; refine Kd.R_append_rows (Kd.int .u8) (w0 := w) w.heap.size rfl (.tmp 5) (.tmp 7) 22 5 (.int .u8 0) 1 rfl Try.underlying22 info5 rfl (by decide) (by omega) v551 y550 l0_4 _ _ _ (fun _ => True) (fun _ => False) rfl rfl ?aO ?aR (fun _ _ h => h) (fun _ h => h.elim) ?aF ?aB ?aS ?aL ?_; (case aR => exact qC (Kd.C_below HR0_4.out HB.out)); (case aB => exact (qB HB)); (case aF => exact (fun _ _ => trivial)); (case aO => exact (qR HO552)); (case aS => exact (below_size (qB HB))); (case aL => have := LMc2.out; omega); intro v554 w15 ho hb hg hat; rw [← Ny553.out] at ho; replace BK547 := am_ (blk_grown (qK BK547) hg (Kd.R_ne HO552.out BK547.out (by decide))); replace BK548 := am_ (blk_grown (qK BK548) hg (Kd.R_ne HO552.out BK548.out (by decide))); replace BK549 := am_ (blk_grown (qK BK549) hg (Kd.R_ne HO552.out BK549.out (by decide))); replace HB := am_ (hb); have HO555 := am_ (ho); clear HO552; clear ho hb hg hat; obtain ⟨Ao16, co16, eo16⟩ := Kd.R_slice HO555.out; subst eo16; obtain ⟨z17_0, z17_1, z17_2, z17_3, z17_4, z17_5, z17_6, z17_7⟩ := cz8 BK549.out; obtain ⟨f17_0, f17_1, f17_2, f17_3, f17_4, f17_5, f17_6, f17_7⟩ := fz8 BK549.out) | ((with_reducible refine gate_dst (N := 10) rfl ?_); refine Kd.R_lit (Kd.int .u8) _ 5 ?hg (N := 10) ?hd (xs := ([] : List Int)) (inner := []) (ok := fun _ => True) (okp := fun _ => True) ?hr ?hp (fun _ hk => hk) trivial (Below.refl _ _) (Nat.le_refl _) (by simp) ?_; (case hd => rfl); (case hg => rfl); (case hr => first | (go_simp; done) | (go_simp; rfl)); (case hp => exact (Reps.none _ _)); intro v557 w18 ho19 hb hg_ hnew_; clear hg_ hnew_; (first | rw [← Ny556.out] at ho19 | (simp only [Int.reduceToNat] at ho19; rw [← Ny556.out] at ho19)); have HO558 := am_ (Kd.R_lower (Kd.R_new' ho19 (Kd.R_lt (by (with_reducible repeat (first | apply Kd.R_alloc | apply Kd.R_drewN | apply Kd.R_drew)); exact (Kd.R_mono (Kd.R_far (p := ⟨gb549, 4, none⟩) (Kd.R_types HO555.out BK549.out (by decide)) (fun _ hk => hk.2) (.slice Ao16 y553.length co16)) (fun _ h_ => h_.1))))) (below_size (qB HB))); replace HO555 := am_ (Kd.R_elder' (by (with_reducible repeat (first | apply Kd.R_alloc | apply Kd.R_drewN | apply Kd.R_drew)); exact (Kd.R_mono (Kd.R_far (p := ⟨gb549, 4, none⟩) (Kd.R_types HO555.out BK549.out (by decide)) (fun _ hk => hk.2) (.slice Ao16 y553.length co16)) (fun _ h_ => h_.1))) (Kd.R_base ho19) hb); replace BK547 := am_ (blk_below (g := gb547) (o := .cells #[.int .i64 a0_0, .int .i64 a0_1, .int .i64 a0_2, .bool a0_3, .slice A0_4 l0_4.length c0_4, .slice A0_5 l0_5.length c0_5, .int .i64 a0_6, .int .i64 a0_7] 41 (0, 0)) (by (with_reducible repeat (first | refine blk_drewN ?_ _ | refine blk_drew ?_ | refine blk_alloc ?_ _)); refine blk_far ?_ NB547_549.out _; exact qK BK547) hb); replace BK548 := am_ (blk_below (g := gb548) (o := .cells #[.int .i64 0, .int .i64 0, .int .i64 0, .bool false, .slice none 0 0, .slice none 0 0, .int .i64 0, .int .i64 0] 41 (0, 0)) (by (with_reducible repeat (first | refine blk_drewN ?_ _ | refine blk_drew ?_ | refine blk_alloc ?_ _)); refine blk_far ?_ NB548_549.out _; exact qK BK548) hb); replace BK549 := am_ (blk_below (g := gb549) (o := .cells #[.int .i64 a0_0, .int .i64 a0_1, .int .i64 a0_2, .bool a0_3, .slice Ao16 y553.length co16, .slice A0_5 l0_5.length c0_5, .int .i64 a0_6, .int .i64 a0_7] 41 (0, 0)) (by (with_reducible repeat (first | refine blk_drewN ?_ _ | refine blk_drew ?_ | refine blk_alloc ?_ _)); refine blk_put (cs := #[.int .i64 a0_0, .int .i64 a0_1, .int .i64 a0_2, .bool a0_3, .slice A0_4 l0_4.length c0_4, .slice A0_5 l0_5.length c0_5, .int .i64 a0_6, .int .i64 a0_7]) ?_ 4 _ rfl; exact qK BK549) hb); replace HB := am_ (below_step (qB HB) hb); clear hb ho19; obtain ⟨z20_0, z20_1, z20_2, z20_3, z20_4, z20_5, z20_6, z20_7⟩ := cz8 BK547.out; obtain ⟨f20_0, f20_1, f20_2, f20_3, f20_4, f20_5, f20_6, f20_7⟩ := fz8 BK547.out) | ((with_reducible refine gate_builtin (b := .append) (xs := #[.tmp 10, .tmp 12]) rfl ?_); at_builtin; refine Kd.R_append_rows (Kd.int .u8) (w0 := w) w.heap.size rfl (.tmp 10) (.tmp 12) 22 5 (.int .u8 0) 1 rfl Try.underlying22 info5 rfl (by decide) (by omega) v557 y556 l0_5 _ _ _ (fun k_ => some k_ ≠ (.slice Ao16 y553.length co16 : Value).ownBlock) (fun _ => False) rfl rfl ?aO ?aR (fun _ _ h => h) (fun _ h => h.elim) ?aF ?aB ?aS ?aL ?_; (case aR => exact qC (Kd.C_below HR0_5.out HB.out)); (case aB => exact (qB HB)); (case aF => exact (fun k_ hk => Kd.fresh' (Kd.R_lt (qR HO555)) k_ hk)); (case aO => exact (tR (Kd.R_mono HO558.out (fun _ hk => hk.2)))); (case aS => exact (below_size (qB HB))); (case aL => have := LMc3.out; omega); intro v560 w21 ho hb hg hat; rw [← Ny559.out] at ho; replace BK547 := am_ (blk_grown (qK BK547) hg (Kd.R_ne HO558.out BK547.out (by decide))); replace BK548 := am_ (blk_grown (qK BK548) hg (Kd.R_ne HO558.out BK548.out (by decide))); replace BK549 := am_ (blk_grown (qK BK549) hg (Kd.R_ne HO558.out BK549.out (by decide))); replace HO555 := am_ (Kd.R_after (ok := (fun _ => True)) (qR HO555) hg hat); replace HB := am_ (hb); have HO561 := am_ (ho); clear HO558; clear ho hb hg hat; obtain ⟨Ao22, co22, eo22⟩ := Kd.R_slice HO561.out; subst eo22; obtain ⟨z23_0, z23_1, z23_2, z23_3, z23_4, z23_5, z23_6, z23_7⟩ := cz8 BK549.out; obtain ⟨f23_0, f23_1, f23_2, f23_3, f23_4, f23_5, f23_6, f23_7⟩ := fz8 BK549.out; obtain ⟨z24_0, z24_1, z24_2, z24_3, z24_4, z24_5, z24_6, z24_7⟩ := cz8 BK548.out; obtain ⟨f24_0, f24_1, f24_2, f24_3, f24_4, f24_5, f24_6, f24_7⟩ := fz8 BK548.out))
 refine bodyPost_ret (results_cell_row rfl _ _ gb548 41 #[.int .i64 a0_0, .int .i64 a0_1, .int .i64 a0_2, .bool a0_3, .slice Ao16 y553.length co16, .slice Ao22 y559.length co22, .int .i64 a0_6, .int .i64 a0_7] (0, 0) _ rfl (by refine blk_all8 (show _ = some (Go.Obj.cells #[.int .i64 0, .int .i64 0, .int .i64 0, .bool false, .slice none 0 0, .slice none 0 0, .int .i64 0, .int .i64 0] _ (0, 0)) from ?_); refine blk_far ?_ NB548_549.out _; exact qK BK548) Try.underlying41 rfl (by kernel_rfl)) rfl ?_
 exact ⟨_, _, er_, by (with_reducible repeat (first | apply Kd.R_alloc | apply Kd.R_drewN | apply Kd.R_drew)); exact Kd.R_mono (Go.Proofs.YtaimfkfpglhijaaV.R_far8 (g := gb548) (Kd.R_far (p := ⟨gb549, 5, none⟩) (Kd.R_types (Kd.R_types HO555.out BK549.out (by decide)) BK548.out (by decide)) (fun _ hk => hk.1.2) (.slice Ao22 y559.length co22)) (fun _ hk => hk.2)) (fun _ hk => hk.1.1.2), by (with_reducible repeat (first | apply Kd.R_alloc | apply Kd.R_drewN | apply Kd.R_drew)); exact Kd.R_mono (Go.Proofs.YtaimfkfpglhijaaV.R_far8 (g := gb548) (Kd.R_far (p := ⟨gb549, 5, none⟩) (Kd.R_types (Kd.R_types HO561.out BK549.out (by decide)) BK548.out (by decide)) (fun _ hk => hk.1.2) (.slice Ao22 y559.length co22)) (fun _ hk => hk.2)) (fun _ hk => hk.1.1), qB HB⟩/-! ### spec_GetFrame: function 131 -/
def spec_GetFrame.f (k : Nat) (l0 : List Int) : Option (Int × ByteArray × Int × Int × Int) := if (l0.length : Int) = 0 then (some (0, (⟨#[]⟩ : ByteArray), 0, 0, 1)) else (if 0 < (l0.length : Int) then ((spec_l1In.f (wrap64 (rd l0 0)) 1 6).bind fun t565 => (if t565 = true then (if (wrap64 (rd l0 0)) = 3 then ((spec_FrameOk.f k (wrap64 (rd l0 0)) (⟨#[]⟩ : ByteArray) 0).bind fun t566 => (if t566 = true then (some (wrap64 (rd l0 0), (⟨#[]⟩ : ByteArray), 0, 1, 0)) else (some (0, (⟨#[]⟩ : ByteArray), 0, 0, 2)))) else (if (l0.length : Int) = 1 then (some (0, (⟨#[]⟩ : ByteArray), 0, 0, 1)) else (if (wrap64 (rd l0 0)) = 5 then (if 1 < (l0.length : Int) then ((spec_FrameOk.f k (wrap64 (rd l0 0)) (⟨#[]⟩ : ByteArray) (wrap64 (rd l0 1))).bind fun t568 => (if t568 = true then (some (wrap64 (rd l0 0), (⟨#[]⟩ : ByteArray), wrap64 (rd l0 1), 2, 0)) else (some (0, (⟨#[]⟩ : ByteArray), 0, 0, 2)))) else (none)) else (if 1 < (l0.length : Int) then (if (wrap64 (rd l0 1)) > 100 then (some (0, (⟨#[]⟩ : ByteArray), 0, 0, 2)) else (if (wrap64 (rd l0 1)) > (wrap64 ((l0.length : Int) - 2)) then (some (0, (⟨#[]⟩ : ByteArray), 0, 0, 1)) else (if 2 ≤ (wrap64 (2 + (wrap64 (rd l0 1)))) then (if (wrap64 (2 + (wrap64 (rd l0 1)))) ≤ (l0.length : Int) then ((spec_FrameOk.f k (wrap64 (rd l0 0)) (strOfNums ((l0.take ((wrap64 (2 + (wrap64 (rd l0 1)))) : Int).toNat).drop 2)) 0).bind fun t571 => (if t571 = true then (some (wrap64 (rd l0 0), strOfNums ((l0.take ((wrap64 (2 + (wrap64 (rd l0 1)))) : Int).toNat).drop 2), 0, wrap64 (2 + (wrap64 (rd l0 1))), 0)) else (some (0, (⟨#[]⟩ : ByteArray), 0, 0, 2)))) else (none)) else (none)))) else (none))))) else (some (0, (⟨#[]⟩ : ByteArray), 0, 0, 2)))) else (none))
theorem spec_GetFrame.mono : ∀ a0 k, LeO (spec_GetFrame.f k a0) (spec_GetFrame.f (k + 1) a0) := by
 intro a0 k
 unfold spec_GetFrame.f
 repeat' first
   | (with_reducible exact spec_FrameOk.mono _ _ _ _)
   | (with_reducible exact LeO.refl _)
   | (with_reducible exact LeO.none _)
   | (with_reducible refine LeO.ite ?_ ?_)
   | (with_reducible refine LeO.bind ?_ (fun _ => ?_))
   | exact spec_FrameOk.mono _ _ _ _
   | exact LeO.none _
   | refine LeO.ite ?_ ?_
   | refine LeO.bind ?_ (fun _ => ?_)
set_option maxHeartbeats 8000000 in
set_option maxRecDepth 100000 in
theorem spec_GetFrame.calls (k : Nat) (A0 : Option Addr) (c0 : Nat) (l0 : List Int) (r1 : Int) (r2 : ByteArray) (r3 : Int) (r4 : Int) (r5 : Int) (w : World) (hr0 : Kd.C (Kd.int .u8) w A0 l0.length l0) (hc0 : l0.length ≤ c0) (h : spec_GetFrame.f k l0 = some (r1, r2, r3, r4, r5)) :
  Calls Try.prog 131 #[.slice A0 l0.length c0] w fun e w' => e = .returned (.tuple #[.agg #[.int .i64 r1, .string r2, .int .i64 r3], .int .i64 r4, .int .i64 r5]) ∧ Below w.heap.size w w' := by
 have hu47 := Try.underlying47
 have HR0 := Aside0.mk hr0
 have HC0 := Aside0.mk hc0
 clear hr0 hc0
 have HB := Aside0.mk (Below.refl w.heap.size w)
 have H : (if (l0.length : Int) = 0 then (some (0, (⟨#[]⟩ : ByteArray), 0, 0, 1)) else (if 0 < (l0.length : Int) then ((spec_l1In.f (wrap64 (rd l0 0)) 1 6).bind fun t565 => (if t565 = true then (if (wrap64 (rd l0 0)) = 3 then ((spec_FrameOk.f k (wrap64 (rd l0 0)) (⟨#[]⟩ : ByteArray) 0).bind fun t566 => (if t566 = true then (some (wrap64 (rd l0 0), (⟨#[]⟩ : ByteArray), 0, 1, 0)) else (some (0, (⟨#[]⟩ : ByteArray), 0, 0, 2)))) else (if (l0.length : Int) = 1 then (some (0, (⟨#[]⟩ : ByteArray), 0, 0, 1)) else (if (wrap64 (rd l0 0)) = 5 then (if 1 < (l0.length : Int) then ((spec_FrameOk.f k (wrap64 (rd l0 0)) (⟨#[]⟩ : ByteArray) (wrap64 (rd l0 1))).bind fun t568 => (if t568 = true then (some (wrap64 (rd l0 0), (⟨#[]⟩ : ByteArray), wrap64 (rd l0 1), 2, 0)) else (some (0, (⟨#[]⟩ : ByteArray), 0, 0, 2)))) else (none)) else (if 1 < (l0.length : Int) then (if (wrap64 (rd l0 1)) > 100 then (some (0, (⟨#[]⟩ : ByteArray), 0, 0, 2)) else (if (wrap64 (rd l0 1)) > (wrap64 ((l0.length : Int) - 2)) then (some (0, (⟨#[]⟩ : ByteArray), 0, 0, 1)) else (if 2 ≤ (wrap64 (2 + (wrap64 (rd l0 1)))) then (if (wrap64 (2 + (wrap64 (rd l0 1)))) ≤ (l0.length : Int) then ((spec_FrameOk.f k (wrap64 (rd l0 0)) (strOfNums ((l0.take ((wrap64 (2 + (wrap64 (rd l0 1)))) : Int).toNat).drop 2)) 0).bind fun t571 => (if t571 = true then (some (wrap64 (rd l0 0), strOfNums ((l0.take ((wrap64 (2 + (wrap64 (rd l0 1)))) : Int).toNat).drop 2), 0, wrap64 (2 + (wrap64 (rd l0 1))), 0)) else (some (0, (⟨#[]⟩ : ByteArray), 0, 0, 2)))) else (none)) else (none)))) else (none))))) else (some (0, (⟨#[]⟩ : ByteArray), 0, 0, 2)))) else (none))) = some (r1, r2, r3, r4, r5) := h
 clear h
 have HC2 := Aside0.mk H
 clear H
 go_enter Try.func131, Try.ntmps131
 go_upto_if 10 with (first | ((with_reducible refine gate_dst (N := 2) rfl ?_); refine box_event ?hg (N := 2) ?hd (cs := #[.int .i64 0, .string (⟨#[]⟩ : ByteArray), .int .i64 0]) (t := 47) ?hr ?_; (case hd => rfl); (case hg => rfl); (case hr => first | (go_simp; done) | (go_simp; rfl)); intro gb562 hg w3 hbox hb; have BK562 := am_ (hbox); have GW562 := am_ ((gG_ hg (qB HB))); have IGW562 := gI_ GW562; have GE562 := am_ ((gG_ hg (qB HB))); have IGE562 := gI_ GE562; replace HB := am_ (below_step (qB HB) hb); clear hb hbox hg))
 (try simp only [Act.put, List.setIfInBounds_toArray, List.set_cons_zero, List.set_cons_succ])
 have H := HC2.out
 clear HC2
 by_cases c4 : (l0.length : Int) = 0
 ·
  rw [if_pos c4] at H
  have c4b0 : ((l0.length : Int) == 0) = true := beq_iff_eq.mpr c4
  have c4b1 : ((l0.length : Int) != 0) = false := bne_eq_false_iff_eq.mpr c4
  clear c4
  (first | rw [c4b0] | rw [c4b1] | (simp only [i64_w, i32_w]; rw [c4b0]) | skip)
  simp only [Option.some.injEq, Prod.mk.injEq] at H
  obtain ⟨rfl, rfl, rfl, rfl, rfl⟩ := H
  obtain ⟨z5_0, z5_1, z5_2⟩ := cz3 BK562.out
  obtain ⟨f5_0, f5_1, f5_2⟩ := fz3 BK562.out
  go_wp2
  refine bodyPost_ret (results_ctt rfl _ _ gb562 47 #[.int .i64 0, .string (⟨#[]⟩ : ByteArray), .int .i64 0] (0, 0) _ rfl (by refine blk_all3 (show _ = some (Go.Obj.cells #[.int .i64 0, .string (⟨#[]⟩ : ByteArray), .int .i64 0] _ (0, 0)) from ?_); exact qK BK562) Try.underlying47 rfl (by kernel_rfl)) rfl ?_
  exact ⟨er_, qB HB⟩
 ·
  rw [if_neg c4] at H
  have c4b0 : ((l0.length : Int) == 0) = false := beq_eq_false_iff_ne.mpr c4
  have c4b1 : ((l0.length : Int) != 0) = true := bne_iff_ne.mpr c4
  have c4b2 : ¬ (l0 = []) := fun h_ => c4 (by rw [h_]; rfl)
  (first | rw [c4b0] | rw [c4b1] | rw [c4b2] | (simp only [i64_w, i32_w]; rw [c4b0]) | skip)
  by_cases c6 : 0 < (l0.length : Int)
  case neg => exact nn_ c6 H
  rw [if_pos c6] at H
  have c6b0 : decide (0 < (l0.length : Int)) = true := decide_eq_true c6
  have c6b1 : decide (0 < l0.length) = true := decide_eq_true (by omega)
  clear c6
  obtain ⟨t565, A7, H⟩ := bd_ H
  have HC8 := Aside0.mk H
  clear H
  have p563 : 0 ≤ (0 : Int) := (by omega)
  have q563 : 0 < (l0.length : Int) := od_
  obtain ⟨ad563, e563, hx563_0⟩ := Kd.at_int HR0.out 0 p563 q563
  cases e563
  have qi563 : (0 < l0.length) = True := eq_true (by omega)
  (try rw [show ((0 : Int)).toNat = 0 from rfl] at hx563_0)
  (try rw [Addr.add_zero'] at hx563_0)
  replace hx563_0 := lb_ HB hx563_0
  replace p563 := eq_true p563
  replace q563 := eq_true q563
  go_upto_if 38 with (first | ((with_reducible refine gate_dst (N := 5) rfl ?_); refine box_event ?hg (N := 5) ?hd (cs := #[.int .i64 0, .string (⟨#[]⟩ : ByteArray), .int .i64 0]) (t := 47) ?hr ?_; (case hd => rfl); (case hg => rfl); (case hr => first | (go_simp; done) | (go_simp; rfl)); intro gb564 hg w9 hbox hb; have BK564 := am_ (hbox); have GW564 := am_ ((gG_ hg (qB HB))); have IGW564 := gI_ GW564; have GE564 := am_ ((gG_ hg (qB HB))); have IGE564 := gI_ GE564; replace HB := am_ (below_step (qB HB) hb); have NB562_564 := am_ ((gN_ hg (qK BK562))); have NB564_562 := am_ ((gM_ hg (qK BK562))); replace BK562 := am_ (blk_below (qK BK562) hb); clear hb hbox hg; have hnb10 := NB564_562.out; have hnc10 := NB562_564.out; obtain ⟨z11_0, z11_1, z11_2⟩ := cz3 BK564.out; obtain ⟨f11_0, f11_1, f11_2⟩ := fz3 BK564.out) | ((with_reducible refine gate_callee (f := 117) rfl ?_); refine goesL_ (some 41) rfl rfl Try.func117 (by kernel_rfl) rfl #[.int .i64 (wrap64 (rd l0 0)), .int .i64 1, .int .i64 6] rfl la_ ?_; (with_reducible refine (spec_l1In.calls (wrap64 (rd l0 0)) 1 6 t565 _ A7.out).mono ?_); rintro e w' ⟨rfl, ⟨nd, rfl⟩⟩; refine ⟨_, rfl, ?_⟩))
  (try simp only [Act.put, List.setIfInBounds_toArray, List.set_cons_zero, List.set_cons_succ])
  have n0_ : Aside0 ((((w9.setCell ⟨gb564, 0, none⟩ (.int .i64 (wrap64 (rd l0 0)))).setCell ⟨gb564, 1, none⟩ (.string (⟨#[]⟩ : ByteArray))).setCell ⟨gb564, 2, none⟩ (.int .i64 0)).heap[gb562]? = some (.cells #[.int .i64 0, .string (⟨#[]⟩ : ByteArray), .int .i64 0] 47 (0, 0))) := ⟨by (with_reducible repeat (first | refine blk_drewN ?_ _ | refine blk_drew ?_ | refine blk_alloc ?_ _)); refine Go.Proofs.YtaimfkfpglhijaaV.blk_far3 ?_ NB562_564.out; exact qK BK562⟩
  have n1_ : Aside0 ((((w9.setCell ⟨gb564, 0, none⟩ (.int .i64 (wrap64 (rd l0 0)))).setCell ⟨gb564, 1, none⟩ (.string (⟨#[]⟩ : ByteArray))).setCell ⟨gb564, 2, none⟩ (.int .i64 0)).heap[gb564]? = some (.cells #[.int .i64 (wrap64 (rd l0 0)), .string (⟨#[]⟩ : ByteArray), .int .i64 0] 47 (0, 0))) := ⟨by (with_reducible repeat (first | refine blk_drewN ?_ _ | refine blk_drew ?_ | refine blk_alloc ?_ _)); refine Go.Proofs.YtaimfkfpglhijaaV.blk_all3 (show _ = some (Go.Obj.cells #[.int .i64 0, .string (⟨#[]⟩ : ByteArray), .int .i64 0] _ (0, 0)) from ?_); exact qK BK564⟩
  have n2_ : Aside0 (Below w.heap.size w (((w9.setCell ⟨gb564, 0, none⟩ (.int .i64 (wrap64 (rd l0 0)))).setCell ⟨gb564, 1, none⟩ (.string (⟨#[]⟩ : ByteArray))).setCell ⟨gb564, 2, none⟩ (.int .i64 0))) := ⟨qB HB⟩
  (try clear BK562)
  (try clear BK564)
  (try clear HB)
  generalize (((w9.setCell ⟨gb564, 0, none⟩ (.int .i64 (wrap64 (rd l0 0)))).setCell ⟨gb564, 1, none⟩ (.string (⟨#[]⟩ : ByteArray))).setCell ⟨gb564, 2, none⟩ (.int .i64 0)) = w12 at n0_ n1_ n2_ ⊢
  have BK562 := n0_
  have BK564 := n1_
  have HB := n2_
  clear n0_ n1_ n2_
  (try (rw [drewN_self w12]; generalize hq_ : World.drewN w12 _ = w12; have n0_ : Aside0 (w12.heap[gb562]? = some (.cells #[.int .i64 0, .string (⟨#[]⟩ : ByteArray), .int .i64 0] 47 (0, 0))) := ⟨by rw [← hq_]; exact (qK BK562)⟩; have n1_ : Aside0 (w12.heap[gb564]? = some (.cells #[.int .i64 (wrap64 (rd l0 0)), .string (⟨#[]⟩ : ByteArray), .int .i64 0] 47 (0, 0))) := ⟨by rw [← hq_]; exact (qK BK564)⟩; have n2_ : Aside0 (Below w.heap.size w w12) := ⟨by rw [← hq_]; exact (qB HB)⟩; clear BK562 BK564 HB hq_; have BK562 := n0_; have BK564 := n1_; have HB := n2_; clear n0_ n1_ n2_))
  have H := HC8.out
  clear HC8
  by_cases c13 : t565 = true
  ·
   subst c13
   rw [if_pos rfl] at H
   by_cases c14 : (wrap64 (rd l0 0)) = 3
   ·
    rw [if_pos c14] at H
    have c14b0 : ((wrap64 (rd l0 0)) == 3) = true := beq_iff_eq.mpr c14
    have c14b1 : ((wrap64 (rd l0 0)) != 3) = false := bne_eq_false_iff_eq.mpr c14
    clear c14
    (first | rw [c14b0] | rw [c14b1] | (simp only [i64_w, i32_w]; rw [c14b0]) | skip)
    obtain ⟨t566, A15, H⟩ := bd_ H
    have HC16 := Aside0.mk H
    clear H
    have hnb17 := NB564_562.out
    have hnc17 := NB562_564.out
    obtain ⟨z18_0, z18_1, z18_2⟩ := cz3 BK564.out
    obtain ⟨f18_0, f18_1, f18_2⟩ := fz3 BK564.out
    go_upto_if 64 with (first | ((with_reducible refine gate_callee (f := 181) rfl ?_); refine goesL_ (some 63) rfl rfl Try.func181 (by kernel_rfl) rfl #[.agg #[.int .i64 (wrap64 (rd l0 0)), .string (⟨#[]⟩ : ByteArray), .int .i64 0]] rfl la_ ?_; (with_reducible refine (spec_FrameOk.calls k (wrap64 (rd l0 0)) (⟨#[]⟩ : ByteArray) 0 t566 _ A15.out).mono ?_); rintro e w19 ⟨rfl, hb⟩; refine ⟨_, rfl, ?_⟩; replace BK562 := am_ (blk_below (qK BK562) hb); replace BK564 := am_ (blk_below (qK BK564) hb); replace HB := am_ (below_step (qB HB) hb); (try clear hb); (try clear hb2); (try clear hk); (try clear hi)))
    (try simp only [Act.put, List.setIfInBounds_toArray, List.set_cons_zero, List.set_cons_succ])
    have H := HC16.out
    clear HC16
    by_cases c20 : t566 = true
    ·
     subst c20
     rw [if_pos rfl] at H
     simp only [Option.some.injEq, Prod.mk.injEq] at H
     obtain ⟨rfl, rfl, rfl, rfl, rfl⟩ := H
     have hnb21 := NB564_562.out
     have hnc21 := NB562_564.out
     obtain ⟨z22_0, z22_1, z22_2⟩ := cz3 BK564.out
     obtain ⟨f22_0, f22_1, f22_2⟩ := fz3 BK564.out
     obtain ⟨z23_0, z23_1, z23_2⟩ := cz3 BK562.out
     obtain ⟨f23_0, f23_1, f23_2⟩ := fz3 BK562.out
     go_wp2
     refine bodyPost_ret (results_ctt rfl _ _ gb562 47 #[.int .i64 (wrap64 (rd l0 0)), .string (⟨#[]⟩ : ByteArray), .int .i64 0] (0, 0) _ rfl (by refine blk_all3 (show _ = some (Go.Obj.cells #[.int .i64 0, .string (⟨#[]⟩ : ByteArray), .int .i64 0] _ (0, 0)) from ?_); exact qK BK562) Try.underlying47 rfl (by kernel_rfl)) rfl ?_
     exact ⟨er_, qB HB⟩
    ·
     replace c20 := Bool.eq_false_iff.mpr c20
     subst c20
     rw [if_neg (show ¬ (false = true) by decide)] at H
     simp only [Option.some.injEq, Prod.mk.injEq] at H
     obtain ⟨rfl, rfl, rfl, rfl, rfl⟩ := H
     have hnb24 := NB562_564.out
     have hnc24 := NB564_562.out
     obtain ⟨z25_0, z25_1, z25_2⟩ := cz3 BK562.out
     obtain ⟨f25_0, f25_1, f25_2⟩ := fz3 BK562.out
     go_wp2
     refine bodyPost_ret (results_ctt rfl _ _ gb562 47 #[.int .i64 0, .string (⟨#[]⟩ : ByteArray), .int .i64 0] (0, 0) _ rfl (by refine blk_all3 (show _ = some (Go.Obj.cells #[.int .i64 0, .string (⟨#[]⟩ : ByteArray), .int .i64 0] _ (0, 0)) from ?_); exact qK BK562) Try.underlying47 rfl (by kernel_rfl)) rfl ?_
     exact ⟨er_, qB HB⟩
   ·
    rw [if_neg c14] at H
    have c14b0 : ((wrap64 (rd l0 0)) == 3) = false := beq_eq_false_iff_ne.mpr c14
    have c14b1 : ((wrap64 (rd l0 0)) != 3) = true := bne_iff_ne.mpr c14
    (first | rw [c14b0] | rw [c14b1] | (simp only [i64_w, i32_w]; rw [c14b0]) | skip)
    by_cases c26 : (l0.length : Int) = 1
    ·
     rw [if_pos c26] at H
     have c26b0 : ((l0.length : Int) == 1) = true := beq_iff_eq.mpr c26
     have c26b1 : ((l0.length : Int) != 1) = false := bne_eq_false_iff_eq.mpr c26
     clear c26
     simp only [Option.some.injEq, Prod.mk.injEq] at H
     obtain ⟨rfl, rfl, rfl, rfl, rfl⟩ := H
     have hnb27 := NB564_562.out
     have hnc27 := NB562_564.out
     obtain ⟨z28_0, z28_1, z28_2⟩ := cz3 BK564.out
     obtain ⟨f28_0, f28_1, f28_2⟩ := fz3 BK564.out
     obtain ⟨z29_0, z29_1, z29_2⟩ := cz3 BK562.out
     obtain ⟨f29_0, f29_1, f29_2⟩ := fz3 BK562.out
     go_wp2
     refine bodyPost_ret (results_ctt rfl _ _ gb562 47 #[.int .i64 0, .string (⟨#[]⟩ : ByteArray), .int .i64 0] (0, 0) _ rfl (by refine blk_all3 (show _ = some (Go.Obj.cells #[.int .i64 0, .string (⟨#[]⟩ : ByteArray), .int .i64 0] _ (0, 0)) from ?_); exact qK BK562) Try.underlying47 rfl (by kernel_rfl)) rfl ?_
     exact ⟨er_, qB HB⟩
    ·
     rw [if_neg c26] at H
     have c26b0 : ((l0.length : Int) == 1) = false := beq_eq_false_iff_ne.mpr c26
     have c26b1 : ((l0.length : Int) != 1) = true := bne_iff_ne.mpr c26
     by_cases c30 : (wrap64 (rd l0 0)) = 5
     ·
      rw [if_pos c30] at H
      have c30b0 : ((wrap64 (rd l0 0)) == 5) = true := beq_iff_eq.mpr c30
      have c30b1 : ((wrap64 (rd l0 0)) != 5) = false := bne_eq_false_iff_eq.mpr c30
      clear c30
      by_cases c31 : 1 < (l0.length : Int)
      case neg => exact nn_ c31 H
      rw [if_pos c31] at H
      have c31b0 : decide (1 < (l0.length : Int)) = true := decide_eq_true c31
      have c31b1 : decide (1 < l0.length) = true := decide_eq_true (by omega)
      clear c31
      obtain ⟨t568, A32, H⟩ := bd_ H
      have HC33 := Aside0.mk H
      clear H
      have hnb34 := NB564_562.out
      have hnc34 := NB562_564.out
      obtain ⟨z35_0, z35_1, z35_2⟩ := cz3 BK564.out
      obtain ⟨f35_0, f35_1, f35_2⟩ := fz3 BK564.out
      have p567 : 0 ≤ (1 : Int) := (by omega)
      have q567 : 1 < (l0.length : Int) := od_
      obtain ⟨ad567, e567, hx567_0⟩ := Kd.at_int HR0.out 1 p567 q567
      obtain rfl : ad563 = ad567 := (by injection e567)
      (try simp only [show (1 : Int).toNat = 1 from rfl, Nat.reduceMul, Nat.reduceEqDiff, Go.Addr.add, ↓reduceIte] at hx567_0)
      have qi567 : (1 < l0.length) = True := eq_true (by omega)
      (try rw [show ((1 : Int)).toNat = 1 from rfl] at hx567_0)
      replace hx567_0 := lb_ HB hx567_0
      replace p567 := eq_true p567
      replace q567 := eq_true q567
      go_upto_if 64 with (first | ((with_reducible refine gate_callee (f := 181) rfl ?_); refine goesL_ (some 63) rfl rfl Try.func181 (by kernel_rfl) rfl #[.agg #[.int .i64 (wrap64 (rd l0 0)), .string (⟨#[]⟩ : ByteArray), .int .i64 (wrap64 (rd l0 1))]] rfl la_ ?_; (with_reducible refine (spec_FrameOk.calls k (wrap64 (rd l0 0)) (⟨#[]⟩ : ByteArray) (wrap64 (rd l0 1)) t568 _ A32.out).mono ?_); rintro e w36 ⟨rfl, hb⟩; refine ⟨_, rfl, ?_⟩; replace BK562 := am_ (blk_below (g := gb562) (o := .cells #[.int .i64 0, .string (⟨#[]⟩ : ByteArray), .int .i64 0] 47 (0, 0)) (by (with_reducible repeat (first | refine blk_drewN ?_ _ | refine blk_drew ?_ | refine blk_alloc ?_ _)); refine blk_far ?_ NB562_564.out _; exact qK BK562) hb); replace BK564 := am_ (blk_below (g := gb564) (o := .cells #[.int .i64 (wrap64 (rd l0 0)), .string (⟨#[]⟩ : ByteArray), .int .i64 (wrap64 (rd l0 1))] 47 (0, 0)) (by (with_reducible repeat (first | refine blk_drewN ?_ _ | refine blk_drew ?_ | refine blk_alloc ?_ _)); refine blk_put (cs := #[.int .i64 (wrap64 (rd l0 0)), .string (⟨#[]⟩ : ByteArray), .int .i64 0]) ?_ 2 _ rfl; exact qK BK564) hb); replace HB := am_ (below_step (qB HB) hb); (try clear hb); (try clear hb2); (try clear hk); (try clear hi)))
      (try simp only [Act.put, List.setIfInBounds_toArray, List.set_cons_zero, List.set_cons_succ])
      have H := HC33.out
      clear HC33
      by_cases c37 : t568 = true
      ·
       subst c37
       rw [if_pos rfl] at H
       simp only [Option.some.injEq, Prod.mk.injEq] at H
       obtain ⟨rfl, rfl, rfl, rfl, rfl⟩ := H
       have hnb38 := NB564_562.out
       have hnc38 := NB562_564.out
       obtain ⟨z39_0, z39_1, z39_2⟩ := cz3 BK564.out
       obtain ⟨f39_0, f39_1, f39_2⟩ := fz3 BK564.out
       obtain ⟨z40_0, z40_1, z40_2⟩ := cz3 BK562.out
       obtain ⟨f40_0, f40_1, f40_2⟩ := fz3 BK562.out
       go_wp2
       refine bodyPost_ret (results_ctt rfl _ _ gb562 47 #[.int .i64 (wrap64 (rd l0 0)), .string (⟨#[]⟩ : ByteArray), .int .i64 (wrap64 (rd l0 1))] (0, 0) _ rfl (by refine blk_all3 (show _ = some (Go.Obj.cells #[.int .i64 0, .string (⟨#[]⟩ : ByteArray), .int .i64 0] _ (0, 0)) from ?_); exact qK BK562) Try.underlying47 rfl (by kernel_rfl)) rfl ?_
       exact ⟨er_, qB HB⟩
      ·
       replace c37 := Bool.eq_false_iff.mpr c37
       subst c37
       rw [if_neg (show ¬ (false = true) by decide)] at H
       simp only [Option.some.injEq, Prod.mk.injEq] at H
       obtain ⟨rfl, rfl, rfl, rfl, rfl⟩ := H
       have hnb41 := NB562_564.out
       have hnc41 := NB564_562.out
       obtain ⟨z42_0, z42_1, z42_2⟩ := cz3 BK562.out
       obtain ⟨f42_0, f42_1, f42_2⟩ := fz3 BK562.out
       go_wp2
       refine bodyPost_ret (results_ctt rfl _ _ gb562 47 #[.int .i64 0, .string (⟨#[]⟩ : ByteArray), .int .i64 0] (0, 0) _ rfl (by refine blk_all3 (show _ = some (Go.Obj.cells #[.int .i64 0, .string (⟨#[]⟩ : ByteArray), .int .i64 0] _ (0, 0)) from ?_); exact qK BK562) Try.underlying47 rfl (by kernel_rfl)) rfl ?_
       exact ⟨er_, qB HB⟩
     ·
      rw [if_neg c30] at H
      have c30b0 : ((wrap64 (rd l0 0)) == 5) = false := beq_eq_false_iff_ne.mpr c30
      have c30b1 : ((wrap64 (rd l0 0)) != 5) = true := bne_iff_ne.mpr c30
      by_cases c43 : 1 < (l0.length : Int)
      case neg => exact nn_ c43 H
      rw [if_pos c43] at H
      have c43b0 : decide (1 < (l0.length : Int)) = true := decide_eq_true c43
      have c43b1 : decide (1 < l0.length) = true := decide_eq_true (by omega)
      clear c43
      by_cases c44 : (wrap64 (rd l0 1)) > 100
      ·
       rw [if_pos c44] at H
       have c44b0 : decide (100 < (wrap64 (rd l0 1))) = true := decide_eq_true c44
       clear c44
       simp only [Option.some.injEq, Prod.mk.injEq] at H
       obtain ⟨rfl, rfl, rfl, rfl, rfl⟩ := H
       have hnb45 := NB564_562.out
       have hnc45 := NB562_564.out
       obtain ⟨z46_0, z46_1, z46_2⟩ := cz3 BK564.out
       obtain ⟨f46_0, f46_1, f46_2⟩ := fz3 BK564.out
       have p569 : 0 ≤ (1 : Int) := (by omega)
       have q569 : 1 < (l0.length : Int) := od_
       obtain ⟨ad569, e569, hx569_0⟩ := Kd.at_int HR0.out 1 p569 q569
       obtain rfl : ad563 = ad569 := (by injection e569)
       (try simp only [show (1 : Int).toNat = 1 from rfl, Nat.reduceMul, Nat.reduceEqDiff, Go.Addr.add, ↓reduceIte] at hx569_0)
       have qi569 : (1 < l0.length) = True := eq_true (by omega)
       (try rw [show ((1 : Int)).toNat = 1 from rfl] at hx569_0)
       replace hx569_0 := lb_ HB hx569_0
       replace p569 := eq_true p569
       replace q569 := eq_true q569
       obtain ⟨z47_0, z47_1, z47_2⟩ := cz3 BK562.out
       obtain ⟨f47_0, f47_1, f47_2⟩ := fz3 BK562.out
       go_wp2
       refine bodyPost_ret (results_ctt rfl _ _ gb562 47 #[.int .i64 0, .string (⟨#[]⟩ : ByteArray), .int .i64 0] (0, 0) _ rfl (by refine blk_all3 (show _ = some (Go.Obj.cells #[.int .i64 0, .string (⟨#[]⟩ : ByteArray), .int .i64 0] _ (0, 0)) from ?_); exact qK BK562) Try.underlying47 rfl (by kernel_rfl)) rfl ?_
       exact ⟨er_, qB HB⟩
      ·
       rw [if_neg c44] at H
       have c44b0 : decide (100 < (wrap64 (rd l0 1))) = false := decide_eq_false c44
       clear c44
       by_cases c48 : (wrap64 (rd l0 1)) > (wrap64 ((l0.length : Int) - 2))
       ·
        rw [if_pos c48] at H
        have c48b0 : decide ((wrap64 ((l0.length : Int) - 2)) < (wrap64 (rd l0 1))) = true := decide_eq_true c48
        clear c48
        simp only [Option.some.injEq, Prod.mk.injEq] at H
        obtain ⟨rfl, rfl, rfl, rfl, rfl⟩ := H
        have hnb49 := NB564_562.out
        have hnc49 := NB562_564.out
        obtain ⟨z50_0, z50_1, z50_2⟩ := cz3 BK564.out
        obtain ⟨f50_0, f50_1, f50_2⟩ := fz3 BK564.out
        have p569 : 0 ≤ (1 : Int) := (by omega)
        have q569 : 1 < (l0.length : Int) := od_
        obtain ⟨ad569, e569, hx569_0⟩ := Kd.at_int HR0.out 1 p569 q569
        obtain rfl : ad563 = ad569 := (by injection e569)
        (try simp only [show (1 : Int).toNat = 1 from rfl, Nat.reduceMul, Nat.reduceEqDiff, Go.Addr.add, ↓reduceIte] at hx569_0)
        have qi569 : (1 < l0.length) = True := eq_true (by omega)
        (try rw [show ((1 : Int)).toNat = 1 from rfl] at hx569_0)
        replace hx569_0 := lb_ HB hx569_0
        replace p569 := eq_true p569
        replace q569 := eq_true q569
        obtain ⟨z51_0, z51_1, z51_2⟩ := cz3 BK562.out
        obtain ⟨f51_0, f51_1, f51_2⟩ := fz3 BK562.out
        go_wp2
        refine bodyPost_ret (results_ctt rfl _ _ gb562 47 #[.int .i64 0, .string (⟨#[]⟩ : ByteArray), .int .i64 0] (0, 0) _ rfl (by refine blk_all3 (show _ = some (Go.Obj.cells #[.int .i64 0, .string (⟨#[]⟩ : ByteArray), .int .i64 0] _ (0, 0)) from ?_); exact qK BK562) Try.underlying47 rfl (by kernel_rfl)) rfl ?_
        exact ⟨er_, qB HB⟩
       ·
        rw [if_neg c48] at H
        have c48b0 : decide ((wrap64 ((l0.length : Int) - 2)) < (wrap64 (rd l0 1))) = false := decide_eq_false c48
        clear c48
        by_cases c52 : 2 ≤ (wrap64 (2 + (wrap64 (rd l0 1))))
        case neg => exact nn_ c52 H
        rw [if_pos c52] at H
        have c52b0 := eq_true c52
        have c52b1 : decide (2 ≤ (wrap64 (2 + (wrap64 (rd l0 1))))) = true := decide_eq_true c52
        by_cases c53 : (wrap64 (2 + (wrap64 (rd l0 1)))) ≤ (l0.length : Int)
        case neg => exact nn_ c53 H
        rw [if_pos c53] at H
        have c53b0 := eq_true c53
        have c53b1 : decide ((wrap64 (2 + (wrap64 (rd l0 1)))) ≤ (l0.length : Int)) = true := decide_eq_true c53
        obtain ⟨t571, A54, H⟩ := bd_ H
        have HC55 := Aside0.mk H
        clear H
        have hnb56 := NB564_562.out
        have hnc56 := NB562_564.out
        obtain ⟨z57_0, z57_1, z57_2⟩ := cz3 BK564.out
        obtain ⟨f57_0, f57_1, f57_2⟩ := fz3 BK564.out
        have p569 : 0 ≤ (1 : Int) := (by omega)
        have q569 : 1 < (l0.length : Int) := od_
        obtain ⟨ad569, e569, hx569_0⟩ := Kd.at_int HR0.out 1 p569 q569
        obtain rfl : ad563 = ad569 := (by injection e569)
        (try simp only [show (1 : Int).toNat = 1 from rfl, Nat.reduceMul, Nat.reduceEqDiff, Go.Addr.add, ↓reduceIte] at hx569_0)
        have qi569 : (1 < l0.length) = True := eq_true (by omega)
        (try rw [show ((1 : Int)).toNat = 1 from rfl] at hx569_0)
        replace hx569_0 := lb_ HB hx569_0
        replace p569 := eq_true p569
        replace q569 := eq_true q569
        obtain ⟨i058, hi058, _, hsz58, _⟩ := info_parts info5
        obtain ⟨A58, hcut58, hA58, hC58⟩ := print_mid_of (P := Try.prog) (Value.int .u8) 0 22 5 .i64 .i64 Try.underlying22 hi058 hsz58 (some ad563) c0 l0 2 (wrap64 (2 + (wrap64 (rd l0 1)))) (by omega) (by first | omega | exact od_) od_ HC0.out
        have HR570 := Aside0.mk (Kd.C_of_reads (h1 := fun _ => rfl) (hA58 _ (Kd.reads_of_C HR0.out)))
        have HC570 := Aside0.mk hC58
        clear hA58 hC58 hi058 hsz58
        have hcv59 := Go.Proofs.YtaimfkfpglhijaaV.conv_len (Kd.C_string (P := Try.prog) (A := A58) (c := (c0 - 2)) Try.underlying22 Try.underlying5 Try.underlying9 (Kd.C_below HR570.out HB.out))
        go_upto_if 64 with (first | ((with_reducible refine gate_callee (f := 181) rfl ?_); refine goesL_ (some 63) rfl rfl Try.func181 (by kernel_rfl) rfl #[.agg #[.int .i64 (wrap64 (rd l0 0)), .string (strOfNums ((l0.take ((wrap64 (2 + (wrap64 (rd l0 1)))) : Int).toNat).drop 2)), .int .i64 0]] rfl la_ ?_; (with_reducible refine (spec_FrameOk.calls k (wrap64 (rd l0 0)) (strOfNums ((l0.take ((wrap64 (2 + (wrap64 (rd l0 1)))) : Int).toNat).drop 2)) 0 t571 _ A54.out).mono ?_); rintro e w60 ⟨rfl, hb⟩; refine ⟨_, rfl, ?_⟩; replace BK562 := am_ (blk_below (g := gb562) (o := .cells #[.int .i64 0, .string (⟨#[]⟩ : ByteArray), .int .i64 0] 47 (0, 0)) (by (with_reducible repeat (first | refine blk_drewN ?_ _ | refine blk_drew ?_ | refine blk_alloc ?_ _)); refine blk_far ?_ NB562_564.out _; exact qK BK562) hb); replace BK564 := am_ (blk_below (g := gb564) (o := .cells #[.int .i64 (wrap64 (rd l0 0)), .string (strOfNums ((l0.take ((wrap64 (2 + (wrap64 (rd l0 1)))) : Int).toNat).drop 2)), .int .i64 0] 47 (0, 0)) (by (with_reducible repeat (first | refine blk_drewN ?_ _ | refine blk_drew ?_ | refine blk_alloc ?_ _)); refine blk_put (cs := #[.int .i64 (wrap64 (rd l0 0)), .string (⟨#[]⟩ : ByteArray), .int .i64 0]) ?_ 1 _ rfl; exact qK BK564) hb); replace HB := am_ (below_step (qB HB) hb); (try clear hb); (try clear hb2); (try clear hk); (try clear hi)))
        (try simp only [Act.put, List.setIfInBounds_toArray, List.set_cons_zero, List.set_cons_succ])
        have H := HC55.out
        clear HC55
        by_cases c61 : t571 = true
        ·
         subst c61
         rw [if_pos rfl] at H
         simp only [Option.some.injEq, Prod.mk.injEq] at H
         obtain ⟨rfl, rfl, rfl, rfl, rfl⟩ := H
         have hnb62 := NB564_562.out
         have hnc62 := NB562_564.out
         obtain ⟨z63_0, z63_1, z63_2⟩ := cz3 BK564.out
         obtain ⟨f63_0, f63_1, f63_2⟩ := fz3 BK564.out
         obtain ⟨z64_0, z64_1, z64_2⟩ := cz3 BK562.out
         obtain ⟨f64_0, f64_1, f64_2⟩ := fz3 BK562.out
         go_wp2
         refine bodyPost_ret (results_ctt rfl _ _ gb562 47 #[.int .i64 (wrap64 (rd l0 0)), .string (strOfNums ((l0.take ((wrap64 (2 + (wrap64 (rd l0 1)))) : Int).toNat).drop 2)), .int .i64 0] (0, 0) _ rfl (by refine blk_all3 (show _ = some (Go.Obj.cells #[.int .i64 0, .string (⟨#[]⟩ : ByteArray), .int .i64 0] _ (0, 0)) from ?_); exact qK BK562) Try.underlying47 rfl (by kernel_rfl)) rfl ?_
         exact ⟨er_, qB HB⟩
        ·
         replace c61 := Bool.eq_false_iff.mpr c61
         subst c61
         rw [if_neg (show ¬ (false = true) by decide)] at H
         simp only [Option.some.injEq, Prod.mk.injEq] at H
         obtain ⟨rfl, rfl, rfl, rfl, rfl⟩ := H
         have hnb65 := NB562_564.out
         have hnc65 := NB564_562.out
         obtain ⟨z66_0, z66_1, z66_2⟩ := cz3 BK562.out
         obtain ⟨f66_0, f66_1, f66_2⟩ := fz3 BK562.out
         go_wp2
         refine bodyPost_ret (results_ctt rfl _ _ gb562 47 #[.int .i64 0, .string (⟨#[]⟩ : ByteArray), .int .i64 0] (0, 0) _ rfl (by refine blk_all3 (show _ = some (Go.Obj.cells #[.int .i64 0, .string (⟨#[]⟩ : ByteArray), .int .i64 0] _ (0, 0)) from ?_); exact qK BK562) Try.underlying47 rfl (by kernel_rfl)) rfl ?_
         exact ⟨er_, qB HB⟩
  ·
   replace c13 := Bool.eq_false_iff.mpr c13
   subst c13
   rw [if_neg (show ¬ (false = true) by decide)] at H
   simp only [Option.some.injEq, Prod.mk.injEq] at H
   obtain ⟨rfl, rfl, rfl, rfl, rfl⟩ := H
   have hnb67 := NB562_564.out
   have hnc67 := NB564_562.out
   obtain ⟨z68_0, z68_1, z68_2⟩ := cz3 BK562.out
   obtain ⟨f68_0, f68_1, f68_2⟩ := fz3 BK562.out
   go_wp2
   refine bodyPost_ret (results_ctt rfl _ _ gb562 47 #[.int .i64 0, .string (⟨#[]⟩ : ByteArray), .int .i64 0] (0, 0) _ rfl (by refine blk_all3 (show _ = some (Go.Obj.cells #[.int .i64 0, .string (⟨#[]⟩ : ByteArray), .int .i64 0] _ (0, 0)) from ?_); exact qK BK562) Try.underlying47 rfl (by kernel_rfl)) rfl ?_
   exact ⟨er_, qB HB⟩
end Go.Proofs.Ytaimfkfpglhijaa.PFnFar
