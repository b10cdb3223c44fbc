-- Written by a program of this session (myprint.py, over the kit's print): contracts of FnExactSend
import Derived.Test.YtiffahfpfgnjnabPFnExactSendx0
import Derived.Test.YtiffahfpfgnjnabPFnExactSendx11
namespace Go.Proofs.Ytiffahfpfgnjnab.PFnExactSend
open Go.RowKit Go.Proofs.YtiffahfpfgnjnabW.PrintWords Go.Proofs.YtiffahfpfgnjnabW.PrintLast Go.Proofs.YtiffahfpfgnjnabW.PrintMore Go.Proofs.YtiffahfpfgnjnabV
attribute [local go_sem] max2_int min2_int max_two min_two max_three min_three max_four min_four   -- for this text's walks alone
set_option linter.unusedVariables false
set_option linter.unusedSimpArgs false

/-! ### impl_putSince: function 127 -/
def impl_putSince.f (l0 : List Int) (a1 : Int) : Option (List Int) := (impl_PutWord.f l0 (wrap64 (Int.tdiv a1 256))).bind fun t452 => (if t452.length < 140737488355328 then (some (t452 ++ [(Int.tmod a1 256) % 256])) else (none))
set_option maxHeartbeats 8000000 in
set_option maxRecDepth 100000 in
theorem impl_putSince.calls (A0 : Option Addr) (c0 : Nat) (l0 : List Int) (a1 : Int) (r : List Int) (w : World) (hr0 : Kd.C (Kd.int .u8) w A0 l0.length l0) (hc0 : l0.length ≤ c0) (h : impl_putSince.f l0 a1 = some r) :
  Calls Try.prog 127 #[.slice A0 l0.length c0, .int .i64 a1] w fun e w' => ∃ v0_ : Value, e = .returned (v0_) ∧ Kd.R (Kd.int .u8) 5 w' w.heap.size (fun _ => True) v0_ r ∧ Below w.heap.size w w' := by
 have HR0 := Aside0.mk hr0
 have HC0 := Aside0.mk hc0
 clear hr0 hc0
 have HB := Aside0.mk (Below.refl w.heap.size w)
 have H := h
 unfold impl_putSince.f at H
 clear h
 replace H := bd_ H
 obtain ⟨t452, A3, H⟩ := H
 by_cases c4 : t452.length < 140737488355328
 case neg => exact nn_ c4 H
 rw [if_pos c4] at H
 have LMc4 := Aside0.mk c4
 clear c4
 obtain ⟨y455, hy455⟩ : ∃ y_ : List Int, y_ = (t452 ++ [(Int.tmod a1 256) % 256]) := ⟨_, rfl⟩
 rw [← hy455] at H
 have Ny455 := Aside0.mk hy455
 clear hy455
 obtain rfl := Option.some.inj H
 go_enter Try.func127, Try.ntmps127
 go_wp2_with (first | ((with_reducible refine gate_callee (f := 112) rfl ?_); refine goesL_ (some 8) rfl rfl Try.func112 (by kernel_rfl) rfl #[.slice A0 l0.length c0, .int .i64 (wrap64 (Int.tdiv a1 256))] rfl la_ ?_; (with_reducible refine (impl_PutWord.calls _ _ l0 (wrap64 (Int.tdiv a1 256)) t452 _ ?side1 ?side2 A3.out).mono ?_); (case side1 => exact qC (HR0.out)); (case side2 => exact HC0.out); rintro e w5 ⟨v453, rfl, ho0, hb⟩; refine ⟨_, rfl, ?_⟩; have HO454 := am_ (Kd.R_lower ho0 (below_size (qB HB))); replace HB := bS_ HB hb; (try clear hb); (try clear ho0)) | ((with_reducible refine gate_builtin (b := .append) (xs := #[.tmp 8, .tmp 12]) rfl ?_); at_builtin; refine Kd.R_append (Kd.int .u8) (w0 := w) w.heap.size rfl (.tmp 8) (.tmp 12) 70 5 (.int .u8 0) 1 rfl Try.underlying70 info5 rfl (by decide) (by omega) v453 t452 ((Int.tmod a1 256) % 256) [.int .u8 ((Int.tmod a1 256) % 256)] (fun _ => True) (fun _ => False) rfl rfl ?aP (fun _ hk => hk.elim) ?aF ?aO ?aB ?aS ?aL ?_; (case aP => exact rfl); (case aB => exact (qB HB)); (case aF => exact (fun _ _ => trivial)); (case aO => exact (qR HO454)); (case aS => exact (below_size (qB HB))); (case aL => have := LMc4.out; omega); intro v456 w6 ho hb hg hat; rw [← Ny455.out] at ho; replace HB := am_ (hb); have HO457 := am_ (ho); clear HO454; clear ho hb hg hat))
 go_ret
 exact ⟨_, er_, qR HO457, qB HB⟩

/-! ### impl_LineOk: function 128 -/
def impl_LineOk.j0 : Nat → Bool → Int → ByteArray → Int → Int → Int → Int → Int → Option (Bool)
 | 0, _, _, _, _, _, _, _, _ => none
 | k + 1, x18, x459000, x459001, x459002, x459003, x459004, x459005, x459006 => if x18 = true then (some false) else (if x459003 = 0 then ((impl_sinceOk.f x459004).bind fun t462 => (if t462 = true then (if x459005 = 0 then (some (x459006 == 0)) else (some false)) else (some false))) else (if x459003 = 1 then (if x459004 = 0 then ((impl_sockIdOk.f x459005).bind fun t463 => (if t463 = true then (some (decide (x459006 ≥ 1))) else (some false))) else (some false)) else (if x459003 = 2 then (if x459004 = 0 then ((impl_sockIdOk.f x459005).bind fun t464 => (if t464 = true then (some (decide (x459006 ≥ 1))) else (some false))) else (some false)) else (some false))))
def impl_LineOk.f (k : Nat) (a0_0 : Int) (a0_1 : ByteArray) (a0_2 : Int) (a0_3 : Int) (a0_4 : Int) (a0_5 : Int) (a0_6 : Int) : Option (Bool) := (impl_sockIdOk.f a0_0).bind fun t459 => (if t459 = true then ((impl_nameOk.f k a0_1).bind fun t460 => (if t460 = true then ((impl_isIn.f a0_2 1 60000).bind fun t461 => (impl_LineOk.j0 k (!t461) a0_0 a0_1 a0_2 a0_3 a0_4 a0_5 a0_6)) else (impl_LineOk.j0 k true a0_0 a0_1 a0_2 a0_3 a0_4 a0_5 a0_6))) else (impl_LineOk.j0 k true a0_0 a0_1 a0_2 a0_3 a0_4 a0_5 a0_6))
theorem impl_LineOk.mono_l : ∀ k, (∀ y0 y1 y2 y3 y4 y5 y6 y7, LeO (impl_LineOk.j0 k y0 y1 y2 y3 y4 y5 y6 y7) (impl_LineOk.j0 (k + 1) y0 y1 y2 y3 y4 y5 y6 y7))
 | 0 => fun _ _ _ _ _ _ _ _ r h => by simp [impl_LineOk.j0] at h
 | k + 1 => by
  have ih0 := impl_LineOk.mono_l k
  ·
   intro y0 y1 y2 y3 y4 y5 y6 y7
   unfold impl_LineOk.j0
   repeat' first
   | (with_reducible exact ih0 _ _ _ _ _ _ _ _)
   | (with_reducible exact impl_nameOk.mono _ _)
   | (with_reducible exact LeO.refl _)
   | (with_reducible exact LeO.none _)
   | (with_reducible refine LeO.ite ?_ ?_)
   | (with_reducible refine LeO.bind ?_ (fun _ => ?_))
theorem impl_LineOk.mono : ∀ a0 a1 a2 a3 a4 a5 a6 k, LeO (impl_LineOk.f k a0 a1 a2 a3 a4 a5 a6) (impl_LineOk.f (k + 1) a0 a1 a2 a3 a4 a5 a6) := by
 intro a0 a1 a2 a3 a4 a5 a6 k
 have ih0 := impl_LineOk.mono_l k
 unfold impl_LineOk.f
 repeat' first
   | (with_reducible exact ih0 _ _ _ _ _ _ _ _)
   | (with_reducible exact impl_nameOk.mono _ _)
   | (with_reducible exact LeO.refl _)
   | (with_reducible exact LeO.none _)
   | (with_reducible refine LeO.ite ?_ ?_)
   | (with_reducible refine LeO.bind ?_ (fun _ => ?_))
set_option maxHeartbeats 8000000 in
set_option maxRecDepth 100000 in
theorem impl_LineOk.calls (k : Nat) (a0_0 : Int) (a0_1 : ByteArray) (a0_2 : Int) (a0_3 : Int) (a0_4 : Int) (a0_5 : Int) (a0_6 : Int) (r : Bool) (w : World) (h : impl_LineOk.f k a0_0 a0_1 a0_2 a0_3 a0_4 a0_5 a0_6 = some r) :
  Calls Try.prog 128 #[.agg #[.int .i64 a0_0, .string a0_1, .int .i64 a0_2, .int .i64 a0_3, .int .i64 a0_4, .int .i64 a0_5, .int .i64 a0_6]] w fun e w' => e = .returned (.bool r) ∧ Below w.heap.size w w' := by
 have hu124 := Try.underlying124
 have HB := Aside0.mk (Below.refl w.heap.size w)
 have H := h
 unfold impl_LineOk.f at H
 clear h
 have HC2 := Aside0.mk H
 clear H
 go_enter Try.func128, Try.ntmps128
 go_upto_region 1 with (first | ((with_reducible refine gate_dst (N := 1) rfl ?_); refine box_event ?hg (N := 1) ?hd (cs := #[.int .i64 a0_0, .string a0_1, .int .i64 a0_2, .int .i64 a0_3, .int .i64 a0_4, .int .i64 a0_5, .int .i64 a0_6]) (t := 124) ?hr ?_; (case hd => rfl); (case hg => rfl); (case hr => first | (go_simp; done) | (go_simp; rfl)); intro gb458 hg w3 hbox hb; have BK458 := am_ (hbox); have GW458 := gA_ hg HB; have GE458 := GW458; have IGE458 := gI_ GE458; replace HB := bS_ HB hb; clear hb hbox hg))
 (try simp only [Act.put, List.setIfInBounds_toArray, List.set_cons_zero, List.set_cons_succ])
 go_cut [18] (fun v18 wc => ∃ (kq : Nat) (x18_1 : Bool), v18 = .bool x18_1 ∧ Aside0 (impl_LineOk.j0 kq x18_1 a0_0 a0_1 a0_2 a0_3 a0_4 a0_5 a0_6 = some r) ∧ Aside0 (kq ≤ k) ∧ Aside0 (wc.heap[gb458]? = some (.cells #[.int .i64 a0_0, .string a0_1, .int .i64 a0_2, .int .i64 a0_3, .int .i64 a0_4, .int .i64 a0_5, .int .i64 a0_6] 124 (0, 0))) ∧ Aside0 (Below w.heap.size w wc))
 case first =>
  have H := HC2.out
  clear HC2
  replace H := bd_ H
  obtain ⟨t459, A4, H⟩ := H
  by_cases c5 : t459 = true
  rotate_left
  ·
   replace c5 := Bool.eq_false_iff.mpr c5
   subst c5
   rw [if_neg (show ¬ (false = true) by decide)] at H
   have H' := Aside0.mk H
   clear H
   have z11 := cz7 BK458.out
   go_wp2_with (first | ((with_reducible refine gate_callee (f := 135) rfl ?_); refine goesL_ (some 5) rfl rfl Try.func135 (by kernel_rfl) rfl #[.int .i64 a0_0] rfl la_ ?_; (with_reducible refine (impl_sockIdOk.calls a0_0 false _ A4.out).mono ?_); rintro e w' ⟨rfl, ⟨nd, rfl⟩⟩; refine ⟨_, rfl, ?_⟩))
   go_meet
   case rel => exact ⟨_, (true), eqq_, H', ⟨by first | omega | exact Nat.le_refl _⟩, ⟨qK BK458⟩, ⟨qB HB⟩⟩
  subst c5
  rw [if_pos rfl] at H
  replace H := bd_ H
  obtain ⟨t460, A6, H⟩ := H
  by_cases c7 : t460 = true
  rotate_left
  ·
   replace c7 := Bool.eq_false_iff.mpr c7
   subst c7
   rw [if_neg (show ¬ (false = true) by decide)] at H
   have H' := Aside0.mk H
   clear H
   have z10 := cz7 BK458.out
   go_wp2_with (first | ((with_reducible refine gate_callee (f := 135) rfl ?_); refine goesL_ (some 5) rfl rfl Try.func135 (by kernel_rfl) rfl #[.int .i64 a0_0] rfl la_ ?_; (with_reducible refine (impl_sockIdOk.calls a0_0 true _ A4.out).mono ?_); rintro e w' ⟨rfl, ⟨nd, rfl⟩⟩; refine ⟨_, rfl, ?_⟩) | (go_at_call 136; (with_reducible refine (impl_nameOk.calls k a0_1 false _ A6.out).mono ?_); rintro e w' ⟨rfl, ⟨nd, rfl⟩⟩))
   go_meet
   case rel => exact ⟨_, (true), eqq_, H', ⟨by first | omega | exact Nat.le_refl _⟩, ⟨qK BK458⟩, ⟨qB HB⟩⟩
  subst c7
  rw [if_pos rfl] at H
  replace H := bd_ H
  obtain ⟨t461, A8, H⟩ := H
  have H' := Aside0.mk H
  clear H
  have z9 := cz7 BK458.out
  go_wp2_with (first | ((with_reducible refine gate_callee (f := 135) rfl ?_); refine goesL_ (some 5) rfl rfl Try.func135 (by kernel_rfl) rfl #[.int .i64 a0_0] rfl la_ ?_; (with_reducible refine (impl_sockIdOk.calls a0_0 true _ A4.out).mono ?_); rintro e w' ⟨rfl, ⟨nd, rfl⟩⟩; refine ⟨_, rfl, ?_⟩) | (go_at_call 136; (with_reducible refine (impl_nameOk.calls k a0_1 true _ A6.out).mono ?_); rintro e w' ⟨rfl, ⟨nd, rfl⟩⟩) | (go_at_call 45; (with_reducible refine (impl_isIn.calls a0_2 1 60000 t461 _ A8.out).mono ?_); rintro e w' ⟨rfl, ⟨nd, rfl⟩⟩))
  go_meet
  case rel => exact ⟨_, (!t461), eqq_, H', ⟨by first | omega | exact Nat.le_refl _⟩, ⟨qK BK458⟩, ⟨qB HB⟩⟩
 case rest =>
  clear HC2
  try clear c1
  try clear p2
  try clear c5
  try clear c7
  (try clear z10)
  (try clear z11)
  (try clear z9)
  (try clear f10)
  (try clear f11)
  (try clear f9)
  obtain ⟨kq, x18_1, rfl, HA, HJ1, BK458, HB⟩ := hcut
  cases kq with
  | zero => exact absurd HA.out (by simp [impl_LineOk.j0])
  | succ kj1 =>
   have H := HA.out
   clear HA
   simp only [impl_LineOk.j0] at H
   by_cases c12 : x18_1 = true
   ·
    subst c12
    rw [if_pos rfl] at H
    obtain rfl := Option.some.inj H
    go_wp2
    go_ret
    exact ⟨er_, qB HB⟩
   replace c12 := Bool.eq_false_iff.mpr c12
   subst c12
   rw [if_neg (show ¬ (false = true) by decide)] at H
   by_cases c13 : a0_3 = 0
   ·
    rw [if_pos c13] at H
    have c13b0 : (a0_3 == 0) = true := beq_iff_eq.mpr c13
    have c13b1 : (a0_3 != 0) = false := bne_eq_false_iff_eq.mpr c13
    clear c13
    replace H := bd_ H
    obtain ⟨t462, A14, H⟩ := H
    by_cases c15 : t462 = true
    rotate_left
    ·
     replace c15 := Bool.eq_false_iff.mpr c15
     subst c15
     rw [if_neg (show ¬ (false = true) by decide)] at H
     obtain rfl := Option.some.inj H
     have z19 := cz7 BK458.out
     go_wp2_with (first | ((with_reducible refine gate_callee (f := 137) rfl ?_); refine goesL_ (some 25) rfl rfl Try.func137 (by kernel_rfl) rfl #[.int .i64 a0_4] rfl la_ ?_; (with_reducible refine (impl_sinceOk.calls a0_4 false _ A14.out).mono ?_); rintro e w' ⟨rfl, ⟨nd, rfl⟩⟩; refine ⟨_, rfl, ?_⟩))
     go_ret
     exact ⟨er_, qB HB⟩
    subst c15
    rw [if_pos rfl] at H
    by_cases c16 : a0_5 = 0
    rotate_left
    ·
     rw [if_neg c16] at H
     have c16b0 : (a0_5 == 0) = false := beq_eq_false_iff_ne.mpr c16
     have c16b1 : (a0_5 != 0) = true := bne_iff_ne.mpr c16
     obtain rfl := Option.some.inj H
     have z18 := cz7 BK458.out
     go_wp2_with (first | ((with_reducible refine gate_callee (f := 137) rfl ?_); refine goesL_ (some 25) rfl rfl Try.func137 (by kernel_rfl) rfl #[.int .i64 a0_4] rfl la_ ?_; (with_reducible refine (impl_sinceOk.calls a0_4 true _ A14.out).mono ?_); rintro e w' ⟨rfl, ⟨nd, rfl⟩⟩; refine ⟨_, rfl, ?_⟩))
     go_ret
     exact ⟨er_, qB HB⟩
    rw [if_pos c16] at H
    have c16b0 : (a0_5 == 0) = true := beq_iff_eq.mpr c16
    have c16b1 : (a0_5 != 0) = false := bne_eq_false_iff_eq.mpr c16
    clear c16
    obtain rfl := Option.some.inj H
    have z17 := cz7 BK458.out
    go_wp2_with (first | ((with_reducible refine gate_callee (f := 137) rfl ?_); refine goesL_ (some 25) rfl rfl Try.func137 (by kernel_rfl) rfl #[.int .i64 a0_4] rfl la_ ?_; (with_reducible refine (impl_sinceOk.calls a0_4 true _ A14.out).mono ?_); rintro e w' ⟨rfl, ⟨nd, rfl⟩⟩; refine ⟨_, rfl, ?_⟩))
    go_ret
    exact ⟨er_, qB HB⟩
   rw [if_neg c13] at H
   have c13b0 : (a0_3 == 0) = false := beq_eq_false_iff_ne.mpr c13
   have c13b1 : (a0_3 != 0) = true := bne_iff_ne.mpr c13
   by_cases c20 : a0_3 = 1
   ·
    rw [if_pos c20] at H
    have c20b0 : (a0_3 == 1) = true := beq_iff_eq.mpr c20
    have c20b1 : (a0_3 != 1) = false := bne_eq_false_iff_eq.mpr c20
    clear c20
    by_cases c21 : a0_4 = 0
    rotate_left
    ·
     rw [if_neg c21] at H
     have c21b0 : (a0_4 == 0) = false := beq_eq_false_iff_ne.mpr c21
     have c21b1 : (a0_4 != 0) = true := bne_iff_ne.mpr c21
     obtain rfl := Option.some.inj H
     have z26 := cz7 BK458.out
     go_wp2
     go_ret
     exact ⟨er_, qB HB⟩
    rw [if_pos c21] at H
    have c21b0 : (a0_4 == 0) = true := beq_iff_eq.mpr c21
    have c21b1 : (a0_4 != 0) = false := bne_eq_false_iff_eq.mpr c21
    clear c21
    replace H := bd_ H
    obtain ⟨t463, A22, H⟩ := H
    by_cases c23 : t463 = true
    ·
     subst c23
     rw [if_pos rfl] at H
     obtain rfl := Option.some.inj H
     have z24 := cz7 BK458.out
     go_wp2_with (first | (go_at_call 135; (with_reducible refine (impl_sockIdOk.calls a0_5 true _ A22.out).mono ?_); rintro e w' ⟨rfl, ⟨nd, rfl⟩⟩))
     go_ret
     exact ⟨er_, qB HB⟩
    replace c23 := Bool.eq_false_iff.mpr c23
    subst c23
    rw [if_neg (show ¬ (false = true) by decide)] at H
    obtain rfl := Option.some.inj H
    have z25 := cz7 BK458.out
    go_wp2_with (first | (go_at_call 135; (with_reducible refine (impl_sockIdOk.calls a0_5 false _ A22.out).mono ?_); rintro e w' ⟨rfl, ⟨nd, rfl⟩⟩))
    go_ret
    exact ⟨er_, qB HB⟩
   rw [if_neg c20] at H
   have c20b0 : (a0_3 == 1) = false := beq_eq_false_iff_ne.mpr c20
   have c20b1 : (a0_3 != 1) = true := bne_iff_ne.mpr c20
   by_cases c27 : a0_3 = 2
   rotate_left
   ·
    rw [if_neg c27] at H
    have c27b0 : (a0_3 == 2) = false := beq_eq_false_iff_ne.mpr c27
    have c27b1 : (a0_3 != 2) = true := bne_iff_ne.mpr c27
    obtain rfl := Option.some.inj H
    have z34 := cz7 BK458.out
    go_wp2
    go_ret
    exact ⟨er_, qB HB⟩
   rw [if_pos c27] at H
   have c27b0 : (a0_3 == 2) = true := beq_iff_eq.mpr c27
   have c27b1 : (a0_3 != 2) = false := bne_eq_false_iff_eq.mpr c27
   clear c27
   by_cases c28 : a0_4 = 0
   rotate_left
   ·
    rw [if_neg c28] at H
    have c28b0 : (a0_4 == 0) = false := beq_eq_false_iff_ne.mpr c28
    have c28b1 : (a0_4 != 0) = true := bne_iff_ne.mpr c28
    obtain rfl := Option.some.inj H
    have z33 := cz7 BK458.out
    go_wp2
    go_ret
    exact ⟨er_, qB HB⟩
   rw [if_pos c28] at H
   have c28b0 : (a0_4 == 0) = true := beq_iff_eq.mpr c28
   have c28b1 : (a0_4 != 0) = false := bne_eq_false_iff_eq.mpr c28
   clear c28
   replace H := bd_ H
   obtain ⟨t464, A29, H⟩ := H
   by_cases c30 : t464 = true
   ·
    subst c30
    rw [if_pos rfl] at H
    obtain rfl := Option.some.inj H
    have z31 := cz7 BK458.out
    go_wp2_with (first | (go_at_call 135; (with_reducible refine (impl_sockIdOk.calls a0_5 true _ A29.out).mono ?_); rintro e w' ⟨rfl, ⟨nd, rfl⟩⟩))
    go_ret
    exact ⟨er_, qB HB⟩
   replace c30 := Bool.eq_false_iff.mpr c30
   subst c30
   rw [if_neg (show ¬ (false = true) by decide)] at H
   obtain rfl := Option.some.inj H
   have z32 := cz7 BK458.out
   go_wp2_with (first | (go_at_call 135; (with_reducible refine (impl_sockIdOk.calls a0_5 false _ A29.out).mono ?_); rintro e w' ⟨rfl, ⟨nd, rfl⟩⟩))
   go_ret
   exact ⟨er_, qB HB⟩

end Go.Proofs.Ytiffahfpfgnjnab.PFnExactSend
