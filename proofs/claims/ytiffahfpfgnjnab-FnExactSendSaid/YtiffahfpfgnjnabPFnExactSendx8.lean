-- Written by a program of this session (myprint.py, over the kit's print): contracts of FnExactSend
import Derived.Test.YtiffahfpfgnjnabPFnExactSendx0
import Derived.Test.YtiffahfpfgnjnabPFnExactSendx4
import Derived.Test.YtiffahfpfgnjnabPFnExactSendx7
namespace Go.Proofs.Ytiffahfpfgnjnab.PFnExactSend
open Go.RowKit Go.Proofs.YtiffahfpfgnjnabW.PrintWords Go.Proofs.YtiffahfpfgnjnabW.PrintLast Go.Proofs.YtiffahfpfgnjnabW.PrintMore Go.Proofs.YtiffahfpfgnjnabV
attribute [local go_sem] max2_int min2_int max_two min_two max_three min_three max_four min_four   -- for this text's walks alone
set_option linter.unusedVariables false
set_option linter.unusedSimpArgs false

/-! ### spec_CtlOk: function 69 -/
mutual
def spec_CtlOk.j0 : Nat → Bool → Int → Int → Int → Int → Int → Bool → Int → List (S126) → Option (Bool)
 | 0, _, _, _, _, _, _, _, _, _ => none
 | k + 1, x13, x260000, x260001, x260002, x260003, x260004, x260005, x260006, x260007 => if x13 = true then (some false) else (if x260000 = 1 then (spec_CtlOk.l0 k 0 x260000 x260001 x260002 x260003 x260004 x260005 x260006 x260007) else (if x260004 = 0 then (if x260005 = true then (some false) else (if x260006 = 0 then (if (x260007.length : Int) = 0 then (if x260000 = 2 then ((spec_l1In.f x260003 0 20).bind fun t269 => (if t269 = true then (some true) else (if x260000 = 3 then (some (x260003 == 0)) else (some false)))) else (if x260000 = 3 then (some (x260003 == 0)) else (some false))) else (some false)) else (some false))) else (some false)))
def spec_CtlOk.l0 : Nat → Int → Int → Int → Int → Int → Int → Bool → Int → List (S126) → Option (Bool)
 | 0, _, _, _, _, _, _, _, _, _ => none
 | k + 1, x3, x260000, x260001, x260002, x260003, x260004, x260005, x260006, x260007 => if x3 < (x260007.length : Int) then (if 0 ≤ x3 then ((spec_PutItem.f k ((rd_T126 x260007 x3).f0) ((rd_T126 x260007 x3).f1.f0) ((rd_T126 x260007 x3).f1.f1) ((rd_T126 x260007 x3).f1.f2) ((rd_T126 x260007 x3).f1.f3) ((rd_T126 x260007 x3).f1.f4) ((rd_T126 x260007 x3).f1.f5) ((rd_T126 x260007 x3).f1.f6) ((rd_T126 x260007 x3).f1.f7) ((rd_T126 x260007 x3).f2.f0) ((rd_T126 x260007 x3).f2.f1) ((rd_T126 x260007 x3).f2.f2) ((rd_T126 x260007 x3).f2.f3) ((rd_T126 x260007 x3).f2.f4) ((rd_T126 x260007 x3).f2.f5) ((rd_T126 x260007 x3).f2.f6)).bind fun t263 => (if (t263.length : Int) = 0 then (some false) else (spec_CtlOk.l0 k (wrap64 (x3 + 1)) x260000 x260001 x260002 x260003 x260004 x260005 x260006 x260007))) else (none)) else ((spec_l1In.f x260004 1 20).bind fun t266 => (if t266 = true then ((spec_l1In.f x260003 0 (wrap64 (x260004 - 1))).bind fun t267 => (if t267 = true then ((spec_l1In.f x260006 0 65535).bind fun t268 => (if t268 = true then (some (decide ((x260007.length : Int) ≤ 2))) else (some false))) else (some false))) else (some false)))
end
def spec_CtlOk.f (k : Nat) (a0_0 : Int) (a0_1 : Int) (a0_2 : Int) (a0_3 : Int) (a0_4 : Int) (a0_5 : Bool) (a0_6 : Int) (l0_7 : List (S126)) : Option (Bool) := (spec_l1In.f a0_1 0 1).bind fun t260 => (if t260 = true then ((spec_l1In.f a0_2 1 60000).bind fun t261 => (spec_CtlOk.j0 k (!t261) a0_0 a0_1 a0_2 a0_3 a0_4 a0_5 a0_6 l0_7)) else (spec_CtlOk.j0 k true a0_0 a0_1 a0_2 a0_3 a0_4 a0_5 a0_6 l0_7))
theorem spec_CtlOk.mono_l : ∀ k, (∀ y0 y1 y2 y3 y4 y5 y6 y7 y8, LeO (spec_CtlOk.j0 k y0 y1 y2 y3 y4 y5 y6 y7 y8) (spec_CtlOk.j0 (k + 1) y0 y1 y2 y3 y4 y5 y6 y7 y8)) ∧ (∀ y0 y1 y2 y3 y4 y5 y6 y7 y8, LeO (spec_CtlOk.l0 k y0 y1 y2 y3 y4 y5 y6 y7 y8) (spec_CtlOk.l0 (k + 1) y0 y1 y2 y3 y4 y5 y6 y7 y8))
 | 0 => ⟨fun _ _ _ _ _ _ _ _ _ r h => by simp [spec_CtlOk.j0] at h, fun _ _ _ _ _ _ _ _ _ r h => by simp [spec_CtlOk.l0] at h⟩
 | k + 1 => by
  obtain ⟨ih0, ih1⟩ := spec_CtlOk.mono_l k
  refine ⟨?_, ?_⟩
  ·
   intro y0 y1 y2 y3 y4 y5 y6 y7 y8
   unfold spec_CtlOk.j0
   repeat' first
   | (with_reducible exact ih0 _ _ _ _ _ _ _ _ _)
   | (with_reducible exact ih1 _ _ _ _ _ _ _ _ _)
   | (with_reducible exact spec_PutItem.mono _ _ _ _ _ _ _ _ _ _ _ _ _ _ _ _ _)
   | (with_reducible exact LeO.refl _)
   | (with_reducible exact LeO.none _)
   | (with_reducible refine LeO.ite ?_ ?_)
   | (with_reducible refine LeO.bind ?_ (fun _ => ?_))
  ·
   intro y0 y1 y2 y3 y4 y5 y6 y7 y8
   unfold spec_CtlOk.l0
   repeat' first
   | (with_reducible exact ih0 _ _ _ _ _ _ _ _ _)
   | (with_reducible exact ih1 _ _ _ _ _ _ _ _ _)
   | (with_reducible exact spec_PutItem.mono _ _ _ _ _ _ _ _ _ _ _ _ _ _ _ _ _)
   | (with_reducible exact LeO.refl _)
   | (with_reducible exact LeO.none _)
   | (with_reducible refine LeO.ite ?_ ?_)
   | (with_reducible refine LeO.bind ?_ (fun _ => ?_))
theorem spec_CtlOk.mono : ∀ a0 a1 a2 a3 a4 a5 a6 a7 k, LeO (spec_CtlOk.f k a0 a1 a2 a3 a4 a5 a6 a7) (spec_CtlOk.f (k + 1) a0 a1 a2 a3 a4 a5 a6 a7) := by
 intro a0 a1 a2 a3 a4 a5 a6 a7 k
 obtain ⟨ih0, ih1⟩ := spec_CtlOk.mono_l k
 unfold spec_CtlOk.f
 repeat' first
   | (with_reducible exact ih0 _ _ _ _ _ _ _ _ _)
   | (with_reducible exact ih1 _ _ _ _ _ _ _ _ _)
   | (with_reducible exact spec_PutItem.mono _ _ _ _ _ _ _ _ _ _ _ _ _ _ _ _ _)
   | (with_reducible exact LeO.refl _)
   | (with_reducible exact LeO.none _)
   | (with_reducible refine LeO.ite ?_ ?_)
   | (with_reducible refine LeO.bind ?_ (fun _ => ?_))
set_option maxHeartbeats 8000000 in
set_option maxRecDepth 100000 in
theorem spec_CtlOk.calls (k : Nat) (a0_0 : Int) (a0_1 : Int) (a0_2 : Int) (a0_3 : Int) (a0_4 : Int) (a0_5 : Bool) (a0_6 : Int) (A0_7 : Option Addr) (c0_7 : Nat) (l0_7 : List (S126)) (r : Bool) (w : World) (hr0_7 : Kd.C k126 w A0_7 l0_7.length l0_7) (hc0_7 : l0_7.length ≤ c0_7) (h : spec_CtlOk.f k a0_0 a0_1 a0_2 a0_3 a0_4 a0_5 a0_6 l0_7 = some r) :
  Calls Try.prog 69 #[.agg #[.int .i64 a0_0, .int .i64 a0_1, .int .i64 a0_2, .int .i64 a0_3, .int .i64 a0_4, .bool a0_5, .int .i64 a0_6, .slice A0_7 l0_7.length c0_7]] w fun e w' => e = .returned (.bool r) ∧ Below w.heap.size w w' := by
 have hu63 := Try.underlying63
 have hu126 := Try.underlying126
 have HR0_7 := Aside0.mk hr0_7
 have HC0_7 := Aside0.mk hc0_7
 clear hr0_7 hc0_7
 have HB := Aside0.mk (Below.refl w.heap.size w)
 have H := h
 unfold spec_CtlOk.f at H
 clear h
 have HC2 := Aside0.mk H
 clear H
 go_enter Try.func69, Try.ntmps69
 go_upto_region 1 with (first | ((with_reducible refine gate_dst (N := 1) rfl ?_); (try (refine gate_guard (by rfl) ?_; dsimp only)); refine box_event ?hg (N := 1) ?hd (cs := #[.int .i64 a0_0, .int .i64 a0_1, .int .i64 a0_2, .int .i64 a0_3, .int .i64 a0_4, .bool a0_5, .int .i64 a0_6, .slice A0_7 l0_7.length c0_7]) (t := 63) ?hr ?_; (case hd => rfl); (case hg => rfl); (case hr => first | (go_simp; done) | (go_simp; rfl)); intro gb259 hg w3 hbox hb; have BK259 := am_ (hbox); have GW259 := gA_ hg HB; have GE259 := GW259; have IGE259 := gI_ GE259; replace HB := bS_ HB hb; clear hb hbox hg))
 (try simp only [Act.put, List.setIfInBounds_toArray, List.set_cons_zero, List.set_cons_succ])
 go_cut [13] (fun v13 wc => ∃ (kq : Nat) (x13_1 : Bool), v13 = .bool x13_1 ∧ Aside0 (spec_CtlOk.j0 kq x13_1 a0_0 a0_1 a0_2 a0_3 a0_4 a0_5 a0_6 l0_7 = some r) ∧ Aside0 (kq ≤ k) ∧ Aside0 (wc.heap[gb259]? = some (.cells #[.int .i64 a0_0, .int .i64 a0_1, .int .i64 a0_2, .int .i64 a0_3, .int .i64 a0_4, .bool a0_5, .int .i64 a0_6, (.slice A0_7 l0_7.length c0_7)] 63 (0, 0))) ∧ Aside0 (Below w.heap.size w wc))
 case first =>
  have H := HC2.out
  clear HC2
  replace H := bd_ H
  obtain ⟨t260, A4, H⟩ := H
  by_cases c5 : t260 = true
  rotate_left
  ·
   replace c5 := Bool.eq_false_iff.mpr c5
   subst c5
   rw [if_neg (show ¬ (false = true) by decide)] at H
   have H' := Aside0.mk H
   clear H
   have z8 := cz8 BK259.out
   go_wp2_with (first | ((with_reducible refine gate_callee (f := 42) rfl ?_); refine goesL_ (some 6) rfl rfl Try.func42 (by kernel_rfl) rfl #[.int .i64 a0_1, .int .i64 0, .int .i64 1] rfl la_ ?_; (with_reducible refine (spec_l1In.calls a0_1 0 1 false _ A4.out).mono ?_); rintro e w' ⟨rfl, ⟨nd, rfl⟩⟩; refine ⟨_, rfl, ?_⟩))
   go_meet
   case rel => exact ⟨_, (true), eqq_, H', ⟨by first | omega | exact Nat.le_refl _⟩, ⟨qK BK259⟩, ⟨qB HB⟩⟩
  subst c5
  rw [if_pos rfl] at H
  replace H := bd_ H
  obtain ⟨t261, A6, H⟩ := H
  have H' := Aside0.mk H
  clear H
  have z7 := cz8 BK259.out
  go_wp2_with (first | ((with_reducible refine gate_callee (f := 42) rfl ?_); refine goesL_ (some 6) rfl rfl Try.func42 (by kernel_rfl) rfl #[.int .i64 a0_1, .int .i64 0, .int .i64 1] rfl la_ ?_; (with_reducible refine (spec_l1In.calls a0_1 0 1 true _ A4.out).mono ?_); rintro e w' ⟨rfl, ⟨nd, rfl⟩⟩; refine ⟨_, rfl, ?_⟩) | (go_at_call 42; (with_reducible refine (spec_l1In.calls a0_2 1 60000 t261 _ A6.out).mono ?_); rintro e w' ⟨rfl, ⟨nd, rfl⟩⟩))
  go_meet
  case rel => exact ⟨_, (!t261), eqq_, H', ⟨by first | omega | exact Nat.le_refl _⟩, ⟨qK BK259⟩, ⟨qB HB⟩⟩
 case rest =>
  clear HC2
  try clear p2
  try clear c4
  try clear c5
  try clear c6
  (try clear z7)
  (try clear z8)
  (try clear f7)
  (try clear f8)
  obtain ⟨kq, x13_1, rfl, HA, HJ1, BK259, HB⟩ := hcut
  cases kq with
  | zero => exact absurd HA.out (by simp [spec_CtlOk.j0])
  | succ kj1 =>
   have H := HA.out
   clear HA
   simp only [spec_CtlOk.j0] at H
   by_cases c9 : x13_1 = true
   ·
    subst c9
    rw [if_pos rfl] at H
    obtain rfl := Option.some.inj H
    go_wp2
    go_ret
    exact ⟨er_, qB HB⟩
   replace c9 := Bool.eq_false_iff.mpr c9
   subst c9
   rw [if_neg (show ¬ (false = true) by decide)] at H
   by_cases c10 : a0_0 = 1
   rotate_left
   ·
    rw [if_neg c10] at H
    have c10b0 : (a0_0 == 1) = false := beq_eq_false_iff_ne.mpr c10
    have c10b1 : (a0_0 != 1) = true := bne_iff_ne.mpr c10
    by_cases c30 : a0_4 = 0
    rotate_left
    ·
     rw [if_neg c30] at H
     have c30b0 : (a0_4 == 0) = false := beq_eq_false_iff_ne.mpr c30
     have c30b1 : (a0_4 != 0) = true := bne_iff_ne.mpr c30
     obtain rfl := Option.some.inj H
     have z47 := cz8 BK259.out
     go_wp2
     go_ret
     exact ⟨er_, qB HB⟩
    rw [if_pos c30] at H
    have c30b0 : (a0_4 == 0) = true := beq_iff_eq.mpr c30
    have c30b1 : (a0_4 != 0) = false := bne_eq_false_iff_eq.mpr c30
    clear c30
    by_cases c31 : a0_5 = true
    ·
     subst c31
     rw [if_pos rfl] at H
     obtain rfl := Option.some.inj H
     have z32 := cz8 BK259.out
     go_wp2
     go_ret
     exact ⟨er_, qB HB⟩
    replace c31 := Bool.eq_false_iff.mpr c31
    subst c31
    rw [if_neg (show ¬ (false = true) by decide)] at H
    by_cases c33 : a0_6 = 0
    rotate_left
    ·
     rw [if_neg c33] at H
     have c33b0 : (a0_6 == 0) = false := beq_eq_false_iff_ne.mpr c33
     have c33b1 : (a0_6 != 0) = true := bne_iff_ne.mpr c33
     obtain rfl := Option.some.inj H
     have z46 := cz8 BK259.out
     go_wp2
     go_ret
     exact ⟨er_, qB HB⟩
    rw [if_pos c33] at H
    have c33b0 : (a0_6 == 0) = true := beq_iff_eq.mpr c33
    have c33b1 : (a0_6 != 0) = false := bne_eq_false_iff_eq.mpr c33
    clear c33
    by_cases c34 : (l0_7.length : Int) = 0
    rotate_left
    ·
     rw [if_neg c34] at H
     have c34b0 : ((l0_7.length : Int) == 0) = false := beq_eq_false_iff_ne.mpr c34
     have c34b1 : ((l0_7.length : Int) != 0) = true := bne_iff_ne.mpr c34
     have c34b2 : ¬ (l0_7 = []) := fun h_ => c34 (by rw [h_]; rfl)
     obtain rfl := Option.some.inj H
     have z45 := cz8 BK259.out
     go_wp2
     go_ret
     exact ⟨er_, qB HB⟩
    rw [if_pos c34] at H
    have c34b0 : ((l0_7.length : Int) == 0) = true := beq_iff_eq.mpr c34
    have c34b1 : ((l0_7.length : Int) != 0) = false := bne_eq_false_iff_eq.mpr c34
    clear c34
    by_cases c35 : a0_0 = 2
    rotate_left
    ·
     rw [if_neg c35] at H
     have c35b0 : (a0_0 == 2) = false := beq_eq_false_iff_ne.mpr c35
     have c35b1 : (a0_0 != 2) = true := bne_iff_ne.mpr c35
     by_cases c42 : a0_0 = 3
     rotate_left
     ·
      rw [if_neg c42] at H
      have c42b0 : (a0_0 == 3) = false := beq_eq_false_iff_ne.mpr c42
      have c42b1 : (a0_0 != 3) = true := bne_iff_ne.mpr c42
      obtain rfl := Option.some.inj H
      have z44 := cz8 BK259.out
      go_wp2
      go_ret
      exact ⟨er_, qB HB⟩
     rw [if_pos c42] at H
     have c42b0 : (a0_0 == 3) = true := beq_iff_eq.mpr c42
     have c42b1 : (a0_0 != 3) = false := bne_eq_false_iff_eq.mpr c42
     clear c42
     obtain rfl := Option.some.inj H
     have z43 := cz8 BK259.out
     go_wp2
     go_ret
     exact ⟨er_, qB HB⟩
    rw [if_pos c35] at H
    have c35b0 : (a0_0 == 2) = true := beq_iff_eq.mpr c35
    have c35b1 : (a0_0 != 2) = false := bne_eq_false_iff_eq.mpr c35
    clear c35
    replace H := bd_ H
    obtain ⟨t269, A36, H⟩ := H
    by_cases c37 : t269 = true
    ·
     subst c37
     rw [if_pos rfl] at H
     obtain rfl := Option.some.inj H
     have z38 := cz8 BK259.out
     go_wp2_with (first | (go_at_call 42; (with_reducible refine (spec_l1In.calls a0_3 0 20 true _ A36.out).mono ?_); rintro e w' ⟨rfl, ⟨nd, rfl⟩⟩))
     go_ret
     exact ⟨er_, qB HB⟩
    replace c37 := Bool.eq_false_iff.mpr c37
    subst c37
    rw [if_neg (show ¬ (false = true) by decide)] at H
    by_cases c39 : a0_0 = 3
    rotate_left
    ·
     rw [if_neg c39] at H
     have c39b0 : (a0_0 == 3) = false := beq_eq_false_iff_ne.mpr c39
     have c39b1 : (a0_0 != 3) = true := bne_iff_ne.mpr c39
     obtain rfl := Option.some.inj H
     have z41 := cz8 BK259.out
     go_wp2_with (first | (go_at_call 42; (with_reducible refine (spec_l1In.calls a0_3 0 20 false _ A36.out).mono ?_); rintro e w' ⟨rfl, ⟨nd, rfl⟩⟩))
     go_ret
     exact ⟨er_, qB HB⟩
    rw [if_pos c39] at H
    have c39b0 : (a0_0 == 3) = true := beq_iff_eq.mpr c39
    have c39b1 : (a0_0 != 3) = false := bne_eq_false_iff_eq.mpr c39
    clear c39
    obtain rfl := Option.some.inj H
    have z40 := cz8 BK259.out
    go_wp2_with (first | (go_at_call 42; (with_reducible refine (spec_l1In.calls a0_3 0 20 false _ A36.out).mono ?_); rintro e w' ⟨rfl, ⟨nd, rfl⟩⟩))
    go_ret
    exact ⟨er_, qB HB⟩
   rw [if_pos c10] at H
   have c10b0 : (a0_0 == 1) = true := beq_iff_eq.mpr c10
   have c10b1 : (a0_0 != 1) = false := bne_eq_false_iff_eq.mpr c10
   clear c10
   have H' := Aside0.mk H
   clear H
   have z11 := cz8 BK259.out
   go_wp2
   go_loopg [3] kj1 (fun kq v3 w' => ∃ (x3_2 : Int), v3 = .int .i64 x3_2 ∧ Aside0 (spec_CtlOk.l0 kq x3_2 a0_0 a0_1 a0_2 a0_3 a0_4 a0_5 a0_6 l0_7 = some r) ∧ Aside0 (kq ≤ kj1) ∧ Aside0 (w'.heap[gb259]? = some (.cells #[.int .i64 a0_0, .int .i64 a0_1, .int .i64 a0_2, .int .i64 a0_3, .int .i64 a0_4, .bool a0_5, .int .i64 a0_6, (.slice A0_7 l0_7.length c0_7)] 63 (0, 0))) ∧ Aside0 (Below w.heap.size w w'))
   case atStart => exact ⟨(0), eqq_, H', ⟨Nat.le_refl _⟩, ⟨qK BK259⟩, ⟨qB HB⟩⟩
   case round =>
    clear H'
    try clear c1
    try clear p2
    try clear c4
    try clear c5
    try clear c6
    try clear c9
    try clear c10
    try clear c10b0
    try clear c10b1
    (try clear z11)
    (try clear z7)
    (try clear z8)
    (try clear f11)
    (try clear f7)
    (try clear f8)
    try clear p2
    obtain ⟨x3_2, rfl, HA, HK2, BK259, HB⟩ := hrel
    cases gk with
    | zero => exact absurd HA.out (by simp [spec_CtlOk.l0])
    | succ k2 =>
     have H := HA.out
     clear HA
     simp only [spec_CtlOk.l0] at H
     by_cases c12 : x3_2 < (l0_7.length : Int)
     rotate_left
     ·
      rw [if_neg c12] at H
      have c12b0 : decide (x3_2 < (l0_7.length : Int)) = false := decide_eq_false c12
      clear c12
      replace H := bd_ H
      obtain ⟨t266, A20, H⟩ := H
      by_cases c21 : t266 = true
      rotate_left
      ·
       replace c21 := Bool.eq_false_iff.mpr c21
       subst c21
       rw [if_neg (show ¬ (false = true) by decide)] at H
       obtain rfl := Option.some.inj H
       have z29 := cz8 BK259.out
       go_wp2_with (first | ((with_reducible refine gate_callee (f := 42) rfl ?_); refine goesL_ (some 34) rfl rfl Try.func42 (by kernel_rfl) rfl #[.int .i64 a0_4, .int .i64 1, .int .i64 20] rfl la_ ?_; (with_reducible refine (spec_l1In.calls a0_4 1 20 false _ A20.out).mono ?_); rintro e w' ⟨rfl, ⟨nd, rfl⟩⟩; refine ⟨_, rfl, ?_⟩))
       go_ret
       exact ⟨er_, qB HB⟩
      subst c21
      rw [if_pos rfl] at H
      replace H := bd_ H
      obtain ⟨t267, A22, H⟩ := H
      by_cases c23 : t267 = true
      rotate_left
      ·
       replace c23 := Bool.eq_false_iff.mpr c23
       subst c23
       rw [if_neg (show ¬ (false = true) by decide)] at H
       obtain rfl := Option.some.inj H
       have z28 := cz8 BK259.out
       go_wp2_with (first | ((with_reducible refine gate_callee (f := 42) rfl ?_); refine goesL_ (some 34) rfl rfl Try.func42 (by kernel_rfl) rfl #[.int .i64 a0_4, .int .i64 1, .int .i64 20] rfl la_ ?_; (with_reducible refine (spec_l1In.calls a0_4 1 20 true _ A20.out).mono ?_); rintro e w' ⟨rfl, ⟨nd, rfl⟩⟩; refine ⟨_, rfl, ?_⟩) | (go_at_call 42; (with_reducible refine (spec_l1In.calls a0_3 0 (wrap64 (a0_4 - 1)) false _ A22.out).mono ?_); rintro e w' ⟨rfl, ⟨nd, rfl⟩⟩))
       go_ret
       exact ⟨er_, qB HB⟩
      subst c23
      rw [if_pos rfl] at H
      replace H := bd_ H
      obtain ⟨t268, A24, H⟩ := H
      by_cases c25 : t268 = true
      ·
       subst c25
       rw [if_pos rfl] at H
       obtain rfl := Option.some.inj H
       have z26 := cz8 BK259.out
       go_wp2_with (first | ((with_reducible refine gate_callee (f := 42) rfl ?_); refine goesL_ (some 34) rfl rfl Try.func42 (by kernel_rfl) rfl #[.int .i64 a0_4, .int .i64 1, .int .i64 20] rfl la_ ?_; (with_reducible refine (spec_l1In.calls a0_4 1 20 true _ A20.out).mono ?_); rintro e w' ⟨rfl, ⟨nd, rfl⟩⟩; refine ⟨_, rfl, ?_⟩) | (go_at_call 42; (with_reducible refine (spec_l1In.calls a0_3 0 (wrap64 (a0_4 - 1)) true _ A22.out).mono ?_); rintro e w' ⟨rfl, ⟨nd, rfl⟩⟩) | (go_at_call 42; (with_reducible refine (spec_l1In.calls a0_6 0 65535 true _ A24.out).mono ?_); rintro e w' ⟨rfl, ⟨nd, rfl⟩⟩))
       go_ret
       exact ⟨er_, qB HB⟩
      replace c25 := Bool.eq_false_iff.mpr c25
      subst c25
      rw [if_neg (show ¬ (false = true) by decide)] at H
      obtain rfl := Option.some.inj H
      have z27 := cz8 BK259.out
      go_wp2_with (first | ((with_reducible refine gate_callee (f := 42) rfl ?_); refine goesL_ (some 34) rfl rfl Try.func42 (by kernel_rfl) rfl #[.int .i64 a0_4, .int .i64 1, .int .i64 20] rfl la_ ?_; (with_reducible refine (spec_l1In.calls a0_4 1 20 true _ A20.out).mono ?_); rintro e w' ⟨rfl, ⟨nd, rfl⟩⟩; refine ⟨_, rfl, ?_⟩) | (go_at_call 42; (with_reducible refine (spec_l1In.calls a0_3 0 (wrap64 (a0_4 - 1)) true _ A22.out).mono ?_); rintro e w' ⟨rfl, ⟨nd, rfl⟩⟩) | (go_at_call 42; (with_reducible refine (spec_l1In.calls a0_6 0 65535 false _ A24.out).mono ?_); rintro e w' ⟨rfl, ⟨nd, rfl⟩⟩))
      go_ret
      exact ⟨er_, qB HB⟩
     rw [if_pos c12] at H
     have c12b0 : decide (x3_2 < (l0_7.length : Int)) = true := decide_eq_true c12
     clear c12
     by_cases c13 : 0 ≤ x3_2
     case neg => exact nn_ c13 H
     rw [if_pos c13] at H
     have c13b0 : decide (0 ≤ x3_2) = true := decide_eq_true c13
     clear c13
     replace H := bd_ H
     obtain ⟨t263, A14, H⟩ := H
     have HC15 := Aside0.mk H
     clear H
     have z16 := cz8 BK259.out
     have p262 : 0 ≤ (x3_2 : Int) := od_
     have q262 : x3_2 < (l0_7.length : Int) := od_
     obtain ⟨ad262, e262, hx262_0, hx262_1, hx262_2, hx262_3, hx262_4, hx262_5, hx262_6, hx262_7, hx262_8, hx262_9, hx262_10, hx262_11, hx262_12, hx262_13, hx262_14, hx262_15⟩ := at_T126 HR0_7.out x3_2 p262 q262
     cases e262
     replace hx262_0 := lb_ HB hx262_0
     replace hx262_1 := lb_ HB hx262_1
     replace hx262_2 := lb_ HB hx262_2
     replace hx262_3 := lb_ HB hx262_3
     replace hx262_4 := lb_ HB hx262_4
     replace hx262_5 := lb_ HB hx262_5
     replace hx262_6 := lb_ HB hx262_6
     replace hx262_7 := lb_ HB hx262_7
     replace hx262_8 := lb_ HB hx262_8
     replace hx262_9 := lb_ HB hx262_9
     replace hx262_10 := lb_ HB hx262_10
     replace hx262_11 := lb_ HB hx262_11
     replace hx262_12 := lb_ HB hx262_12
     replace hx262_13 := lb_ HB hx262_13
     replace hx262_14 := lb_ HB hx262_14
     replace hx262_15 := lb_ HB hx262_15
     replace p262 := eq_true p262
     replace q262 := eq_true q262
     go_upto_if 31 with (first | ((with_reducible refine gate_callee (f := 105) rfl ?_); refine goesL_ (some 29) rfl rfl Try.func105 (by kernel_rfl) rfl #[.agg #[.int .i64 ((rd_T126 l0_7 x3_2).f0), .int .i64 ((rd_T126 l0_7 x3_2).f1.f0), .string ((rd_T126 l0_7 x3_2).f1.f1), .int .i64 ((rd_T126 l0_7 x3_2).f1.f2), .int .i64 ((rd_T126 l0_7 x3_2).f1.f3), .int .i64 ((rd_T126 l0_7 x3_2).f1.f4), .string ((rd_T126 l0_7 x3_2).f1.f5), .int .i64 ((rd_T126 l0_7 x3_2).f1.f6), .int .i64 ((rd_T126 l0_7 x3_2).f1.f7), .int .i64 ((rd_T126 l0_7 x3_2).f2.f0), .string ((rd_T126 l0_7 x3_2).f2.f1), .int .i64 ((rd_T126 l0_7 x3_2).f2.f2), .int .i64 ((rd_T126 l0_7 x3_2).f2.f3), .int .i64 ((rd_T126 l0_7 x3_2).f2.f4), .int .i64 ((rd_T126 l0_7 x3_2).f2.f5), .int .i64 ((rd_T126 l0_7 x3_2).f2.f6)]] rfl la_ ?_; (with_reducible refine (spec_PutItem.calls k2 ((rd_T126 l0_7 x3_2).f0) ((rd_T126 l0_7 x3_2).f1.f0) ((rd_T126 l0_7 x3_2).f1.f1) ((rd_T126 l0_7 x3_2).f1.f2) ((rd_T126 l0_7 x3_2).f1.f3) ((rd_T126 l0_7 x3_2).f1.f4) ((rd_T126 l0_7 x3_2).f1.f5) ((rd_T126 l0_7 x3_2).f1.f6) ((rd_T126 l0_7 x3_2).f1.f7) ((rd_T126 l0_7 x3_2).f2.f0) ((rd_T126 l0_7 x3_2).f2.f1) ((rd_T126 l0_7 x3_2).f2.f2) ((rd_T126 l0_7 x3_2).f2.f3) ((rd_T126 l0_7 x3_2).f2.f4) ((rd_T126 l0_7 x3_2).f2.f5) ((rd_T126 l0_7 x3_2).f2.f6) t263 _ A14.out).mono ?_); rintro e w17 ⟨v264, rfl, ho0, hb⟩; refine ⟨_, rfl, ?_⟩; have HO265 := am_ (Kd.R_lower ho0 (below_size (qB HB))); replace BK259 := bK_ BK259 hb; replace HB := bS_ HB hb; (try clear hb); (try clear ho0); obtain ⟨Ao18, co18, eo18⟩ := Kd.R_slice HO265.out; subst eo18))
     (try simp only [Act.put, List.setIfInBounds_toArray, List.set_cons_zero, List.set_cons_succ])
     have H := HC15.out
     clear HC15
     by_cases c19 : (t263.length : Int) = 0
     ·
      rw [if_pos c19] at H
      have c19b0 : ((t263.length : Int) == 0) = true := beq_iff_eq.mpr c19
      have c19b1 : ((t263.length : Int) != 0) = false := bne_eq_false_iff_eq.mpr c19
      clear c19
      (first | rw [c19b0] | rw [c19b1] | (simp only [i64_w, i32_w]; rw [c19b0]) | skip)
      obtain rfl := Option.some.inj H
      go_wp2
      go_ret
      exact ⟨er_, qB HB⟩
     rw [if_neg c19] at H
     have c19b0 : ((t263.length : Int) == 0) = false := beq_eq_false_iff_ne.mpr c19
     have c19b1 : ((t263.length : Int) != 0) = true := bne_iff_ne.mpr c19
     have c19b2 : ¬ (t263 = []) := fun h_ => c19 (by rw [h_]; rfl)
     (first | rw [c19b0] | rw [c19b1] | rw [c19b2] | (simp only [i64_w, i32_w]; rw [c19b0]) | skip)
     have H' := Aside0.mk H
     clear H
     go_wp2
     go_roundg k2
     case measure => have := HJ1.out; have := HK2.out; omega
     case rel => exact ⟨(wrap64 (x3_2 + 1)), eqq_, H', ⟨by have := HJ1.out; have := HK2.out; omega⟩, ⟨qK BK259⟩, ⟨qB HB⟩⟩

/-! ### spec_Sum: function 107 -/
mutual
def spec_Sum.l0 : Nat → List Int → Int → Int → Option (Int)
 | 0, _, _, _ => none
 | k + 1, x0, x3, x4 => if x4 < (x0.length : Int) then (if 0 ≤ x4 then (spec_Sum.l1 k x0 (Go.bits .xor .i64 x3 (wrap64 ((wrap64 (rd x0 x4)) * 256))) x4 0) else (none)) else (some (Go.bits .and .i64 x3 65535))
def spec_Sum.l1 : Nat → List Int → Int → Int → Int → Option (Int)
 | 0, _, _, _, _ => none
 | k + 1, x0, x3, x4, x5 => if x5 < 8 then (if (wrap64 (x3 * 2)) > 65535 then (spec_Sum.l1 k x0 (Go.bits .xor .i64 (wrap64 (x3 * 2)) 69665) x4 (wrap64 (x5 + 1))) else (spec_Sum.l1 k x0 (wrap64 (x3 * 2)) x4 (wrap64 (x5 + 1)))) else (spec_Sum.l0 k x0 x3 (wrap64 (x4 + 1)))
end
def spec_Sum.f (k : Nat) (l0 : List Int) : Option (Int) := spec_Sum.l0 k l0 65535 0
theorem spec_Sum.mono_l : ∀ k, (∀ y0 y1 y2, LeO (spec_Sum.l0 k y0 y1 y2) (spec_Sum.l0 (k + 1) y0 y1 y2)) ∧ (∀ y0 y1 y2 y3, LeO (spec_Sum.l1 k y0 y1 y2 y3) (spec_Sum.l1 (k + 1) y0 y1 y2 y3))
 | 0 => ⟨fun _ _ _ r h => by simp [spec_Sum.l0] at h, fun _ _ _ _ r h => by simp [spec_Sum.l1] at h⟩
 | k + 1 => by
  obtain ⟨ih0, ih1⟩ := spec_Sum.mono_l k
  refine ⟨?_, ?_⟩
  ·
   intro y0 y1 y2
   unfold spec_Sum.l0
   repeat' first
   | (with_reducible exact ih0 _ _ _)
   | (with_reducible exact ih1 _ _ _ _)
   | (with_reducible exact LeO.refl _)
   | (with_reducible exact LeO.none _)
   | (with_reducible refine LeO.ite ?_ ?_)
   | (with_reducible refine LeO.bind ?_ (fun _ => ?_))
  ·
   intro y0 y1 y2 y3
   unfold spec_Sum.l1
   repeat' first
   | (with_reducible exact ih0 _ _ _)
   | (with_reducible exact ih1 _ _ _ _)
   | (with_reducible exact LeO.refl _)
   | (with_reducible exact LeO.none _)
   | (with_reducible refine LeO.ite ?_ ?_)
   | (with_reducible refine LeO.bind ?_ (fun _ => ?_))
theorem spec_Sum.mono : ∀ a0 k, LeO (spec_Sum.f k a0) (spec_Sum.f (k + 1) a0) := by
 intro a0 k
 obtain ⟨ih0, ih1⟩ := spec_Sum.mono_l k
 unfold spec_Sum.f
 repeat' first
   | (with_reducible exact ih0 _ _ _)
   | (with_reducible exact ih1 _ _ _ _)
   | (with_reducible exact LeO.refl _)
   | (with_reducible exact LeO.none _)
   | (with_reducible refine LeO.ite ?_ ?_)
   | (with_reducible refine LeO.bind ?_ (fun _ => ?_))
set_option maxHeartbeats 8000000 in
set_option maxRecDepth 100000 in
theorem spec_Sum.calls (k : Nat) (A0 : Option Addr) (c0 : Nat) (l0 : List Int) (r : Int) (w : World) (hr0 : Kd.C (Kd.int .u8) w A0 l0.length l0) (hc0 : l0.length ≤ c0) (h : spec_Sum.f k l0 = some r) :
  Calls Try.prog 107 #[.slice A0 l0.length c0] w fun e w' => e = .returned (.int .i64 r) ∧ Drawn0 w w' := by
 have HR0 := Aside0.mk hr0
 have HC0 := Aside0.mk hc0
 clear hr0 hc0
 have H : (spec_Sum.l0 k l0 65535 0) = some r := h
 clear h
 have H' := Aside0.mk H
 clear H
 go_enter Try.func107, Try.ntmps107
 go_wp2
 go_loopg [3, 4] k (fun kq v3 v4 w' => ∃ (x3_1 : Int) (x4_1 : Int), v3 = .int .i64 x3_1 ∧ v4 = .int .i64 x4_1 ∧ Aside0 (spec_Sum.l0 kq l0 x3_1 x4_1 = some r) ∧ Aside0 (kq ≤ k) ∧ Drawn0 w w')
 case atStart => exact ⟨(65535), (0), eqq_, eqq_, H', ⟨Nat.le_refl _⟩, by repeat (first | exact Drawn0.refl _ | apply Drawn0.step)⟩
 case round =>
  clear H'
  try clear c1
  obtain ⟨x3_1, x4_1, rfl, rfl, HA, HK1, ⟨m1, rfl⟩⟩ := hrel
  cases gk with
  | zero => exact absurd HA.out (by simp [spec_Sum.l0])
  | succ k1 =>
   have H := HA.out
   clear HA
   simp only [spec_Sum.l0] at H
   by_cases c2 : x4_1 < (l0.length : Int)
   rotate_left
   ·
    rw [if_neg c2] at H
    have c2b0 : decide (x4_1 < (l0.length : Int)) = false := decide_eq_false c2
    clear c2
    obtain rfl := Option.some.inj H
    go_wp2
    go_ret
    exact ⟨by first | rfl | (simp; done) | (simp [*]; done), by repeat (first | exact Drawn0.refl _ | apply Drawn0.step)⟩
   rw [if_pos c2] at H
   have c2b0 : decide (x4_1 < (l0.length : Int)) = true := decide_eq_true c2
   clear c2
   by_cases c3 : 0 ≤ x4_1
   case neg => exact nn_ c3 H
   rw [if_pos c3] at H
   have c3b0 : decide (0 ≤ x4_1) = true := decide_eq_true c3
   clear c3
   have H' := Aside0.mk H
   clear H
   have p270 : 0 ≤ (x4_1 : Int) := od_
   have q270 : x4_1 < (l0.length : Int) := od_
   obtain ⟨ad270, e270, hx270_0⟩ := Kd.at_int HR0.out x4_1 p270 q270
   cases e270
   replace p270 := eq_true p270
   replace q270 := eq_true q270
   go_wp2
   go_loopg [3, 5] k1 (fun kq v3 v5 w' => ∃ (x3_2 : Int) (x5_2 : Int), v3 = .int .i64 x3_2 ∧ v5 = .int .i64 x5_2 ∧ Aside0 (spec_Sum.l1 kq l0 x3_2 x4_1 x5_2 = some r) ∧ Aside0 (kq ≤ k1) ∧ Drawn0 w w')
   case atStart => exact ⟨(Go.bits .xor .i64 x3_1 (wrap64 ((wrap64 (rd l0 x4_1)) * 256))), (0), eqq_, eqq_, H', ⟨Nat.le_refl _⟩, by repeat (first | exact Drawn0.refl _ | apply Drawn0.step)⟩
   case round =>
    clear H'
    try clear c1
    try clear c2
    try clear c2b0
    try clear p2
    try clear q2
    try clear hx2
    try clear c3
    try clear c3b0
    try clear hx270_0
    try clear p270
    try clear q270
    obtain ⟨x3_2, x5_2, rfl, rfl, HA, HK2, ⟨m2, rfl⟩⟩ := hrel
    cases gk with
    | zero => exact absurd HA.out (by simp [spec_Sum.l1])
    | succ k2 =>
     have H := HA.out
     clear HA
     simp only [spec_Sum.l1] at H
     by_cases c4 : x5_2 < 8
     rotate_left
     ·
      rw [if_neg c4] at H
      have c4b0 : decide (x5_2 < 8) = false := decide_eq_false c4
      clear c4
      have H' := Aside0.mk H
      clear H
      go_wp2
      go_roundg k2
      case measure => have := HK1.out; have := HK2.out; omega
      case rel => exact ⟨(x3_2), (wrap64 (x4_1 + 1)), eqq_, eqq_, H', ⟨by have := HK1.out; have := HK2.out; omega⟩, by repeat (first | exact Drawn0.refl _ | apply Drawn0.step)⟩
     rw [if_pos c4] at H
     have c4b0 : decide (x5_2 < 8) = true := decide_eq_true c4
     clear c4
     by_cases c5 : (wrap64 (x3_2 * 2)) > 65535
     ·
      rw [if_pos c5] at H
      have c5b0 : decide (65535 < (wrap64 (x3_2 * 2))) = true := decide_eq_true c5
      clear c5
      have H' := Aside0.mk H
      clear H
      go_wp2
      go_roundg k2
      case measure => have := HK1.out; have := HK2.out; omega
      case rel => exact ⟨(Go.bits .xor .i64 (wrap64 (x3_2 * 2)) 69665), (wrap64 (x5_2 + 1)), eqq_, eqq_, H', ⟨by have := HK1.out; have := HK2.out; omega⟩, by repeat (first | exact Drawn0.refl _ | apply Drawn0.step)⟩
     rw [if_neg c5] at H
     have c5b0 : decide (65535 < (wrap64 (x3_2 * 2))) = false := decide_eq_false c5
     clear c5
     have H' := Aside0.mk H
     clear H
     go_wp2
     go_roundg k2
     case measure => have := HK1.out; have := HK2.out; omega
     case rel => exact ⟨(wrap64 (x3_2 * 2)), (wrap64 (x5_2 + 1)), eqq_, eqq_, H', ⟨by have := HK1.out; have := HK2.out; omega⟩, by repeat (first | exact Drawn0.refl _ | apply Drawn0.step)⟩

end Go.Proofs.Ytiffahfpfgnjnab.PFnExactSend
