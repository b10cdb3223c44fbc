-- Written by a program of this session (myprint.py, over the kit's print): contracts of FnWays
import Derived.Test.YtiffahfpfgnjnaaPFnWaysx0
import Derived.Test.YtiffahfpfgnjnaaPFnWaysx3
import Derived.Test.YtiffahfpfgnjnaaPFnWaysx6
namespace Go.Proofs.Ytiffahfpfgnjnaa.PFnWays
open Go.RowKit Go.Proofs.YtiffahfpfgnjnaaW.PrintWords Go.Proofs.YtiffahfpfgnjnaaW.PrintLast Go.Proofs.YtiffahfpfgnjnaaW.PrintMore Go.Proofs.YtiffahfpfgnjnaaV
attribute [local go_sem] max2_int min2_int max_two min_two max_three min_three max_four min_four   -- for this text's walks alone
set_option linter.unusedVariables false
set_option linter.unusedSimpArgs false

/-! ### spec_CtlOk: function 57 -/
mutual
def spec_CtlOk.j0 : Nat → Bool → Int → Int → Int → Int → Int → Bool → Int → List (S29) → Option (Bool)
 | 0, _, _, _, _, _, _, _, _, _ => none
 | k + 1, x13, x248000, x248001, x248002, x248003, x248004, x248005, x248006, x248007 => if x13 = true then (some false) else (if x248000 = 1 then (spec_CtlOk.l0 k 0 x248000 x248001 x248002 x248003 x248004 x248005 x248006 x248007) else (if x248004 = 0 then (if x248005 = true then (some false) else (if x248006 = 0 then (if (x248007.length : Int) = 0 then (if x248000 = 2 then ((spec_l1In.f x248003 0 20).bind fun t257 => (if t257 = true then (some true) else (if x248000 = 3 then (some (x248003 == 0)) else (some false)))) else (if x248000 = 3 then (some (x248003 == 0)) else (some false))) else (some false)) else (some false))) else (some false)))
def spec_CtlOk.l0 : Nat → Int → Int → Int → Int → Int → Int → Bool → Int → List (S29) → Option (Bool)
 | 0, _, _, _, _, _, _, _, _, _ => none
 | k + 1, x3, x248000, x248001, x248002, x248003, x248004, x248005, x248006, x248007 => if x3 < (x248007.length : Int) then (if 0 ≤ x3 then ((spec_PutItem.f k ((rd_T29 x248007 x3).f0) ((rd_T29 x248007 x3).f1.f0) ((rd_T29 x248007 x3).f1.f1) ((rd_T29 x248007 x3).f1.f2) ((rd_T29 x248007 x3).f1.f3) ((rd_T29 x248007 x3).f1.f4) ((rd_T29 x248007 x3).f1.f5) ((rd_T29 x248007 x3).f1.f6) ((rd_T29 x248007 x3).f1.f7) ((rd_T29 x248007 x3).f2.f0) ((rd_T29 x248007 x3).f2.f1) ((rd_T29 x248007 x3).f2.f2) ((rd_T29 x248007 x3).f2.f3) ((rd_T29 x248007 x3).f2.f4) ((rd_T29 x248007 x3).f2.f5) ((rd_T29 x248007 x3).f2.f6)).bind fun t251 => (if (t251.length : Int) = 0 then (some false) else (spec_CtlOk.l0 k (wrap64 (x3 + 1)) x248000 x248001 x248002 x248003 x248004 x248005 x248006 x248007))) else (none)) else ((spec_l1In.f x248004 1 20).bind fun t254 => (if t254 = true then ((spec_l1In.f x248003 0 (wrap64 (x248004 - 1))).bind fun t255 => (if t255 = true then ((spec_l1In.f x248006 0 65535).bind fun t256 => (if t256 = true then (some (decide ((x248007.length : Int) ≤ 2))) else (some false))) else (some false))) else (some false)))
end
def spec_CtlOk.f (k : Nat) (a0_0 : Int) (a0_1 : Int) (a0_2 : Int) (a0_3 : Int) (a0_4 : Int) (a0_5 : Bool) (a0_6 : Int) (l0_7 : List (S29)) : Option (Bool) := (spec_l1In.f a0_1 0 1).bind fun t248 => (if t248 = true then ((spec_l1In.f a0_2 1 60000).bind fun t249 => (spec_CtlOk.j0 k (!t249) a0_0 a0_1 a0_2 a0_3 a0_4 a0_5 a0_6 l0_7)) else (spec_CtlOk.j0 k true a0_0 a0_1 a0_2 a0_3 a0_4 a0_5 a0_6 l0_7))
theorem spec_CtlOk.mono_l : ∀ k, (∀ y0 y1 y2 y3 y4 y5 y6 y7 y8, LeO (spec_CtlOk.j0 k y0 y1 y2 y3 y4 y5 y6 y7 y8) (spec_CtlOk.j0 (k + 1) y0 y1 y2 y3 y4 y5 y6 y7 y8)) ∧ (∀ y0 y1 y2 y3 y4 y5 y6 y7 y8, LeO (spec_CtlOk.l0 k y0 y1 y2 y3 y4 y5 y6 y7 y8) (spec_CtlOk.l0 (k + 1) y0 y1 y2 y3 y4 y5 y6 y7 y8))
 | 0 => ⟨fun _ _ _ _ _ _ _ _ _ r h => by simp [spec_CtlOk.j0] at h, fun _ _ _ _ _ _ _ _ _ r h => by simp [spec_CtlOk.l0] at h⟩
 | k + 1 => by
  obtain ⟨ih0, ih1⟩ := spec_CtlOk.mono_l k
  refine ⟨?_, ?_⟩
  ·
   intro y0 y1 y2 y3 y4 y5 y6 y7 y8
   unfold spec_CtlOk.j0
   have m0 := @spec_PutItem.mono; exact mo_
  ·
   intro y0 y1 y2 y3 y4 y5 y6 y7 y8
   unfold spec_CtlOk.l0
   have m0 := @spec_PutItem.mono; exact mo_
theorem spec_CtlOk.mono : ∀ a0 a1 a2 a3 a4 a5 a6 a7 k, LeO (spec_CtlOk.f k a0 a1 a2 a3 a4 a5 a6 a7) (spec_CtlOk.f (k + 1) a0 a1 a2 a3 a4 a5 a6 a7) := by
 intro a0 a1 a2 a3 a4 a5 a6 a7 k
 obtain ⟨ih0, ih1⟩ := spec_CtlOk.mono_l k
 unfold spec_CtlOk.f
 have m0 := @spec_PutItem.mono; exact mo_
set_option maxHeartbeats 8000000 in
set_option maxRecDepth 100000 in
theorem spec_CtlOk.calls (k : Nat) (a0_0 : Int) (a0_1 : Int) (a0_2 : Int) (a0_3 : Int) (a0_4 : Int) (a0_5 : Bool) (a0_6 : Int) (A0_7 : Option Addr) (c0_7 : Nat) (l0_7 : List (S29)) (r : Bool) (w : World) (hr0_7 : Kd.C k29 w A0_7 l0_7.length l0_7) (hc0_7 : l0_7.length ≤ c0_7) (h : spec_CtlOk.f k a0_0 a0_1 a0_2 a0_3 a0_4 a0_5 a0_6 l0_7 = some r) :
  Calls Try.prog 57 #[.agg #[.int .i64 a0_0, .int .i64 a0_1, .int .i64 a0_2, .int .i64 a0_3, .int .i64 a0_4, .bool a0_5, .int .i64 a0_6, .slice A0_7 l0_7.length c0_7]] w fun e w' => e = .returned (.bool r) ∧ Below w.heap.size w w' := by
 have hu75 := Try.underlying75
 have hu29 := Try.underlying29
 have HR0_7 := Aside0.mk hr0_7
 have HC0_7 := Aside0.mk hc0_7
 clear hr0_7 hc0_7
 have HB := Aside0.mk (Below.refl w.heap.size w)
 have H := h
 unfold spec_CtlOk.f at H
 clear h
 have HC2 := Aside0.mk H
 clear H
 go_enter Try.func57, Try.ntmps57
 go_upto_region 1 with (first | ((with_reducible refine gate_dst (N := 1) rfl ?_); (try (refine gate_guard (by rfl) ?_; dsimp only)); refine bx_ (N := 1) (cs := #[.int .i64 a0_0, .int .i64 a0_1, .int .i64 a0_2, .int .i64 a0_3, .int .i64 a0_4, .bool a0_5, .int .i64 a0_6, .slice A0_7 l0_7.length c0_7]) (t := 75) ?_; intro gb247 hg w3 hbox hb; have BK247 := am_ (hbox); have GW247 := gA_ hg HB; have GE247 := GW247; have IGE247 := gI_ GE247; replace HB := bS_ HB hb; clear hb hbox hg))
 (try simp only [Act.put, List.setIfInBounds_toArray, List.set_cons_zero, List.set_cons_succ])
 go_cut [13] (fun v13 wc => ∃ (kq : Nat) (x13_1 : Bool), v13 = .bool x13_1 ∧ Aside0 (spec_CtlOk.j0 kq x13_1 a0_0 a0_1 a0_2 a0_3 a0_4 a0_5 a0_6 l0_7 = some r) ∧ Aside0 (kq ≤ k) ∧ Aside0 (wc.heap[gb247]? = some (.cells #[.int .i64 a0_0, .int .i64 a0_1, .int .i64 a0_2, .int .i64 a0_3, .int .i64 a0_4, .bool a0_5, .int .i64 a0_6, (.slice A0_7 l0_7.length c0_7)] 75 (0, 0))) ∧ Aside0 (Below w.heap.size w wc))
 case first =>
  have H := HC2.out
  clear HC2
  replace H := bd_ H
  obtain ⟨t248, A4, H⟩ := H
  by_cases c5 : t248 = true
  rotate_left
  ·
   replace c5 := Bool.eq_false_iff.mpr c5
   subst c5
   rw [if_neg (show ¬ (false = true) by decide)] at H
   have H' := Aside0.mk H
   clear H
   (try clear zK247)
   have zK247 := cz8 BK247.out
   go_wp2_with (first | ((with_reducible refine gate_callee (f := 83) rfl ?_); refine gl_ (some 6) Try.func83 #[.int .i64 a0_1, .int .i64 0, .int .i64 1] ?_; (with_reducible refine (spec_l1In.calls a0_1 0 1 false _ A4.out).mono ?_); rintro e w' ⟨rfl, ⟨nd, rfl⟩⟩; refine ⟨_, rfl, ?_⟩))
   go_meet
   case rel => exact ⟨_, (true), eqq_, H', ⟨by first | omega | exact Nat.le_refl _⟩, ⟨qK BK247⟩, ⟨qB HB⟩⟩
  subst c5
  rw [if_pos rfl] at H
  replace H := bd_ H
  obtain ⟨t249, A6, H⟩ := H
  have H' := Aside0.mk H
  clear H
  (try clear zK247)
  have zK247 := cz8 BK247.out
  go_wp2_with (first | ((with_reducible refine gate_callee (f := 83) rfl ?_); refine gl_ (some 6) Try.func83 #[.int .i64 a0_1, .int .i64 0, .int .i64 1] ?_; (with_reducible refine (spec_l1In.calls a0_1 0 1 true _ A4.out).mono ?_); rintro e w' ⟨rfl, ⟨nd, rfl⟩⟩; refine ⟨_, rfl, ?_⟩) | (go_at_call 83; (with_reducible refine (spec_l1In.calls a0_2 1 60000 t249 _ A6.out).mono ?_); rintro e w' ⟨rfl, ⟨nd, rfl⟩⟩))
  go_meet
  case rel => exact ⟨_, (!t249), eqq_, H', ⟨by first | omega | exact Nat.le_refl _⟩, ⟨qK BK247⟩, ⟨qB HB⟩⟩
 case rest =>
  clear HC2
  try clear p2
  try clear c5
  try clear c8
  (try clear zK247)
  (try clear zK247)
  (try clear f7)
  (try clear f8)
  obtain ⟨kq, x13_1, rfl, HA, HJ1, BK247, HB⟩ := hcut
  cases kq with
  | zero => exact absurd HA.out (by simp [spec_CtlOk.j0])
  | succ kj1 =>
   have H := HA.out
   clear HA
   simp only [spec_CtlOk.j0] at H
   by_cases c9 : x13_1 = true
   ·
    subst c9
    rw [if_pos rfl] at H
    obtain rfl := Option.some.inj H
    go_wp2
    go_ret
    exact ⟨er_, qB HB⟩
   replace c9 := Bool.eq_false_iff.mpr c9
   subst c9
   rw [if_neg (show ¬ (false = true) by decide)] at H
   by_cases c10 : a0_0 = 1
   rotate_left
   ·
    rw [if_neg c10] at H
    have c10b0 : (a0_0 == 1) = false := beq_eq_false_iff_ne.mpr c10
    have c10b1 : (a0_0 != 1) = true := bne_iff_ne.mpr c10
    by_cases c30 : a0_4 = 0
    rotate_left
    ·
     rw [if_neg c30] at H
     have c30b0 : (a0_4 == 0) = false := beq_eq_false_iff_ne.mpr c30
     have c30b1 : (a0_4 != 0) = true := bne_iff_ne.mpr c30
     obtain rfl := Option.some.inj H
     (try clear zK247)
     have zK247 := cz8 BK247.out
     go_wp2
     go_ret
     exact ⟨er_, qB HB⟩
    rw [if_pos c30] at H
    have c30b0 : (a0_4 == 0) = true := beq_iff_eq.mpr c30
    have c30b1 : (a0_4 != 0) = false := bne_eq_false_iff_eq.mpr c30
    clear c30
    by_cases c31 : a0_5 = true
    ·
     subst c31
     rw [if_pos rfl] at H
     obtain rfl := Option.some.inj H
     (try clear zK247)
     have zK247 := cz8 BK247.out
     go_wp2
     go_ret
     exact ⟨er_, qB HB⟩
    replace c31 := Bool.eq_false_iff.mpr c31
    subst c31
    rw [if_neg (show ¬ (false = true) by decide)] at H
    by_cases c33 : a0_6 = 0
    rotate_left
    ·
     rw [if_neg c33] at H
     have c33b0 : (a0_6 == 0) = false := beq_eq_false_iff_ne.mpr c33
     have c33b1 : (a0_6 != 0) = true := bne_iff_ne.mpr c33
     obtain rfl := Option.some.inj H
     (try clear zK247)
     have zK247 := cz8 BK247.out
     go_wp2
     go_ret
     exact ⟨er_, qB HB⟩
    rw [if_pos c33] at H
    have c33b0 : (a0_6 == 0) = true := beq_iff_eq.mpr c33
    have c33b1 : (a0_6 != 0) = false := bne_eq_false_iff_eq.mpr c33
    clear c33
    by_cases c34 : (l0_7.length : Int) = 0
    rotate_left
    ·
     rw [if_neg c34] at H
     have c34b0 : ((l0_7.length : Int) == 0) = false := beq_eq_false_iff_ne.mpr c34
     have c34b1 : ((l0_7.length : Int) != 0) = true := bne_iff_ne.mpr c34
     have c34b2 : ¬ (l0_7 = []) := fun h_ => c34 (by rw [h_]; rfl)
     obtain rfl := Option.some.inj H
     (try clear zK247)
     have zK247 := cz8 BK247.out
     go_wp2
     go_ret
     exact ⟨er_, qB HB⟩
    rw [if_pos c34] at H
    have c34b0 : ((l0_7.length : Int) == 0) = true := beq_iff_eq.mpr c34
    have c34b1 : ((l0_7.length : Int) != 0) = false := bne_eq_false_iff_eq.mpr c34
    clear c34
    by_cases c35 : a0_0 = 2
    rotate_left
    ·
     rw [if_neg c35] at H
     have c35b0 : (a0_0 == 2) = false := beq_eq_false_iff_ne.mpr c35
     have c35b1 : (a0_0 != 2) = true := bne_iff_ne.mpr c35
     by_cases c42 : a0_0 = 3
     rotate_left
     ·
      rw [if_neg c42] at H
      have c42b0 : (a0_0 == 3) = false := beq_eq_false_iff_ne.mpr c42
      have c42b1 : (a0_0 != 3) = true := bne_iff_ne.mpr c42
      obtain rfl := Option.some.inj H
      (try clear zK247)
      have zK247 := cz8 BK247.out
      go_wp2
      go_ret
      exact ⟨er_, qB HB⟩
     rw [if_pos c42] at H
     have c42b0 : (a0_0 == 3) = true := beq_iff_eq.mpr c42
     have c42b1 : (a0_0 != 3) = false := bne_eq_false_iff_eq.mpr c42
     clear c42
     obtain rfl := Option.some.inj H
     (try clear zK247)
     have zK247 := cz8 BK247.out
     go_wp2
     go_ret
     exact ⟨er_, qB HB⟩
    rw [if_pos c35] at H
    have c35b0 : (a0_0 == 2) = true := beq_iff_eq.mpr c35
    have c35b1 : (a0_0 != 2) = false := bne_eq_false_iff_eq.mpr c35
    clear c35
    replace H := bd_ H
    obtain ⟨t257, A36, H⟩ := H
    by_cases c37 : t257 = true
    ·
     subst c37
     rw [if_pos rfl] at H
     obtain rfl := Option.some.inj H
     (try clear zK247)
     have zK247 := cz8 BK247.out
     go_wp2_with (first | (go_at_call 83; (with_reducible refine (spec_l1In.calls a0_3 0 20 true _ A36.out).mono ?_); rintro e w' ⟨rfl, ⟨nd, rfl⟩⟩))
     go_ret
     exact ⟨er_, qB HB⟩
    replace c37 := Bool.eq_false_iff.mpr c37
    subst c37
    rw [if_neg (show ¬ (false = true) by decide)] at H
    by_cases c39 : a0_0 = 3
    rotate_left
    ·
     rw [if_neg c39] at H
     have c39b0 : (a0_0 == 3) = false := beq_eq_false_iff_ne.mpr c39
     have c39b1 : (a0_0 != 3) = true := bne_iff_ne.mpr c39
     obtain rfl := Option.some.inj H
     (try clear zK247)
     have zK247 := cz8 BK247.out
     go_wp2_with (first | (go_at_call 83; (with_reducible refine (spec_l1In.calls a0_3 0 20 false _ A36.out).mono ?_); rintro e w' ⟨rfl, ⟨nd, rfl⟩⟩))
     go_ret
     exact ⟨er_, qB HB⟩
    rw [if_pos c39] at H
    have c39b0 : (a0_0 == 3) = true := beq_iff_eq.mpr c39
    have c39b1 : (a0_0 != 3) = false := bne_eq_false_iff_eq.mpr c39
    clear c39
    obtain rfl := Option.some.inj H
    (try clear zK247)
    have zK247 := cz8 BK247.out
    go_wp2_with (first | (go_at_call 83; (with_reducible refine (spec_l1In.calls a0_3 0 20 false _ A36.out).mono ?_); rintro e w' ⟨rfl, ⟨nd, rfl⟩⟩))
    go_ret
    exact ⟨er_, qB HB⟩
   rw [if_pos c10] at H
   have c10b0 : (a0_0 == 1) = true := beq_iff_eq.mpr c10
   have c10b1 : (a0_0 != 1) = false := bne_eq_false_iff_eq.mpr c10
   clear c10
   have H' := Aside0.mk H
   clear H
   (try clear zK247)
   have zK247 := cz8 BK247.out
   go_wp2
   go_loopg [3] kj1 (fun kq v3 w' => ∃ (x3_2 : Int), v3 = .int .i64 x3_2 ∧ Aside0 (spec_CtlOk.l0 kq x3_2 a0_0 a0_1 a0_2 a0_3 a0_4 a0_5 a0_6 l0_7 = some r) ∧ Aside0 (kq ≤ kj1) ∧ Aside0 (w'.heap[gb247]? = some (.cells #[.int .i64 a0_0, .int .i64 a0_1, .int .i64 a0_2, .int .i64 a0_3, .int .i64 a0_4, .bool a0_5, .int .i64 a0_6, (.slice A0_7 l0_7.length c0_7)] 75 (0, 0))) ∧ Aside0 (Below w.heap.size w w'))
   case atStart => exact ⟨(0), eqq_, H', ⟨Nat.le_refl _⟩, ⟨qK BK247⟩, ⟨qB HB⟩⟩
   case round =>
    clear H'
    try clear c1
    try clear p2
    try clear c5
    try clear c8
    try clear c9
    try clear c10
    try clear c10b0
    try clear c10b1
    (try clear zK247)
    (try clear zK247)
    (try clear zK247)
    (try clear f11)
    (try clear f7)
    (try clear f8)
    try clear p2
    obtain ⟨x3_2, rfl, HA, HK2, BK247, HB⟩ := hrel
    cases gk with
    | zero => exact absurd HA.out (by simp [spec_CtlOk.l0])
    | succ k2 =>
     have H := HA.out
     clear HA
     simp only [spec_CtlOk.l0] at H
     by_cases c12 : x3_2 < (l0_7.length : Int)
     rotate_left
     ·
      rw [if_neg c12] at H
      have c12b0 : decide (x3_2 < (l0_7.length : Int)) = false := decide_eq_false c12
      clear c12
      replace H := bd_ H
      obtain ⟨t254, A20, H⟩ := H
      by_cases c21 : t254 = true
      rotate_left
      ·
       replace c21 := Bool.eq_false_iff.mpr c21
       subst c21
       rw [if_neg (show ¬ (false = true) by decide)] at H
       obtain rfl := Option.some.inj H
       (try clear zK247)
       have zK247 := cz8 BK247.out
       go_wp2_with (first | ((with_reducible refine gate_callee (f := 83) rfl ?_); refine gl_ (some 34) Try.func83 #[.int .i64 a0_4, .int .i64 1, .int .i64 20] ?_; (with_reducible refine (spec_l1In.calls a0_4 1 20 false _ A20.out).mono ?_); rintro e w' ⟨rfl, ⟨nd, rfl⟩⟩; refine ⟨_, rfl, ?_⟩))
       go_ret
       exact ⟨er_, qB HB⟩
      subst c21
      rw [if_pos rfl] at H
      replace H := bd_ H
      obtain ⟨t255, A22, H⟩ := H
      by_cases c23 : t255 = true
      rotate_left
      ·
       replace c23 := Bool.eq_false_iff.mpr c23
       subst c23
       rw [if_neg (show ¬ (false = true) by decide)] at H
       obtain rfl := Option.some.inj H
       (try clear zK247)
       have zK247 := cz8 BK247.out
       go_wp2_with (first | ((with_reducible refine gate_callee (f := 83) rfl ?_); refine gl_ (some 34) Try.func83 #[.int .i64 a0_4, .int .i64 1, .int .i64 20] ?_; (with_reducible refine (spec_l1In.calls a0_4 1 20 true _ A20.out).mono ?_); rintro e w' ⟨rfl, ⟨nd, rfl⟩⟩; refine ⟨_, rfl, ?_⟩) | (go_at_call 83; (with_reducible refine (spec_l1In.calls a0_3 0 (wrap64 (a0_4 - 1)) false _ A22.out).mono ?_); rintro e w' ⟨rfl, ⟨nd, rfl⟩⟩))
       go_ret
       exact ⟨er_, qB HB⟩
      subst c23
      rw [if_pos rfl] at H
      replace H := bd_ H
      obtain ⟨t256, A24, H⟩ := H
      by_cases c25 : t256 = true
      ·
       subst c25
       rw [if_pos rfl] at H
       obtain rfl := Option.some.inj H
       (try clear zK247)
       have zK247 := cz8 BK247.out
       go_wp2_with (first | ((with_reducible refine gate_callee (f := 83) rfl ?_); refine gl_ (some 34) Try.func83 #[.int .i64 a0_4, .int .i64 1, .int .i64 20] ?_; (with_reducible refine (spec_l1In.calls a0_4 1 20 true _ A20.out).mono ?_); rintro e w' ⟨rfl, ⟨nd, rfl⟩⟩; refine ⟨_, rfl, ?_⟩) | (go_at_call 83; (with_reducible refine (spec_l1In.calls a0_3 0 (wrap64 (a0_4 - 1)) true _ A22.out).mono ?_); rintro e w' ⟨rfl, ⟨nd, rfl⟩⟩) | (go_at_call 83; (with_reducible refine (spec_l1In.calls a0_6 0 65535 true _ A24.out).mono ?_); rintro e w' ⟨rfl, ⟨nd, rfl⟩⟩))
       go_ret
       exact ⟨er_, qB HB⟩
      replace c25 := Bool.eq_false_iff.mpr c25
      subst c25
      rw [if_neg (show ¬ (false = true) by decide)] at H
      obtain rfl := Option.some.inj H
      (try clear zK247)
      have zK247 := cz8 BK247.out
      go_wp2_with (first | ((with_reducible refine gate_callee (f := 83) rfl ?_); refine gl_ (some 34) Try.func83 #[.int .i64 a0_4, .int .i64 1, .int .i64 20] ?_; (with_reducible refine (spec_l1In.calls a0_4 1 20 true _ A20.out).mono ?_); rintro e w' ⟨rfl, ⟨nd, rfl⟩⟩; refine ⟨_, rfl, ?_⟩) | (go_at_call 83; (with_reducible refine (spec_l1In.calls a0_3 0 (wrap64 (a0_4 - 1)) true _ A22.out).mono ?_); rintro e w' ⟨rfl, ⟨nd, rfl⟩⟩) | (go_at_call 83; (with_reducible refine (spec_l1In.calls a0_6 0 65535 false _ A24.out).mono ?_); rintro e w' ⟨rfl, ⟨nd, rfl⟩⟩))
      go_ret
      exact ⟨er_, qB HB⟩
     rw [if_pos c12] at H
     have c12b0 : decide (x3_2 < (l0_7.length : Int)) = true := decide_eq_true c12
     clear c12
     by_cases c13 : 0 ≤ x3_2
     case neg => exact nn_ c13 H
     rw [if_pos c13] at H
     have c13b0 : decide (0 ≤ x3_2) = true := decide_eq_true c13
     clear c13
     replace H := bd_ H
     obtain ⟨t251, A14, H⟩ := H
     have HC15 := Aside0.mk H
     clear H
     (try clear zK247)
     have zK247 := cz8 BK247.out
     have p250 : 0 ≤ (x3_2 : Int) := od_
     have q250 : x3_2 < (l0_7.length : Int) := od_
     obtain ⟨ad250, e250, hx250_0, hx250_1, hx250_2, hx250_3, hx250_4, hx250_5, hx250_6, hx250_7, hx250_8, hx250_9, hx250_10, hx250_11, hx250_12, hx250_13, hx250_14, hx250_15⟩ := at_T29 HR0_7.out x3_2 p250 q250
     cases e250
     replace hx250_0 := lb_ HB hx250_0
     replace hx250_1 := lb_ HB hx250_1
     replace hx250_2 := lb_ HB hx250_2
     replace hx250_3 := lb_ HB hx250_3
     replace hx250_4 := lb_ HB hx250_4
     replace hx250_5 := lb_ HB hx250_5
     replace hx250_6 := lb_ HB hx250_6
     replace hx250_7 := lb_ HB hx250_7
     replace hx250_8 := lb_ HB hx250_8
     replace hx250_9 := lb_ HB hx250_9
     replace hx250_10 := lb_ HB hx250_10
     replace hx250_11 := lb_ HB hx250_11
     replace hx250_12 := lb_ HB hx250_12
     replace hx250_13 := lb_ HB hx250_13
     replace hx250_14 := lb_ HB hx250_14
     replace hx250_15 := lb_ HB hx250_15
     replace p250 := eq_true p250
     replace q250 := eq_true q250
     go_upto_if 31 with (first | ((with_reducible refine gate_callee (f := 20) rfl ?_); refine gl_ (some 29) Try.func20 #[.agg #[.int .i64 ((rd_T29 l0_7 x3_2).f0), .int .i64 ((rd_T29 l0_7 x3_2).f1.f0), .string ((rd_T29 l0_7 x3_2).f1.f1), .int .i64 ((rd_T29 l0_7 x3_2).f1.f2), .int .i64 ((rd_T29 l0_7 x3_2).f1.f3), .int .i64 ((rd_T29 l0_7 x3_2).f1.f4), .string ((rd_T29 l0_7 x3_2).f1.f5), .int .i64 ((rd_T29 l0_7 x3_2).f1.f6), .int .i64 ((rd_T29 l0_7 x3_2).f1.f7), .int .i64 ((rd_T29 l0_7 x3_2).f2.f0), .string ((rd_T29 l0_7 x3_2).f2.f1), .int .i64 ((rd_T29 l0_7 x3_2).f2.f2), .int .i64 ((rd_T29 l0_7 x3_2).f2.f3), .int .i64 ((rd_T29 l0_7 x3_2).f2.f4), .int .i64 ((rd_T29 l0_7 x3_2).f2.f5), .int .i64 ((rd_T29 l0_7 x3_2).f2.f6)]] ?_; (with_reducible refine (spec_PutItem.calls k2 ((rd_T29 l0_7 x3_2).f0) ((rd_T29 l0_7 x3_2).f1.f0) ((rd_T29 l0_7 x3_2).f1.f1) ((rd_T29 l0_7 x3_2).f1.f2) ((rd_T29 l0_7 x3_2).f1.f3) ((rd_T29 l0_7 x3_2).f1.f4) ((rd_T29 l0_7 x3_2).f1.f5) ((rd_T29 l0_7 x3_2).f1.f6) ((rd_T29 l0_7 x3_2).f1.f7) ((rd_T29 l0_7 x3_2).f2.f0) ((rd_T29 l0_7 x3_2).f2.f1) ((rd_T29 l0_7 x3_2).f2.f2) ((rd_T29 l0_7 x3_2).f2.f3) ((rd_T29 l0_7 x3_2).f2.f4) ((rd_T29 l0_7 x3_2).f2.f5) ((rd_T29 l0_7 x3_2).f2.f6) t251 _ A14.out).mono ?_); rintro e w17 ⟨v252, rfl, ho0, hb⟩; refine ⟨_, rfl, ?_⟩; have HO253 := am_ (Kd.R_lower ho0 (below_size (qB HB))); replace BK247 := bK_ BK247 hb; replace HB := bS_ HB hb; (try clear hb); (try clear ho0); obtain ⟨Ao18, co18, eo18⟩ := Kd.R_slice HO253.out; subst eo18))
     (try simp only [Act.put, List.setIfInBounds_toArray, List.set_cons_zero, List.set_cons_succ])
     have H := HC15.out
     clear HC15
     by_cases c19 : (t251.length : Int) = 0
     ·
      rw [if_pos c19] at H
      have c19b0 : ((t251.length : Int) == 0) = true := beq_iff_eq.mpr c19
      have c19b1 : ((t251.length : Int) != 0) = false := bne_eq_false_iff_eq.mpr c19
      clear c19
      (first | rw [c19b0] | rw [c19b1] | (simp only [i64_w, i32_w]; rw [c19b0]) | skip)
      obtain rfl := Option.some.inj H
      go_wp2
      go_ret
      exact ⟨er_, qB HB⟩
     rw [if_neg c19] at H
     have c19b0 : ((t251.length : Int) == 0) = false := beq_eq_false_iff_ne.mpr c19
     have c19b1 : ((t251.length : Int) != 0) = true := bne_iff_ne.mpr c19
     have c19b2 : ¬ (t251 = []) := fun h_ => c19 (by rw [h_]; rfl)
     (first | rw [c19b0] | rw [c19b1] | rw [c19b2] | (simp only [i64_w, i32_w]; rw [c19b0]) | skip)
     have H' := Aside0.mk H
     clear H
     go_wp2
     go_roundg k2
     case measure => have := HJ1.out; have := HK2.out; omega
     case rel => exact ⟨(wrap64 (x3_2 + 1)), eqq_, H', ⟨by have := HJ1.out; have := HK2.out; omega⟩, ⟨qK BK247⟩, ⟨qB HB⟩⟩

/-! ### spec_l12Pack: function 105 -/
def spec_l12Pack.f (a0_0 : Int) (l0_1 : List Int) : Option (Int × List Int) := (some (([] : List Int) : List Int)).bind fun y260 => (if y260.length + l0_1.length < 140737488355328 then (some (a0_0, (y260 ++ l0_1))) else (none))
def spec_l12Pack.T1 : Bool × List (List Nat × List Nat) := (true, [([], []), ([0], [0]), ([], []), ([], []), ([3], [3]), ([2, 4], [2, 4]), ([1, 5], [1, 5]), ([6, 5, 0, 1, 2, 3, 4, 5, 6], [6])])
def spec_l12Pack.B1 : List Nat := [0, 1, 0, 0, 8, 28, 63, 127]
theorem spec_l12Pack.tab1 : rtab .any (opsOf Try.f105 1) = spec_l12Pack.T1 := by kernel_rfl
theorem spec_l12Pack.bits1 : waitsOk spec_l12Pack.T1.2 spec_l12Pack.B1 = true := by kernel_rfl
set_option maxHeartbeats 8000000 in
set_option maxRecDepth 100000 in
theorem spec_l12Pack.calls (a0_0 : Int) (A0_1 : Option Addr) (c0_1 : Nat) (l0_1 : List Int) (r1 : Int) (r2 : List Int) (w : World) (hr0_1 : Kd.C (Kd.int .u8) w A0_1 l0_1.length l0_1) (hc0_1 : l0_1.length ≤ c0_1) (h : spec_l12Pack.f a0_0 l0_1 = some (r1, r2)) :
  Calls Try.prog 105 #[.agg #[.int .i64 a0_0, .slice A0_1 l0_1.length c0_1]] w fun e w' => ∃ v1_ : Value, e = .returned (.agg #[.int .i64 r1, v1_]) ∧ Kd.R (Kd.int .u8) 5 w' w.heap.size (fun _ => True) v1_ r2 ∧ Below w.heap.size w w' := by
 have hu68 := Try.underlying68
 have HR0_1 := Aside0.mk hr0_1
 have HC0_1 := Aside0.mk hc0_1
 clear hr0_1 hc0_1
 have HB := Aside0.mk (Below.refl w.heap.size w)
 have H := h
 unfold spec_l12Pack.f at H
 clear h
 obtain ⟨y260, hy260⟩ : ∃ y_ : List Int, y_ = (([] : List Int)) := ⟨_, rfl⟩
 replace H := mk_ H hy260
 (try dsimp only at H)
 have Ny260 := Aside0.mk hy260
 clear hy260
 by_cases c2 : y260.length + l0_1.length < 140737488355328
 case neg => exact nn_ c2 H
 rw [if_pos c2] at H
 have LMc2 := Aside0.mk c2
 clear c2
 obtain ⟨y263, hy263⟩ : ∃ y_ : List Int, y_ = (y260 ++ l0_1) := ⟨_, rfl⟩
 replace H : (some (a0_0, y263)) = some (r1, r2) := by first | (rw [hy263]; with_reducible exact H) | (have H2_ := (Option.bind_some _ _).symm.trans H; rw [hy263]; with_reducible exact H2_) | (have H2_ := (Option.bind_some _ _).symm.trans H; with_reducible exact H2_) | with_reducible exact H | (rw [hy263]; exact H) | exact H
 have Ny263 := Aside0.mk hy263
 clear hy263
 simp only [Option.some.injEq, Prod.mk.injEq] at H
 obtain ⟨rfl, rfl⟩ := H
 go_enter Try.func105, Try.ntmps105
 try go_wp2_with (first | ((with_reducible refine gate_dst (N := 1) rfl ?_); refine bx_ (N := 1) (cs := #[.int .i64 a0_0, .slice A0_1 l0_1.length c0_1]) (t := 68) ?_; intro gb258 hg w3 hbox hb; have BK258 := am_ (hbox); have GW258 := gA_ hg HB; have GE258 := GW258; have IGE258 := gI_ GE258; replace HB := bS_ HB hb; clear hb hbox hg) | ((with_reducible refine gate_dst (N := 2) rfl ?_); refine bx_ (N := 2) (cs := #[.int .i64 0, .slice none 0 0]) (t := 68) ?_; intro gb259 hg w4 hbox hb; have BK259 := am_ (hbox); have GW259 := gA_ hg HB; have GE259 := GW259; have IGE259 := gI_ GE259; replace HB := bS_ HB hb; have NB258_259 := am_ ((gN_ hg (qK BK258))); have NB259_258 := am_ ((gM_ hg (qK BK258))); replace BK258 := bK_ BK258 hb; clear hb hbox hg))
 replace BK258 := am_ (blk_drew BK258.out)
 replace BK259 := am_ (blk_drew BK259.out)
 replace HB := am_ (below_drew1 HB.out)
 refine start_ (n := 8) (S := fun w' => w'.cell? ⟨gb258, 0, none⟩ = some (.int .i64 a0_0) ∧ w'.cell? ⟨gb258, 1, none⟩ = some (.slice A0_1 l0_1.length c0_1)) (ds := []) #[oo,oo,oo,oo,oo,oo,oo,oo] (by kernel_rfl) rfl rfl (cz2 BK258.out) (fun hHeld => ?_); refine with_tabW spec_l12Pack.tab1 spec_l12Pack.bits1 (fun HT_ HW_ => ?_)
 generalize w4.drew = w5 at BK258 BK259 HB hHeld ⊢
 refine pz_ (i := 0) (N := some 3) HT_ #[ii,oo,oo,oo,oo,oo,oo,oo] rfl rfl ?_
 refine pz_ (i := 3) (N := some 6) HT_ #[ii,oo,oo,ii,oo,oo,oo,oo] rfl rfl ?_
 refine tz_ (i := 1) (N := some 4) HT_ HW_ #[ii,ii,oo,ii,oo,oo,oo,oo] rfl rfl hHeld ?_
 refine tz_ (i := 4) (N := some 7) HT_ HW_ #[ii,ii,oo,ii,ii,oo,oo,oo] rfl rfl hHeld ?_
 refine one_ (i := 2) (N := some 5) #[ii,ii,ii,ii,ii,oo,oo,oo] rfl rfl (one_of HT_.out (by kernel_rfl)) (by decide) (fun K hK => ?_)
 refine Kd.R_lit_step (Kd.int .u8) _ 5 ?hg (N := 5) ?hd (xs := ([] : List Int)) (inner := []) (ok := fun _ => True) (okp := fun _ => True) ?hr ?hp (fun _ hk => hk) trivial (Below.refl _ _) (Nat.le_refl _) (by simp) ?_; (case hd => rfl); (case hg => rfl); (case hr => first | (go_simp; done) | (go_simp; rfl)); (case hp => exact (Reps.none _ _))
 intro v261 w6 ho7 hb hg_ hnew_
 clear hg_ hnew_
 (first | rw [← Ny260.out] at ho7 | (simp only [Int.reduceToNat] at ho7; rw [← Ny260.out] at ho7))
 have HO262 := am_ (Kd.R_lower ho7 (below_size (qB HB)))
 replace BK258 := bK_ BK258 hb
 replace BK259 := bK_ BK259 hb
 replace HB := bS_ HB hb
 clear hb ho7
 refine hK.out _ _ (cz2 BK258.out) (fun hHeld => ?_)
 clear hK K
 refine norm_ (a' := ?_) ?_ ?_
 rotate_left
 ·
  show Act.put _ (some 5) _ = _
  exact ap_
 refine one_ (i := 5) (N := some 8) #[ii,ii,ii,ii,ii,ii,oo,oo] rfl rfl (one_of HT_.out (by kernel_rfl)) (by decide) (fun K hK => ?_)
 refine Kd.R_append_rows_step (Kd.int .u8) (w0 := w) w.heap.size (by rfl) (.tmp 5) (.tmp 7) 22 5 (.int .u8 0) 1 rfl Try.underlying22 info5 rfl (by decide) (by omega) v261 y260 l0_1 _ _ _ (fun _ => True) (fun _ => False) rfl rfl ?aO ?aR (fun _ _ h => h) (fun _ h => h.elim) ?aF ?aB ?aS ?aL ?_
 (case aR => exact qC (Kd.C_below HR0_1.out HB.out))
 (case aB => exact (qB HB))
 (case aF => exact (fun _ _ => trivial))
 (case aO => exact (qR HO262))
 (case aS => exact (below_size (qB HB)))
 (case aL => have := LMc2.out; omega)
 intro v264 w8 ho hb hg hat
 rw [← Ny263.out] at ho
 replace BK258 := am_ (blk_grown (qK BK258) hg (Kd.R_ne HO262.out BK258.out (by decide)))
 replace BK259 := am_ (blk_grown (qK BK259) hg (Kd.R_ne HO262.out BK259.out (by decide)))
 replace HB := am_ (hb)
 have HO265 := am_ (ho)
 clear HO262
 clear ho hb hg hat
 obtain ⟨Ao9, co9, eo9⟩ := Kd.R_slice HO265.out
 (first | subst eo9 | (injection eo9 with f1_ f2_ f3_; have f4_ := f1_.symm; have f5_ := f3_.symm; clear f1_ f2_ f3_; subst f4_; subst f5_))
 refine hK.out _ _ (cz2 BK258.out) (fun hHeld => ?_)
 clear hK K
 refine norm_ (a' := ?_) ?_ ?_
 rotate_left
 ·
  show Act.put _ (some 8) _ = _
  exact ap_
 refine pz_ (i := 6) (N := some 9) HT_ #[ii,ii,ii,ii,ii,ii,ii,oo] rfl rfl ?_
 refine one_ (i := 7) (N := none) #[ii,ii,ii,ii,ii,ii,ii,ii] rfl rfl (one_of HT_.out (by kernel_rfl)) (by decide) (fun K hK => ?_)
 have hs10 : w8.cell? ⟨gb259, 0, none⟩ = some (.int .i64 0) := (blk_cell BK259.out 0).trans rfl
 have hfs10 := blk_frozen BK259.out 0
 have hns10_0 := NB258_259.out
 have hms10_0 := NB259_258.out
 have hs11 : w8.cell? ⟨gb259, 1, none⟩ = some (.slice none 0 0) := (blk_cell BK259.out 1).trans rfl
 have hfs11 := blk_frozen BK259.out 1
 have hns11_0 := NB258_259.out
 have hms11_0 := NB259_258.out
 refine skip_ (w1 := ?_) (by rfl) rfl ?_ ?_
 rotate_left
 ·
  go_simp
  rfl
 refine hK.out _ _ ⟨((cell_far (p := ⟨gb259, _, none⟩) NB258_259.out _).trans (((cell_far (p := ⟨gb259, _, none⟩) NB258_259.out _).trans (hHeld.1)))), ((cell_far (p := ⟨gb259, _, none⟩) NB258_259.out _).trans (((cell_far (p := ⟨gb259, _, none⟩) NB258_259.out _).trans (hHeld.2))))⟩ (fun hHeld => ?_)
 clear hK K
 refine done_ (done_of HT_.out (by kernel_rfl)) ?_
 try go_wp2
 refine bodyPost_ret (results_cell_row rfl _ _ gb259 68 #[.int .i64 a0_0, .slice Ao9 y263.length co9] (0, 0) _ rfl (by exact blk_all2 (qK BK259)) Try.underlying68 rfl (by kernel_rfl)) rfl ?_
 exact ⟨_, er_, by (with_reducible repeat (first | apply Kd.R_alloc | apply Kd.R_drewN | apply Kd.R_drew)); exact Kd.R_mono (R_far2 (g := gb259) (Kd.R_types HO265.out BK259.out (by decide)) (fun _ hk => hk.2)) (fun _ hk => trivial), qB HB⟩

end Go.Proofs.Ytiffahfpfgnjnaa.PFnWays
