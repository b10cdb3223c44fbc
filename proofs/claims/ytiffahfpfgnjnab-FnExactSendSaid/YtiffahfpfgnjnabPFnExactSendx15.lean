-- Written by a program of this session (myprint.py, over the kit's print): contracts of FnExactSend
import Derived.Test.YtiffahfpfgnjnabPFnExactSendx0
import Derived.Test.YtiffahfpfgnjnabPFnExactSendx11
import Derived.Test.YtiffahfpfgnjnabPFnExactSendx14
namespace Go.Proofs.Ytiffahfpfgnjnab.PFnExactSend
open Go.RowKit Go.Proofs.YtiffahfpfgnjnabW.PrintWords Go.Proofs.YtiffahfpfgnjnabW.PrintLast Go.Proofs.YtiffahfpfgnjnabW.PrintMore Go.Proofs.YtiffahfpfgnjnabV
attribute [local go_sem] max2_int min2_int max_two min_two max_three min_three max_four min_four   -- for this text's walks alone
set_option linter.unusedVariables false
set_option linter.unusedSimpArgs false

/-! ### impl_CtlOk: function 74 -/
mutual
def impl_CtlOk.j0 : Nat → Bool → Int → Int → Int → Int → Int → Bool → Int → List (S126) → Option (Bool)
 | 0, _, _, _, _, _, _, _, _, _ => none
 | k + 1, x14, x528000, x528001, x528002, x528003, x528004, x528005, x528006, x528007 => if x14 = true then (some false) else (if x528000 = 1 then (impl_CtlOk.l0 k x528007 (x528007.length : Int) 0 x528000 x528001 x528002 x528003 x528004 x528005 x528006 x528007) else (if x528000 = 2 then ((impl_isIn.f x528003 0 20).bind fun t538 => (if t538 = true then (if x528004 = 0 then (if x528005 = true then (some false) else (if x528006 = 0 then (some ((x528007.length : Int) == 0)) else (some false))) else (some false)) else (some false))) else (if x528000 = 3 then ((impl_isIn.f x528003 0 20).bind fun t539 => (if t539 = true then (if x528003 = 0 then (if x528004 = 0 then (if x528005 = true then (some false) else (if x528006 = 0 then (some ((x528007.length : Int) == 0)) else (some false))) else (some false)) else (some false)) else (some false))) else (some false))))
def impl_CtlOk.l0 : Nat → List (S126) → Int → Int → Int → Int → Int → Int → Int → Bool → Int → List (S126) → Option (Bool)
 | 0, _, _, _, _, _, _, _, _, _, _, _ => none
 | k + 1, x20, x21, x22, x528000, x528001, x528002, x528003, x528004, x528005, x528006, x528007 => if x22 < x21 then (if 0 ≤ x22 then (if x22 < (x20.length : Int) then ((impl_PutItem.f k ((rd_T126 x20 x22).f0) ((rd_T126 x20 x22).f1.f0) ((rd_T126 x20 x22).f1.f1) ((rd_T126 x20 x22).f1.f2) ((rd_T126 x20 x22).f1.f3) ((rd_T126 x20 x22).f1.f4) ((rd_T126 x20 x22).f1.f5) ((rd_T126 x20 x22).f1.f6) ((rd_T126 x20 x22).f1.f7) ((rd_T126 x20 x22).f2.f0) ((rd_T126 x20 x22).f2.f1) ((rd_T126 x20 x22).f2.f2) ((rd_T126 x20 x22).f2.f3) ((rd_T126 x20 x22).f2.f4) ((rd_T126 x20 x22).f2.f5) ((rd_T126 x20 x22).f2.f6)).bind fun t532 => (if (t532.length : Int) = 0 then (some false) else (impl_CtlOk.l0 k x20 x21 (wrap64 (x22 + 1)) x528000 x528001 x528002 x528003 x528004 x528005 x528006 x528007))) else (none)) else (none)) else ((impl_isIn.f x528004 1 20).bind fun t535 => (if t535 = true then ((impl_isIn.f x528003 0 (wrap64 (x528004 - 1))).bind fun t536 => (if t536 = true then ((impl_wordOk.f x528006).bind fun t537 => (if t537 = true then (some (decide ((x528007.length : Int) ≤ 2))) else (some false))) else (some false))) else (some false)))
end
def impl_CtlOk.f (k : Nat) (a0_0 : Int) (a0_1 : Int) (a0_2 : Int) (a0_3 : Int) (a0_4 : Int) (a0_5 : Bool) (a0_6 : Int) (l0_7 : List (S126)) : Option (Bool) := (impl_isIn.f a0_1 0 1).bind fun t528 => (if t528 = true then ((impl_isIn.f a0_2 1 60000).bind fun t529 => (impl_CtlOk.j0 k (!t529) a0_0 a0_1 a0_2 a0_3 a0_4 a0_5 a0_6 l0_7)) else (impl_CtlOk.j0 k true a0_0 a0_1 a0_2 a0_3 a0_4 a0_5 a0_6 l0_7))
theorem impl_CtlOk.mono_l : ∀ k, (∀ y0 y1 y2 y3 y4 y5 y6 y7 y8, LeO (impl_CtlOk.j0 k y0 y1 y2 y3 y4 y5 y6 y7 y8) (impl_CtlOk.j0 (k + 1) y0 y1 y2 y3 y4 y5 y6 y7 y8)) ∧ (∀ y0 y1 y2 y3 y4 y5 y6 y7 y8 y9 y10, LeO (impl_CtlOk.l0 k y0 y1 y2 y3 y4 y5 y6 y7 y8 y9 y10) (impl_CtlOk.l0 (k + 1) y0 y1 y2 y3 y4 y5 y6 y7 y8 y9 y10))
 | 0 => ⟨fun _ _ _ _ _ _ _ _ _ r h => by simp [impl_CtlOk.j0] at h, fun _ _ _ _ _ _ _ _ _ _ _ r h => by simp [impl_CtlOk.l0] at h⟩
 | k + 1 => by
  obtain ⟨ih0, ih1⟩ := impl_CtlOk.mono_l k
  refine ⟨?_, ?_⟩
  ·
   intro y0 y1 y2 y3 y4 y5 y6 y7 y8
   unfold impl_CtlOk.j0
   repeat' first
   | (with_reducible exact ih0 _ _ _ _ _ _ _ _ _)
   | (with_reducible exact ih1 _ _ _ _ _ _ _ _ _ _ _)
   | (with_reducible exact impl_PutItem.mono _ _ _ _ _ _ _ _ _ _ _ _ _ _ _ _ _)
   | (with_reducible exact LeO.refl _)
   | (with_reducible exact LeO.none _)
   | (with_reducible refine LeO.ite ?_ ?_)
   | (with_reducible refine LeO.bind ?_ (fun _ => ?_))
  ·
   intro y0 y1 y2 y3 y4 y5 y6 y7 y8 y9 y10
   unfold impl_CtlOk.l0
   repeat' first
   | (with_reducible exact ih0 _ _ _ _ _ _ _ _ _)
   | (with_reducible exact ih1 _ _ _ _ _ _ _ _ _ _ _)
   | (with_reducible exact impl_PutItem.mono _ _ _ _ _ _ _ _ _ _ _ _ _ _ _ _ _)
   | (with_reducible exact LeO.refl _)
   | (with_reducible exact LeO.none _)
   | (with_reducible refine LeO.ite ?_ ?_)
   | (with_reducible refine LeO.bind ?_ (fun _ => ?_))
theorem impl_CtlOk.mono : ∀ a0 a1 a2 a3 a4 a5 a6 a7 k, LeO (impl_CtlOk.f k a0 a1 a2 a3 a4 a5 a6 a7) (impl_CtlOk.f (k + 1) a0 a1 a2 a3 a4 a5 a6 a7) := by
 intro a0 a1 a2 a3 a4 a5 a6 a7 k
 obtain ⟨ih0, ih1⟩ := impl_CtlOk.mono_l k
 unfold impl_CtlOk.f
 repeat' first
   | (with_reducible exact ih0 _ _ _ _ _ _ _ _ _)
   | (with_reducible exact ih1 _ _ _ _ _ _ _ _ _ _ _)
   | (with_reducible exact impl_PutItem.mono _ _ _ _ _ _ _ _ _ _ _ _ _ _ _ _ _)
   | (with_reducible exact LeO.refl _)
   | (with_reducible exact LeO.none _)
   | (with_reducible refine LeO.ite ?_ ?_)
   | (with_reducible refine LeO.bind ?_ (fun _ => ?_))
set_option maxHeartbeats 8000000 in
set_option maxRecDepth 100000 in
theorem impl_CtlOk.calls (k : Nat) (a0_0 : Int) (a0_1 : Int) (a0_2 : Int) (a0_3 : Int) (a0_4 : Int) (a0_5 : Bool) (a0_6 : Int) (A0_7 : Option Addr) (c0_7 : Nat) (l0_7 : List (S126)) (r : Bool) (w : World) (hr0_7 : Kd.C k126 w A0_7 l0_7.length l0_7) (hc0_7 : l0_7.length ≤ c0_7) (h : impl_CtlOk.f k a0_0 a0_1 a0_2 a0_3 a0_4 a0_5 a0_6 l0_7 = some r) :
  Calls Try.prog 74 #[.agg #[.int .i64 a0_0, .int .i64 a0_1, .int .i64 a0_2, .int .i64 a0_3, .int .i64 a0_4, .bool a0_5, .int .i64 a0_6, .slice A0_7 l0_7.length c0_7]] w fun e w' => e = .returned (.bool r) ∧ Below w.heap.size w w' := by
 have hu63 := Try.underlying63
 have hu126 := Try.underlying126
 have HR0_7 := Aside0.mk hr0_7
 have HC0_7 := Aside0.mk hc0_7
 clear hr0_7 hc0_7
 have HB := Aside0.mk (Below.refl w.heap.size w)
 have H := h
 unfold impl_CtlOk.f at H
 clear h
 have HC2 := Aside0.mk H
 clear H
 go_enter Try.func74, Try.ntmps74
 go_upto_region 1 with (first | ((with_reducible refine gate_dst (N := 1) rfl ?_); (try (refine gate_guard (by rfl) ?_; dsimp only)); refine box_event ?hg (N := 1) ?hd (cs := #[.int .i64 a0_0, .int .i64 a0_1, .int .i64 a0_2, .int .i64 a0_3, .int .i64 a0_4, .bool a0_5, .int .i64 a0_6, .slice A0_7 l0_7.length c0_7]) (t := 63) ?hr ?_; (case hd => rfl); (case hg => rfl); (case hr => first | (go_simp; done) | (go_simp; rfl)); intro gb527 hg w3 hbox hb; have BK527 := am_ (hbox); have GW527 := gA_ hg HB; have GE527 := GW527; have IGE527 := gI_ GE527; replace HB := bS_ HB hb; clear hb hbox hg))
 (try simp only [Act.put, List.setIfInBounds_toArray, List.set_cons_zero, List.set_cons_succ])
 go_cut [14] (fun v14 wc => ∃ (kq : Nat) (x14_1 : Bool), v14 = .bool x14_1 ∧ Aside0 (impl_CtlOk.j0 kq x14_1 a0_0 a0_1 a0_2 a0_3 a0_4 a0_5 a0_6 l0_7 = some r) ∧ Aside0 (kq ≤ k) ∧ Aside0 (wc.heap[gb527]? = some (.cells #[.int .i64 a0_0, .int .i64 a0_1, .int .i64 a0_2, .int .i64 a0_3, .int .i64 a0_4, .bool a0_5, .int .i64 a0_6, (.slice A0_7 l0_7.length c0_7)] 63 (0, 0))) ∧ Aside0 (Below w.heap.size w wc))
 case first =>
  have H := HC2.out
  clear HC2
  replace H := bd_ H
  obtain ⟨t528, A4, H⟩ := H
  by_cases c5 : t528 = true
  rotate_left
  ·
   replace c5 := Bool.eq_false_iff.mpr c5
   subst c5
   rw [if_neg (show ¬ (false = true) by decide)] at H
   have H' := Aside0.mk H
   clear H
   have z8 := cz8 BK527.out
   have f8 := fz8 BK527.out
   go_wp2_with (first | ((with_reducible refine gate_callee (f := 45) rfl ?_); refine goesL_ (some 7) rfl rfl Try.func45 (by kernel_rfl) rfl #[.int .i64 a0_1, .int .i64 0, .int .i64 1] rfl la_ ?_; (with_reducible refine (impl_isIn.calls a0_1 0 1 false _ A4.out).mono ?_); rintro e w' ⟨rfl, ⟨nd, rfl⟩⟩; refine ⟨_, rfl, ?_⟩))
   go_meet
   case rel => exact ⟨_, (true), eqq_, H', ⟨by first | omega | exact Nat.le_refl _⟩, ⟨qK BK527⟩, ⟨qB HB⟩⟩
  subst c5
  rw [if_pos rfl] at H
  replace H := bd_ H
  obtain ⟨t529, A6, H⟩ := H
  have H' := Aside0.mk H
  clear H
  have z7 := cz8 BK527.out
  have f7 := fz8 BK527.out
  go_wp2_with (first | ((with_reducible refine gate_callee (f := 45) rfl ?_); refine goesL_ (some 7) rfl rfl Try.func45 (by kernel_rfl) rfl #[.int .i64 a0_1, .int .i64 0, .int .i64 1] rfl la_ ?_; (with_reducible refine (impl_isIn.calls a0_1 0 1 true _ A4.out).mono ?_); rintro e w' ⟨rfl, ⟨nd, rfl⟩⟩; refine ⟨_, rfl, ?_⟩) | (go_at_call 45; (with_reducible refine (impl_isIn.calls a0_2 1 60000 t529 _ A6.out).mono ?_); rintro e w' ⟨rfl, ⟨nd, rfl⟩⟩))
  go_meet
  case rel => exact ⟨_, (!t529), eqq_, H', ⟨by first | omega | exact Nat.le_refl _⟩, ⟨qK BK527⟩, ⟨qB HB⟩⟩
 case rest =>
  clear HC2
  try clear p2
  try clear c4
  try clear c5
  try clear c7
  (try clear z7)
  (try clear z8)
  (try clear f7)
  (try clear f8)
  obtain ⟨kq, x14_1, rfl, HA, HJ1, BK527, HB⟩ := hcut
  cases kq with
  | zero => exact absurd HA.out (by simp [impl_CtlOk.j0])
  | succ kj1 =>
   have H := HA.out
   clear HA
   simp only [impl_CtlOk.j0] at H
   by_cases c9 : x14_1 = true
   ·
    subst c9
    rw [if_pos rfl] at H
    obtain rfl := Option.some.inj H
    go_wp2
    go_ret
    exact ⟨er_, qB HB⟩
   replace c9 := Bool.eq_false_iff.mpr c9
   subst c9
   rw [if_neg (show ¬ (false = true) by decide)] at H
   by_cases c10 : a0_0 = 1
   ·
    rw [if_pos c10] at H
    have c10b0 : (a0_0 == 1) = true := beq_iff_eq.mpr c10
    have c10b1 : (a0_0 != 1) = false := bne_eq_false_iff_eq.mpr c10
    clear c10
    have H' := Aside0.mk H
    clear H
    have z11 := cz8 BK527.out
    have f11 := fz8 BK527.out
    go_wp2
    go_loopg [22] kj1 (fun kq v22 w' => ∃ (x22_2 : Int), v22 = .int .i64 x22_2 ∧ Aside0 (impl_CtlOk.l0 kq l0_7 (l0_7.length : Int) x22_2 a0_0 a0_1 a0_2 a0_3 a0_4 a0_5 a0_6 l0_7 = some r) ∧ Aside0 (kq ≤ kj1) ∧ Aside0 (w'.heap[gb527]? = some (.cells #[.int .i64 a0_0, .int .i64 a0_1, .int .i64 a0_2, .int .i64 a0_3, .int .i64 a0_4, .bool a0_5, .int .i64 a0_6, (.slice A0_7 l0_7.length c0_7)] 63 (0, 0))) ∧ Aside0 (Below w.heap.size w w'))
    case atStart => exact ⟨(0), eqq_, H', ⟨Nat.le_refl _⟩, ⟨qK BK527⟩, ⟨qB HB⟩⟩
    case round =>
     clear H'
     try clear c1
     try clear p2
     try clear c4
     try clear c5
     try clear c7
     try clear c9
     try clear c10
     try clear c10b0
     try clear c10b1
     (try clear z11)
     (try clear z7)
     (try clear z8)
     (try clear f11)
     (try clear f7)
     (try clear f8)
     try clear p2
     obtain ⟨x22_2, rfl, HA, HK2, BK527, HB⟩ := hrel
     cases gk with
     | zero => exact absurd HA.out (by simp [impl_CtlOk.l0])
     | succ k2 =>
      have H := HA.out
      clear HA
      simp only [impl_CtlOk.l0] at H
      by_cases c12 : x22_2 < (l0_7.length : Int)
      rotate_left
      ·
       rw [if_neg c12] at H
       have c12b0 : decide (x22_2 < (l0_7.length : Int)) = false := decide_eq_false c12
       clear c12
       replace H := bd_ H
       obtain ⟨t535, A25, H⟩ := H
       by_cases c26 : t535 = true
       rotate_left
       ·
        replace c26 := Bool.eq_false_iff.mpr c26
        subst c26
        rw [if_neg (show ¬ (false = true) by decide)] at H
        obtain rfl := Option.some.inj H
        have z34 := cz8 BK527.out
        have f34 := fz8 BK527.out
        go_wp2_with (first | ((with_reducible refine gate_callee (f := 45) rfl ?_); refine goesL_ (some 33) rfl rfl Try.func45 (by kernel_rfl) rfl #[.int .i64 a0_4, .int .i64 1, .int .i64 20] rfl la_ ?_; (with_reducible refine (impl_isIn.calls a0_4 1 20 false _ A25.out).mono ?_); rintro e w' ⟨rfl, ⟨nd, rfl⟩⟩; refine ⟨_, rfl, ?_⟩))
        go_ret
        exact ⟨er_, qB HB⟩
       subst c26
       rw [if_pos rfl] at H
       replace H := bd_ H
       obtain ⟨t536, A27, H⟩ := H
       by_cases c28 : t536 = true
       rotate_left
       ·
        replace c28 := Bool.eq_false_iff.mpr c28
        subst c28
        rw [if_neg (show ¬ (false = true) by decide)] at H
        obtain rfl := Option.some.inj H
        have z33 := cz8 BK527.out
        have f33 := fz8 BK527.out
        go_wp2_with (first | ((with_reducible refine gate_callee (f := 45) rfl ?_); refine goesL_ (some 33) rfl rfl Try.func45 (by kernel_rfl) rfl #[.int .i64 a0_4, .int .i64 1, .int .i64 20] rfl la_ ?_; (with_reducible refine (impl_isIn.calls a0_4 1 20 true _ A25.out).mono ?_); rintro e w' ⟨rfl, ⟨nd, rfl⟩⟩; refine ⟨_, rfl, ?_⟩) | (go_at_call 45; (with_reducible refine (impl_isIn.calls a0_3 0 (wrap64 (a0_4 - 1)) false _ A27.out).mono ?_); rintro e w' ⟨rfl, ⟨nd, rfl⟩⟩))
        go_ret
        exact ⟨er_, qB HB⟩
       subst c28
       rw [if_pos rfl] at H
       replace H := bd_ H
       obtain ⟨t537, A29, H⟩ := H
       by_cases c30 : t537 = true
       ·
        subst c30
        rw [if_pos rfl] at H
        obtain rfl := Option.some.inj H
        have z31 := cz8 BK527.out
        have f31 := fz8 BK527.out
        go_wp2_with (first | ((with_reducible refine gate_callee (f := 45) rfl ?_); refine goesL_ (some 33) rfl rfl Try.func45 (by kernel_rfl) rfl #[.int .i64 a0_4, .int .i64 1, .int .i64 20] rfl la_ ?_; (with_reducible refine (impl_isIn.calls a0_4 1 20 true _ A25.out).mono ?_); rintro e w' ⟨rfl, ⟨nd, rfl⟩⟩; refine ⟨_, rfl, ?_⟩) | (go_at_call 45; (with_reducible refine (impl_isIn.calls a0_3 0 (wrap64 (a0_4 - 1)) true _ A27.out).mono ?_); rintro e w' ⟨rfl, ⟨nd, rfl⟩⟩) | (go_at_call 111; (with_reducible refine (impl_wordOk.calls a0_6 true _ A29.out).mono ?_); rintro e w' ⟨rfl, ⟨nd, rfl⟩⟩))
        go_ret
        exact ⟨er_, qB HB⟩
       replace c30 := Bool.eq_false_iff.mpr c30
       subst c30
       rw [if_neg (show ¬ (false = true) by decide)] at H
       obtain rfl := Option.some.inj H
       have z32 := cz8 BK527.out
       have f32 := fz8 BK527.out
       go_wp2_with (first | ((with_reducible refine gate_callee (f := 45) rfl ?_); refine goesL_ (some 33) rfl rfl Try.func45 (by kernel_rfl) rfl #[.int .i64 a0_4, .int .i64 1, .int .i64 20] rfl la_ ?_; (with_reducible refine (impl_isIn.calls a0_4 1 20 true _ A25.out).mono ?_); rintro e w' ⟨rfl, ⟨nd, rfl⟩⟩; refine ⟨_, rfl, ?_⟩) | (go_at_call 45; (with_reducible refine (impl_isIn.calls a0_3 0 (wrap64 (a0_4 - 1)) true _ A27.out).mono ?_); rintro e w' ⟨rfl, ⟨nd, rfl⟩⟩) | (go_at_call 111; (with_reducible refine (impl_wordOk.calls a0_6 false _ A29.out).mono ?_); rintro e w' ⟨rfl, ⟨nd, rfl⟩⟩))
       go_ret
       exact ⟨er_, qB HB⟩
      rw [if_pos c12] at H
      have c12b0 : decide (x22_2 < (l0_7.length : Int)) = true := decide_eq_true c12
      clear c12
      by_cases c13 : 0 ≤ x22_2
      case neg => exact nn_ c13 H
      rw [if_pos c13] at H
      have c13b0 : decide (0 ≤ x22_2) = true := decide_eq_true c13
      clear c13
      by_cases c14 : x22_2 < (l0_7.length : Int)
      case neg => exact nn_ c14 H
      rw [if_pos c14] at H
      have c14b0 : decide (x22_2 < (l0_7.length : Int)) = true := decide_eq_true c14
      clear c14
      replace H := bd_ H
      obtain ⟨t532, A15, H⟩ := H
      have HC16 := Aside0.mk H
      clear H
      have p530 : 0 ≤ (x22_2 : Int) := od_
      have q530 : x22_2 < (l0_7.length : Int) := od_
      obtain ⟨ad530, e530, hx530_0, hx530_1, hx530_2, hx530_3, hx530_4, hx530_5, hx530_6, hx530_7, hx530_8, hx530_9, hx530_10, hx530_11, hx530_12, hx530_13, hx530_14, hx530_15⟩ := at_T126 HR0_7.out x22_2 p530 q530
      cases e530
      replace hx530_0 := lb_ HB hx530_0
      replace hx530_1 := lb_ HB hx530_1
      replace hx530_2 := lb_ HB hx530_2
      replace hx530_3 := lb_ HB hx530_3
      replace hx530_4 := lb_ HB hx530_4
      replace hx530_5 := lb_ HB hx530_5
      replace hx530_6 := lb_ HB hx530_6
      replace hx530_7 := lb_ HB hx530_7
      replace hx530_8 := lb_ HB hx530_8
      replace hx530_9 := lb_ HB hx530_9
      replace hx530_10 := lb_ HB hx530_10
      replace hx530_11 := lb_ HB hx530_11
      replace hx530_12 := lb_ HB hx530_12
      replace hx530_13 := lb_ HB hx530_13
      replace hx530_14 := lb_ HB hx530_14
      replace hx530_15 := lb_ HB hx530_15
      replace p530 := eq_true p530
      replace q530 := eq_true q530
      go_upto_if 29 with (first | ((with_reducible refine gate_dst (N := 4) rfl ?_); (try (refine gate_guard (by rfl) ?_; dsimp only)); refine box_event ?hg (N := 4) ?hd (cs := #[.int .i64 0, .int .i64 0, .string (⟨#[]⟩ : ByteArray), .int .i64 0, .int .i64 0, .int .i64 0, .string (⟨#[]⟩ : ByteArray), .int .i64 0, .int .i64 0, .int .i64 0, .string (⟨#[]⟩ : ByteArray), .int .i64 0, .int .i64 0, .int .i64 0, .int .i64 0, .int .i64 0]) (t := 126) ?hr ?_; (case hd => rfl); (case hg => rfl); (case hr => first | (go_simp; done) | (go_simp; rfl) | ((try (obtain ⟨_, _, rfl⟩ := Kd.R_slice HO534.out)); first | (go_simp; done) | (go_simp; rfl))); intro gb531 hg w17 hbox hb; have BK531 := am_ (hbox); have GW531 := gA_ hg HB; have GE531 := GW531; have IGE531 := gI_ GE531; replace HB := bS_ HB hb; have NB527_531 := am_ ((gN_ hg (qK BK527))); have NB531_527 := am_ ((gM_ hg (qK BK527))); replace BK527 := bK_ BK527 hb; clear hb hbox hg; have hnb18 := NB531_527.out; have hnc18 := NB527_531.out; have z19 := cz16 BK531.out; have f19 := fz16 BK531.out) | ((with_reducible refine gate_store (t := 126) (p := 4) rfl ?_); refine store_event (t := 126) (p := 4) (v := ?vo_w20) (w1 := ((((((((((((((((w17.setCell ⟨gb531, 0, none⟩ (.int .i64 ((rd_T126 l0_7 x22_2).f0))).setCell ⟨gb531, 1, none⟩ (.int .i64 ((rd_T126 l0_7 x22_2).f1.f0))).setCell ⟨gb531, 2, none⟩ (.string ((rd_T126 l0_7 x22_2).f1.f1))).setCell ⟨gb531, 3, none⟩ (.int .i64 ((rd_T126 l0_7 x22_2).f1.f2))).setCell ⟨gb531, 4, none⟩ (.int .i64 ((rd_T126 l0_7 x22_2).f1.f3))).setCell ⟨gb531, 5, none⟩ (.int .i64 ((rd_T126 l0_7 x22_2).f1.f4))).setCell ⟨gb531, 6, none⟩ (.string ((rd_T126 l0_7 x22_2).f1.f5))).setCell ⟨gb531, 7, none⟩ (.int .i64 ((rd_T126 l0_7 x22_2).f1.f6))).setCell ⟨gb531, 8, none⟩ (.int .i64 ((rd_T126 l0_7 x22_2).f1.f7))).setCell ⟨gb531, 9, none⟩ (.int .i64 ((rd_T126 l0_7 x22_2).f2.f0))).setCell ⟨gb531, 10, none⟩ (.string ((rd_T126 l0_7 x22_2).f2.f1))).setCell ⟨gb531, 11, none⟩ (.int .i64 ((rd_T126 l0_7 x22_2).f2.f2))).setCell ⟨gb531, 12, none⟩ (.int .i64 ((rd_T126 l0_7 x22_2).f2.f3))).setCell ⟨gb531, 13, none⟩ (.int .i64 ((rd_T126 l0_7 x22_2).f2.f4))).setCell ⟨gb531, 14, none⟩ (.int .i64 ((rd_T126 l0_7 x22_2).f2.f5))).setCell ⟨gb531, 15, none⟩ (.int .i64 ((rd_T126 l0_7 x22_2).f2.f6)))) ?hg ?ho ?hn ?hr ?_; (case ho => rfl); (case hg => rfl); (case hn => rfl); (case hr => first | (go_simp; done) | (go_simp; rfl) | ((try (obtain ⟨_, _, rfl⟩ := Kd.R_slice HO534.out)); first | (go_simp; done) | (go_simp; rfl))); intro w20 hw; have n0_ : Aside0 (w20.heap[gb527]? = some (.cells #[.int .i64 a0_0, .int .i64 a0_1, .int .i64 a0_2, .int .i64 a0_3, .int .i64 a0_4, .bool a0_5, .int .i64 a0_6, .slice (some ad530) l0_7.length c0_7] 63 (0, 0))) := ⟨(by rw [hw]; exact (by (with_reducible repeat (first | refine blk_drewN ?_ _ | refine blk_drew ?_ | refine blk_alloc ?_ _)); refine blk_far16 ?_ NB527_531.out; exact qK BK527))⟩; have n1_ : Aside0 (w20.heap[gb531]? = some (.cells #[.int .i64 ((rd_T126 l0_7 x22_2).f0), .int .i64 ((rd_T126 l0_7 x22_2).f1.f0), .string ((rd_T126 l0_7 x22_2).f1.f1), .int .i64 ((rd_T126 l0_7 x22_2).f1.f2), .int .i64 ((rd_T126 l0_7 x22_2).f1.f3), .int .i64 ((rd_T126 l0_7 x22_2).f1.f4), .string ((rd_T126 l0_7 x22_2).f1.f5), .int .i64 ((rd_T126 l0_7 x22_2).f1.f6), .int .i64 ((rd_T126 l0_7 x22_2).f1.f7), .int .i64 ((rd_T126 l0_7 x22_2).f2.f0), .string ((rd_T126 l0_7 x22_2).f2.f1), .int .i64 ((rd_T126 l0_7 x22_2).f2.f2), .int .i64 ((rd_T126 l0_7 x22_2).f2.f3), .int .i64 ((rd_T126 l0_7 x22_2).f2.f4), .int .i64 ((rd_T126 l0_7 x22_2).f2.f5), .int .i64 ((rd_T126 l0_7 x22_2).f2.f6)] 126 (0, 0))) := ⟨(by rw [hw]; exact (by exact blk_all16 (qK BK531)))⟩; have n2_ : Aside0 (Below w.heap.size w w20) := ⟨(by rw [hw]; exact (qB HB))⟩; clear hw; clear BK527; clear BK531; clear HB; have BK527 := n0_; have BK531 := n1_; have HB := n2_; clear n0_ n1_ n2_; have z21 := cz16 BK531.out) | ((with_reducible refine gate_callee (f := 110) rfl ?_); refine goesL_ (some 27) rfl rfl Try.func110 (by kernel_rfl) rfl #[.agg #[.int .i64 ((rd_T126 l0_7 x22_2).f0), .int .i64 ((rd_T126 l0_7 x22_2).f1.f0), .string ((rd_T126 l0_7 x22_2).f1.f1), .int .i64 ((rd_T126 l0_7 x22_2).f1.f2), .int .i64 ((rd_T126 l0_7 x22_2).f1.f3), .int .i64 ((rd_T126 l0_7 x22_2).f1.f4), .string ((rd_T126 l0_7 x22_2).f1.f5), .int .i64 ((rd_T126 l0_7 x22_2).f1.f6), .int .i64 ((rd_T126 l0_7 x22_2).f1.f7), .int .i64 ((rd_T126 l0_7 x22_2).f2.f0), .string ((rd_T126 l0_7 x22_2).f2.f1), .int .i64 ((rd_T126 l0_7 x22_2).f2.f2), .int .i64 ((rd_T126 l0_7 x22_2).f2.f3), .int .i64 ((rd_T126 l0_7 x22_2).f2.f4), .int .i64 ((rd_T126 l0_7 x22_2).f2.f5), .int .i64 ((rd_T126 l0_7 x22_2).f2.f6)]] rfl la_ ?_; (with_reducible refine (impl_PutItem.calls k2 ((rd_T126 l0_7 x22_2).f0) ((rd_T126 l0_7 x22_2).f1.f0) ((rd_T126 l0_7 x22_2).f1.f1) ((rd_T126 l0_7 x22_2).f1.f2) ((rd_T126 l0_7 x22_2).f1.f3) ((rd_T126 l0_7 x22_2).f1.f4) ((rd_T126 l0_7 x22_2).f1.f5) ((rd_T126 l0_7 x22_2).f1.f6) ((rd_T126 l0_7 x22_2).f1.f7) ((rd_T126 l0_7 x22_2).f2.f0) ((rd_T126 l0_7 x22_2).f2.f1) ((rd_T126 l0_7 x22_2).f2.f2) ((rd_T126 l0_7 x22_2).f2.f3) ((rd_T126 l0_7 x22_2).f2.f4) ((rd_T126 l0_7 x22_2).f2.f5) ((rd_T126 l0_7 x22_2).f2.f6) t532 _ A15.out).mono ?_); rintro e w22 ⟨v533, rfl, ho0, hb⟩; refine ⟨_, rfl, ?_⟩; have HO534 := am_ (Kd.R_lower ho0 (below_size (qB HB))); replace BK527 := bK_ BK527 hb; replace BK531 := bK_ BK531 hb; replace HB := bS_ HB hb; (try clear hb); (try clear ho0); obtain ⟨Ao23, co23, eo23⟩ := Kd.R_slice HO534.out; subst eo23))
      (try simp only [Act.put, List.setIfInBounds_toArray, List.set_cons_zero, List.set_cons_succ])
      have H := HC16.out
      clear HC16
      by_cases c24 : (t532.length : Int) = 0
      ·
       rw [if_pos c24] at H
       have c24b0 : ((t532.length : Int) == 0) = true := beq_iff_eq.mpr c24
       have c24b1 : ((t532.length : Int) != 0) = false := bne_eq_false_iff_eq.mpr c24
       clear c24
       (first | rw [c24b0] | rw [c24b1] | (simp only [i64_w, i32_w]; rw [c24b0]) | skip)
       obtain rfl := Option.some.inj H
       go_wp2
       go_ret
       exact ⟨er_, qB HB⟩
      rw [if_neg c24] at H
      have c24b0 : ((t532.length : Int) == 0) = false := beq_eq_false_iff_ne.mpr c24
      have c24b1 : ((t532.length : Int) != 0) = true := bne_iff_ne.mpr c24
      have c24b2 : ¬ (t532 = []) := fun h_ => c24 (by rw [h_]; rfl)
      (first | rw [c24b0] | rw [c24b1] | rw [c24b2] | (simp only [i64_w, i32_w]; rw [c24b0]) | skip)
      have H' := Aside0.mk H
      clear H
      go_wp2
      go_roundg k2
      case measure => have := HJ1.out; have := HK2.out; omega
      case rel => exact ⟨(wrap64 (x22_2 + 1)), eqq_, H', ⟨by have := HJ1.out; have := HK2.out; omega⟩, ⟨qK BK527⟩, ⟨qB HB⟩⟩
   rw [if_neg c10] at H
   have c10b0 : (a0_0 == 1) = false := beq_eq_false_iff_ne.mpr c10
   have c10b1 : (a0_0 != 1) = true := bne_iff_ne.mpr c10
   by_cases c35 : a0_0 = 2
   ·
    rw [if_pos c35] at H
    have c35b0 : (a0_0 == 2) = true := beq_iff_eq.mpr c35
    have c35b1 : (a0_0 != 2) = false := bne_eq_false_iff_eq.mpr c35
    clear c35
    replace H := bd_ H
    obtain ⟨t538, A36, H⟩ := H
    by_cases c37 : t538 = true
    rotate_left
    ·
     replace c37 := Bool.eq_false_iff.mpr c37
     subst c37
     rw [if_neg (show ¬ (false = true) by decide)] at H
     obtain rfl := Option.some.inj H
     have z45 := cz8 BK527.out
     go_wp2_with (first | ((with_reducible refine gate_callee (f := 45) rfl ?_); refine goesL_ (some 58) rfl rfl Try.func45 (by kernel_rfl) rfl #[.int .i64 a0_3, .int .i64 0, .int .i64 20] rfl la_ ?_; (with_reducible refine (impl_isIn.calls a0_3 0 20 false _ A36.out).mono ?_); rintro e w' ⟨rfl, ⟨nd, rfl⟩⟩; refine ⟨_, rfl, ?_⟩))
     go_ret
     exact ⟨er_, qB HB⟩
    subst c37
    rw [if_pos rfl] at H
    by_cases c38 : a0_4 = 0
    rotate_left
    ·
     rw [if_neg c38] at H
     have c38b0 : (a0_4 == 0) = false := beq_eq_false_iff_ne.mpr c38
     have c38b1 : (a0_4 != 0) = true := bne_iff_ne.mpr c38
     obtain rfl := Option.some.inj H
     have z44 := cz8 BK527.out
     go_wp2_with (first | ((with_reducible refine gate_callee (f := 45) rfl ?_); refine goesL_ (some 58) rfl rfl Try.func45 (by kernel_rfl) rfl #[.int .i64 a0_3, .int .i64 0, .int .i64 20] rfl la_ ?_; (with_reducible refine (impl_isIn.calls a0_3 0 20 true _ A36.out).mono ?_); rintro e w' ⟨rfl, ⟨nd, rfl⟩⟩; refine ⟨_, rfl, ?_⟩))
     go_ret
     exact ⟨er_, qB HB⟩
    rw [if_pos c38] at H
    have c38b0 : (a0_4 == 0) = true := beq_iff_eq.mpr c38
    have c38b1 : (a0_4 != 0) = false := bne_eq_false_iff_eq.mpr c38
    clear c38
    by_cases c39 : a0_5 = true
    ·
     subst c39
     rw [if_pos rfl] at H
     obtain rfl := Option.some.inj H
     have z40 := cz8 BK527.out
     go_wp2_with (first | ((with_reducible refine gate_callee (f := 45) rfl ?_); refine goesL_ (some 58) rfl rfl Try.func45 (by kernel_rfl) rfl #[.int .i64 a0_3, .int .i64 0, .int .i64 20] rfl la_ ?_; (with_reducible refine (impl_isIn.calls a0_3 0 20 true _ A36.out).mono ?_); rintro e w' ⟨rfl, ⟨nd, rfl⟩⟩; refine ⟨_, rfl, ?_⟩))
     go_ret
     exact ⟨er_, qB HB⟩
    replace c39 := Bool.eq_false_iff.mpr c39
    subst c39
    rw [if_neg (show ¬ (false = true) by decide)] at H
    by_cases c41 : a0_6 = 0
    rotate_left
    ·
     rw [if_neg c41] at H
     have c41b0 : (a0_6 == 0) = false := beq_eq_false_iff_ne.mpr c41
     have c41b1 : (a0_6 != 0) = true := bne_iff_ne.mpr c41
     obtain rfl := Option.some.inj H
     have z43 := cz8 BK527.out
     go_wp2_with (first | ((with_reducible refine gate_callee (f := 45) rfl ?_); refine goesL_ (some 58) rfl rfl Try.func45 (by kernel_rfl) rfl #[.int .i64 a0_3, .int .i64 0, .int .i64 20] rfl la_ ?_; (with_reducible refine (impl_isIn.calls a0_3 0 20 true _ A36.out).mono ?_); rintro e w' ⟨rfl, ⟨nd, rfl⟩⟩; refine ⟨_, rfl, ?_⟩))
     go_ret
     exact ⟨er_, qB HB⟩
    rw [if_pos c41] at H
    have c41b0 : (a0_6 == 0) = true := beq_iff_eq.mpr c41
    have c41b1 : (a0_6 != 0) = false := bne_eq_false_iff_eq.mpr c41
    clear c41
    obtain rfl := Option.some.inj H
    have z42 := cz8 BK527.out
    go_wp2_with (first | ((with_reducible refine gate_callee (f := 45) rfl ?_); refine goesL_ (some 58) rfl rfl Try.func45 (by kernel_rfl) rfl #[.int .i64 a0_3, .int .i64 0, .int .i64 20] rfl la_ ?_; (with_reducible refine (impl_isIn.calls a0_3 0 20 true _ A36.out).mono ?_); rintro e w' ⟨rfl, ⟨nd, rfl⟩⟩; refine ⟨_, rfl, ?_⟩))
    go_ret
    exact ⟨er_, qB HB⟩
   rw [if_neg c35] at H
   have c35b0 : (a0_0 == 2) = false := beq_eq_false_iff_ne.mpr c35
   have c35b1 : (a0_0 != 2) = true := bne_iff_ne.mpr c35
   by_cases c46 : a0_0 = 3
   rotate_left
   ·
    rw [if_neg c46] at H
    have c46b0 : (a0_0 == 3) = false := beq_eq_false_iff_ne.mpr c46
    have c46b1 : (a0_0 != 3) = true := bne_iff_ne.mpr c46
    obtain rfl := Option.some.inj H
    have z59 := cz8 BK527.out
    go_wp2
    go_ret
    exact ⟨er_, qB HB⟩
   rw [if_pos c46] at H
   have c46b0 : (a0_0 == 3) = true := beq_iff_eq.mpr c46
   have c46b1 : (a0_0 != 3) = false := bne_eq_false_iff_eq.mpr c46
   clear c46
   replace H := bd_ H
   obtain ⟨t539, A47, H⟩ := H
   by_cases c48 : t539 = true
   rotate_left
   ·
    replace c48 := Bool.eq_false_iff.mpr c48
    subst c48
    rw [if_neg (show ¬ (false = true) by decide)] at H
    obtain rfl := Option.some.inj H
    have z58 := cz8 BK527.out
    go_wp2_with (first | ((with_reducible refine gate_callee (f := 45) rfl ?_); refine goesL_ (some 58) rfl rfl Try.func45 (by kernel_rfl) rfl #[.int .i64 a0_3, .int .i64 0, .int .i64 20] rfl la_ ?_; (with_reducible refine (impl_isIn.calls a0_3 0 20 false _ A47.out).mono ?_); rintro e w' ⟨rfl, ⟨nd, rfl⟩⟩; refine ⟨_, rfl, ?_⟩))
    go_ret
    exact ⟨er_, qB HB⟩
   subst c48
   rw [if_pos rfl] at H
   by_cases c49 : a0_3 = 0
   rotate_left
   ·
    rw [if_neg c49] at H
    have c49b0 : (a0_3 == 0) = false := beq_eq_false_iff_ne.mpr c49
    have c49b1 : (a0_3 != 0) = true := bne_iff_ne.mpr c49
    obtain rfl := Option.some.inj H
    have z57 := cz8 BK527.out
    go_wp2_with (first | ((with_reducible refine gate_callee (f := 45) rfl ?_); refine goesL_ (some 58) rfl rfl Try.func45 (by kernel_rfl) rfl #[.int .i64 a0_3, .int .i64 0, .int .i64 20] rfl la_ ?_; (with_reducible refine (impl_isIn.calls a0_3 0 20 true _ A47.out).mono ?_); rintro e w' ⟨rfl, ⟨nd, rfl⟩⟩; refine ⟨_, rfl, ?_⟩))
    go_ret
    exact ⟨er_, qB HB⟩
   rw [if_pos c49] at H
   have c49b0 : (a0_3 == 0) = true := beq_iff_eq.mpr c49
   have c49b1 : (a0_3 != 0) = false := bne_eq_false_iff_eq.mpr c49
   clear c49
   by_cases c50 : a0_4 = 0
   rotate_left
   ·
    rw [if_neg c50] at H
    have c50b0 : (a0_4 == 0) = false := beq_eq_false_iff_ne.mpr c50
    have c50b1 : (a0_4 != 0) = true := bne_iff_ne.mpr c50
    obtain rfl := Option.some.inj H
    have z56 := cz8 BK527.out
    go_wp2_with (first | ((with_reducible refine gate_callee (f := 45) rfl ?_); refine goesL_ (some 58) rfl rfl Try.func45 (by kernel_rfl) rfl #[.int .i64 a0_3, .int .i64 0, .int .i64 20] rfl la_ ?_; (with_reducible refine (impl_isIn.calls a0_3 0 20 true _ A47.out).mono ?_); rintro e w' ⟨rfl, ⟨nd, rfl⟩⟩; refine ⟨_, rfl, ?_⟩))
    go_ret
    exact ⟨er_, qB HB⟩
   rw [if_pos c50] at H
   have c50b0 : (a0_4 == 0) = true := beq_iff_eq.mpr c50
   have c50b1 : (a0_4 != 0) = false := bne_eq_false_iff_eq.mpr c50
   clear c50
   by_cases c51 : a0_5 = true
   ·
    subst c51
    rw [if_pos rfl] at H
    obtain rfl := Option.some.inj H
    have z52 := cz8 BK527.out
    go_wp2_with (first | ((with_reducible refine gate_callee (f := 45) rfl ?_); refine goesL_ (some 58) rfl rfl Try.func45 (by kernel_rfl) rfl #[.int .i64 a0_3, .int .i64 0, .int .i64 20] rfl la_ ?_; (with_reducible refine (impl_isIn.calls a0_3 0 20 true _ A47.out).mono ?_); rintro e w' ⟨rfl, ⟨nd, rfl⟩⟩; refine ⟨_, rfl, ?_⟩))
    go_ret
    exact ⟨er_, qB HB⟩
   replace c51 := Bool.eq_false_iff.mpr c51
   subst c51
   rw [if_neg (show ¬ (false = true) by decide)] at H
   by_cases c53 : a0_6 = 0
   rotate_left
   ·
    rw [if_neg c53] at H
    have c53b0 : (a0_6 == 0) = false := beq_eq_false_iff_ne.mpr c53
    have c53b1 : (a0_6 != 0) = true := bne_iff_ne.mpr c53
    obtain rfl := Option.some.inj H
    have z55 := cz8 BK527.out
    go_wp2_with (first | ((with_reducible refine gate_callee (f := 45) rfl ?_); refine goesL_ (some 58) rfl rfl Try.func45 (by kernel_rfl) rfl #[.int .i64 a0_3, .int .i64 0, .int .i64 20] rfl la_ ?_; (with_reducible refine (impl_isIn.calls a0_3 0 20 true _ A47.out).mono ?_); rintro e w' ⟨rfl, ⟨nd, rfl⟩⟩; refine ⟨_, rfl, ?_⟩))
    go_ret
    exact ⟨er_, qB HB⟩
   rw [if_pos c53] at H
   have c53b0 : (a0_6 == 0) = true := beq_iff_eq.mpr c53
   have c53b1 : (a0_6 != 0) = false := bne_eq_false_iff_eq.mpr c53
   clear c53
   obtain rfl := Option.some.inj H
   have z54 := cz8 BK527.out
   go_wp2_with (first | ((with_reducible refine gate_callee (f := 45) rfl ?_); refine goesL_ (some 58) rfl rfl Try.func45 (by kernel_rfl) rfl #[.int .i64 a0_3, .int .i64 0, .int .i64 20] rfl la_ ?_; (with_reducible refine (impl_isIn.calls a0_3 0 20 true _ A47.out).mono ?_); rintro e w' ⟨rfl, ⟨nd, rfl⟩⟩; refine ⟨_, rfl, ?_⟩))
   go_ret
   exact ⟨er_, qB HB⟩

end Go.Proofs.Ytiffahfpfgnjnab.PFnExactSend
