-- Written by a program of this session (myprint.py, over the kit's print): contracts of FnWays
import Derived.Test.YtiffahfpfgnjnaaPFnWaysx0
import Derived.Test.YtiffahfpfgnjnaaPFnWaysx13
import Derived.Test.YtiffahfpfgnjnaaPFnWaysx15
import Derived.Test.YtiffahfpfgnjnaaPFnWaysx19
namespace Go.Proofs.Ytiffahfpfgnjnaa.PFnWays
open Go.RowKit Go.Proofs.YtiffahfpfgnjnaaW.PrintWords Go.Proofs.YtiffahfpfgnjnaaW.PrintLast Go.Proofs.YtiffahfpfgnjnaaW.PrintMore Go.Proofs.YtiffahfpfgnjnaaV
attribute [local go_sem] max2_int min2_int max_two min_two max_three min_three max_four min_four   -- for this text's walks alone
set_option linter.unusedVariables false
set_option linter.unusedSimpArgs false

/-! ### impl_CtlOk: function 56 -/
mutual
def impl_CtlOk.j0 : Nat → Bool → Int → Int → Int → Int → Int → Bool → Int → List (S29) → Option (Bool)
 | 0, _, _, _, _, _, _, _, _, _ => none
 | k + 1, x14, x902000, x902001, x902002, x902003, x902004, x902005, x902006, x902007 => if x14 = true then (some false) else (if x902000 = 1 then (impl_CtlOk.l0 k x902007 (x902007.length : Int) 0 x902000 x902001 x902002 x902003 x902004 x902005 x902006 x902007) else (if x902000 = 2 then ((impl_isIn.f x902003 0 20).bind fun t912 => (if t912 = true then (if x902004 = 0 then (if x902005 = true then (some false) else (if x902006 = 0 then (some ((x902007.length : Int) == 0)) else (some false))) else (some false)) else (some false))) else (if x902000 = 3 then ((impl_isIn.f x902003 0 20).bind fun t913 => (if t913 = true then (if x902003 = 0 then (if x902004 = 0 then (if x902005 = true then (some false) else (if x902006 = 0 then (some ((x902007.length : Int) == 0)) else (some false))) else (some false)) else (some false)) else (some false))) else (some false))))
def impl_CtlOk.l0 : Nat → List (S29) → Int → Int → Int → Int → Int → Int → Int → Bool → Int → List (S29) → Option (Bool)
 | 0, _, _, _, _, _, _, _, _, _, _, _ => none
 | k + 1, x20, x21, x22, x902000, x902001, x902002, x902003, x902004, x902005, x902006, x902007 => if x22 < x21 then (if 0 ≤ x22 then (if x22 < (x20.length : Int) then ((impl_PutItem.f k ((rd_T29 x20 x22).f0) ((rd_T29 x20 x22).f1.f0) ((rd_T29 x20 x22).f1.f1) ((rd_T29 x20 x22).f1.f2) ((rd_T29 x20 x22).f1.f3) ((rd_T29 x20 x22).f1.f4) ((rd_T29 x20 x22).f1.f5) ((rd_T29 x20 x22).f1.f6) ((rd_T29 x20 x22).f1.f7) ((rd_T29 x20 x22).f2.f0) ((rd_T29 x20 x22).f2.f1) ((rd_T29 x20 x22).f2.f2) ((rd_T29 x20 x22).f2.f3) ((rd_T29 x20 x22).f2.f4) ((rd_T29 x20 x22).f2.f5) ((rd_T29 x20 x22).f2.f6)).bind fun t906 => (if (t906.length : Int) = 0 then (some false) else (impl_CtlOk.l0 k x20 x21 (wrap64 (x22 + 1)) x902000 x902001 x902002 x902003 x902004 x902005 x902006 x902007))) else (none)) else (none)) else ((impl_isIn.f x902004 1 20).bind fun t909 => (if t909 = true then ((impl_isIn.f x902003 0 (wrap64 (x902004 - 1))).bind fun t910 => (if t910 = true then ((impl_wordOk.f x902006).bind fun t911 => (if t911 = true then (some (decide ((x902007.length : Int) ≤ 2))) else (some false))) else (some false))) else (some false)))
end
def impl_CtlOk.f (k : Nat) (a0_0 : Int) (a0_1 : Int) (a0_2 : Int) (a0_3 : Int) (a0_4 : Int) (a0_5 : Bool) (a0_6 : Int) (l0_7 : List (S29)) : Option (Bool) := (impl_isIn.f a0_1 0 1).bind fun t902 => (if t902 = true then ((impl_isIn.f a0_2 1 60000).bind fun t903 => (impl_CtlOk.j0 k (!t903) a0_0 a0_1 a0_2 a0_3 a0_4 a0_5 a0_6 l0_7)) else (impl_CtlOk.j0 k true a0_0 a0_1 a0_2 a0_3 a0_4 a0_5 a0_6 l0_7))
theorem impl_CtlOk.mono_l : ∀ k, (∀ y0 y1 y2 y3 y4 y5 y6 y7 y8, LeO (impl_CtlOk.j0 k y0 y1 y2 y3 y4 y5 y6 y7 y8) (impl_CtlOk.j0 (k + 1) y0 y1 y2 y3 y4 y5 y6 y7 y8)) ∧ (∀ y0 y1 y2 y3 y4 y5 y6 y7 y8 y9 y10, LeO (impl_CtlOk.l0 k y0 y1 y2 y3 y4 y5 y6 y7 y8 y9 y10) (impl_CtlOk.l0 (k + 1) y0 y1 y2 y3 y4 y5 y6 y7 y8 y9 y10))
 | 0 => ⟨fun _ _ _ _ _ _ _ _ _ r h => by simp [impl_CtlOk.j0] at h, fun _ _ _ _ _ _ _ _ _ _ _ r h => by simp [impl_CtlOk.l0] at h⟩
 | k + 1 => by
  obtain ⟨ih0, ih1⟩ := impl_CtlOk.mono_l k
  refine ⟨?_, ?_⟩
  ·
   intro y0 y1 y2 y3 y4 y5 y6 y7 y8
   unfold impl_CtlOk.j0
   have m0 := @impl_PutItem.mono; exact mo_
  ·
   intro y0 y1 y2 y3 y4 y5 y6 y7 y8 y9 y10
   unfold impl_CtlOk.l0
   have m0 := @impl_PutItem.mono; exact mo_
theorem impl_CtlOk.mono : ∀ a0 a1 a2 a3 a4 a5 a6 a7 k, LeO (impl_CtlOk.f k a0 a1 a2 a3 a4 a5 a6 a7) (impl_CtlOk.f (k + 1) a0 a1 a2 a3 a4 a5 a6 a7) := by
 intro a0 a1 a2 a3 a4 a5 a6 a7 k
 obtain ⟨ih0, ih1⟩ := impl_CtlOk.mono_l k
 unfold impl_CtlOk.f
 have m0 := @impl_PutItem.mono; exact mo_
set_option maxHeartbeats 8000000 in
set_option maxRecDepth 100000 in
theorem impl_CtlOk.calls (k : Nat) (a0_0 : Int) (a0_1 : Int) (a0_2 : Int) (a0_3 : Int) (a0_4 : Int) (a0_5 : Bool) (a0_6 : Int) (A0_7 : Option Addr) (c0_7 : Nat) (l0_7 : List (S29)) (r : Bool) (w : World) (hr0_7 : Kd.C k29 w A0_7 l0_7.length l0_7) (hc0_7 : l0_7.length ≤ c0_7) (h : impl_CtlOk.f k a0_0 a0_1 a0_2 a0_3 a0_4 a0_5 a0_6 l0_7 = some r) :
  Calls Try.prog 56 #[.agg #[.int .i64 a0_0, .int .i64 a0_1, .int .i64 a0_2, .int .i64 a0_3, .int .i64 a0_4, .bool a0_5, .int .i64 a0_6, .slice A0_7 l0_7.length c0_7]] w fun e w' => e = .returned (.bool r) ∧ Below w.heap.size w w' := by
 have hu75 := Try.underlying75
 have hu29 := Try.underlying29
 have HR0_7 := Aside0.mk hr0_7
 have HC0_7 := Aside0.mk hc0_7
 clear hr0_7 hc0_7
 have HB := Aside0.mk (Below.refl w.heap.size w)
 have H := h
 unfold impl_CtlOk.f at H
 clear h
 have HC2 := Aside0.mk H
 clear H
 go_enter Try.func56, Try.ntmps56
 go_upto_region 1 with (first | ((with_reducible refine gate_dst (N := 1) rfl ?_); (try (refine gate_guard (by rfl) ?_; dsimp only)); refine bx_ (N := 1) (cs := #[.int .i64 a0_0, .int .i64 a0_1, .int .i64 a0_2, .int .i64 a0_3, .int .i64 a0_4, .bool a0_5, .int .i64 a0_6, .slice A0_7 l0_7.length c0_7]) (t := 75) ?_; intro gb901 hg w3 hbox hb; have BK901 := am_ (hbox); have GW901 := gA_ hg HB; have GE901 := GW901; have IGE901 := gI_ GE901; replace HB := bS_ HB hb; clear hb hbox hg))
 (try simp only [Act.put, List.setIfInBounds_toArray, List.set_cons_zero, List.set_cons_succ])
 go_cut [14] (fun v14 wc => ∃ (kq : Nat) (x14_1 : Bool), v14 = .bool x14_1 ∧ Aside0 (impl_CtlOk.j0 kq x14_1 a0_0 a0_1 a0_2 a0_3 a0_4 a0_5 a0_6 l0_7 = some r) ∧ Aside0 (kq ≤ k) ∧ Aside0 (wc.heap[gb901]? = some (.cells #[.int .i64 a0_0, .int .i64 a0_1, .int .i64 a0_2, .int .i64 a0_3, .int .i64 a0_4, .bool a0_5, .int .i64 a0_6, (.slice A0_7 l0_7.length c0_7)] 75 (0, 0))) ∧ Aside0 (Below w.heap.size w wc))
 case first =>
  have H := HC2.out
  clear HC2
  replace H := bd_ H
  obtain ⟨t902, A4, H⟩ := H
  by_cases c5 : t902 = true
  rotate_left
  ·
   replace c5 := Bool.eq_false_iff.mpr c5
   subst c5
   rw [if_neg (show ¬ (false = true) by decide)] at H
   have H' := Aside0.mk H
   clear H
   (try clear zK901)
   have zK901 := cz8 BK901.out
   (try clear fK901)
   have fK901 := fz8 BK901.out
   go_wp2_with (first | ((with_reducible refine gate_callee (f := 87) rfl ?_); refine gl_ (some 7) Try.func87 #[.int .i64 a0_1, .int .i64 0, .int .i64 1] ?_; (with_reducible refine (impl_isIn.calls a0_1 0 1 false _ A4.out).mono ?_); rintro e w' ⟨rfl, ⟨nd, rfl⟩⟩; refine ⟨_, rfl, ?_⟩))
   go_meet
   case rel => exact ⟨_, (true), eqq_, H', ⟨by first | omega | exact Nat.le_refl _⟩, ⟨qK BK901⟩, ⟨qB HB⟩⟩
  subst c5
  rw [if_pos rfl] at H
  replace H := bd_ H
  obtain ⟨t903, A6, H⟩ := H
  have H' := Aside0.mk H
  clear H
  (try clear zK901)
  have zK901 := cz8 BK901.out
  (try clear fK901)
  have fK901 := fz8 BK901.out
  go_wp2_with (first | ((with_reducible refine gate_callee (f := 87) rfl ?_); refine gl_ (some 7) Try.func87 #[.int .i64 a0_1, .int .i64 0, .int .i64 1] ?_; (with_reducible refine (impl_isIn.calls a0_1 0 1 true _ A4.out).mono ?_); rintro e w' ⟨rfl, ⟨nd, rfl⟩⟩; refine ⟨_, rfl, ?_⟩) | (go_at_call 87; (with_reducible refine (impl_isIn.calls a0_2 1 60000 t903 _ A6.out).mono ?_); rintro e w' ⟨rfl, ⟨nd, rfl⟩⟩))
  go_meet
  case rel => exact ⟨_, (!t903), eqq_, H', ⟨by first | omega | exact Nat.le_refl _⟩, ⟨qK BK901⟩, ⟨qB HB⟩⟩
 case rest =>
  clear HC2
  try clear p2
  try clear c5
  try clear c8
  (try clear zK901)
  (try clear zK901)
  (try clear fK901)
  (try clear fK901)
  obtain ⟨kq, x14_1, rfl, HA, HJ1, BK901, HB⟩ := hcut
  cases kq with
  | zero => exact absurd HA.out (by simp [impl_CtlOk.j0])
  | succ kj1 =>
   have H := HA.out
   clear HA
   simp only [impl_CtlOk.j0] at H
   by_cases c9 : x14_1 = true
   ·
    subst c9
    rw [if_pos rfl] at H
    obtain rfl := Option.some.inj H
    go_wp2
    go_ret
    exact ⟨er_, qB HB⟩
   replace c9 := Bool.eq_false_iff.mpr c9
   subst c9
   rw [if_neg (show ¬ (false = true) by decide)] at H
   by_cases c10 : a0_0 = 1
   ·
    rw [if_pos c10] at H
    have c10b0 : (a0_0 == 1) = true := beq_iff_eq.mpr c10
    have c10b1 : (a0_0 != 1) = false := bne_eq_false_iff_eq.mpr c10
    clear c10
    have H' := Aside0.mk H
    clear H
    (try clear zK901)
    have zK901 := cz8 BK901.out
    (try clear fK901)
    have fK901 := fz8 BK901.out
    go_wp2
    go_loopg [22] kj1 (fun kq v22 w' => ∃ (x22_2 : Int), v22 = .int .i64 x22_2 ∧ Aside0 (impl_CtlOk.l0 kq l0_7 (l0_7.length : Int) x22_2 a0_0 a0_1 a0_2 a0_3 a0_4 a0_5 a0_6 l0_7 = some r) ∧ Aside0 (kq ≤ kj1) ∧ Aside0 (w'.heap[gb901]? = some (.cells #[.int .i64 a0_0, .int .i64 a0_1, .int .i64 a0_2, .int .i64 a0_3, .int .i64 a0_4, .bool a0_5, .int .i64 a0_6, (.slice A0_7 l0_7.length c0_7)] 75 (0, 0))) ∧ Aside0 (Below w.heap.size w w'))
    case atStart => exact ⟨(0), eqq_, H', ⟨Nat.le_refl _⟩, ⟨qK BK901⟩, ⟨qB HB⟩⟩
    case round =>
     clear H'
     try clear c1
     try clear p2
     try clear c5
     try clear c8
     try clear c9
     try clear c10
     try clear c10b0
     try clear c10b1
     (try clear zK901)
     (try clear zK901)
     (try clear zK901)
     (try clear fK901)
     (try clear fK901)
     (try clear fK901)
     try clear p2
     obtain ⟨x22_2, rfl, HA, HK2, BK901, HB⟩ := hrel
     cases gk with
     | zero => exact absurd HA.out (by simp [impl_CtlOk.l0])
     | succ k2 =>
      have H := HA.out
      clear HA
      simp only [impl_CtlOk.l0] at H
      by_cases c12 : x22_2 < (l0_7.length : Int)
      rotate_left
      ·
       rw [if_neg c12] at H
       have c12b0 : decide (x22_2 < (l0_7.length : Int)) = false := decide_eq_false c12
       clear c12
       replace H := bd_ H
       obtain ⟨t909, A25, H⟩ := H
       by_cases c26 : t909 = true
       rotate_left
       ·
        replace c26 := Bool.eq_false_iff.mpr c26
        subst c26
        rw [if_neg (show ¬ (false = true) by decide)] at H
        obtain rfl := Option.some.inj H
        (try clear zK901)
        have zK901 := cz8 BK901.out
        (try clear fK901)
        have fK901 := fz8 BK901.out
        go_wp2_with (first | ((with_reducible refine gate_callee (f := 87) rfl ?_); refine gl_ (some 33) Try.func87 #[.int .i64 a0_4, .int .i64 1, .int .i64 20] ?_; (with_reducible refine (impl_isIn.calls a0_4 1 20 false _ A25.out).mono ?_); rintro e w' ⟨rfl, ⟨nd, rfl⟩⟩; refine ⟨_, rfl, ?_⟩))
        go_ret
        exact ⟨er_, qB HB⟩
       subst c26
       rw [if_pos rfl] at H
       replace H := bd_ H
       obtain ⟨t910, A27, H⟩ := H
       by_cases c28 : t910 = true
       rotate_left
       ·
        replace c28 := Bool.eq_false_iff.mpr c28
        subst c28
        rw [if_neg (show ¬ (false = true) by decide)] at H
        obtain rfl := Option.some.inj H
        (try clear zK901)
        have zK901 := cz8 BK901.out
        (try clear fK901)
        have fK901 := fz8 BK901.out
        go_wp2_with (first | ((with_reducible refine gate_callee (f := 87) rfl ?_); refine gl_ (some 33) Try.func87 #[.int .i64 a0_4, .int .i64 1, .int .i64 20] ?_; (with_reducible refine (impl_isIn.calls a0_4 1 20 true _ A25.out).mono ?_); rintro e w' ⟨rfl, ⟨nd, rfl⟩⟩; refine ⟨_, rfl, ?_⟩) | (go_at_call 87; (with_reducible refine (impl_isIn.calls a0_3 0 (wrap64 (a0_4 - 1)) false _ A27.out).mono ?_); rintro e w' ⟨rfl, ⟨nd, rfl⟩⟩))
        go_ret
        exact ⟨er_, qB HB⟩
       subst c28
       rw [if_pos rfl] at H
       replace H := bd_ H
       obtain ⟨t911, A29, H⟩ := H
       by_cases c30 : t911 = true
       ·
        subst c30
        rw [if_pos rfl] at H
        obtain rfl := Option.some.inj H
        (try clear zK901)
        have zK901 := cz8 BK901.out
        (try clear fK901)
        have fK901 := fz8 BK901.out
        go_wp2_with (first | ((with_reducible refine gate_callee (f := 87) rfl ?_); refine gl_ (some 33) Try.func87 #[.int .i64 a0_4, .int .i64 1, .int .i64 20] ?_; (with_reducible refine (impl_isIn.calls a0_4 1 20 true _ A25.out).mono ?_); rintro e w' ⟨rfl, ⟨nd, rfl⟩⟩; refine ⟨_, rfl, ?_⟩) | (go_at_call 87; (with_reducible refine (impl_isIn.calls a0_3 0 (wrap64 (a0_4 - 1)) true _ A27.out).mono ?_); rintro e w' ⟨rfl, ⟨nd, rfl⟩⟩) | (go_at_call 65; (with_reducible refine (impl_wordOk.calls a0_6 true _ A29.out).mono ?_); rintro e w' ⟨rfl, ⟨nd, rfl⟩⟩))
        go_ret
        exact ⟨er_, qB HB⟩
       replace c30 := Bool.eq_false_iff.mpr c30
       subst c30
       rw [if_neg (show ¬ (false = true) by decide)] at H
       obtain rfl := Option.some.inj H
       (try clear zK901)
       have zK901 := cz8 BK901.out
       (try clear fK901)
       have fK901 := fz8 BK901.out
       go_wp2_with (first | ((with_reducible refine gate_callee (f := 87) rfl ?_); refine gl_ (some 33) Try.func87 #[.int .i64 a0_4, .int .i64 1, .int .i64 20] ?_; (with_reducible refine (impl_isIn.calls a0_4 1 20 true _ A25.out).mono ?_); rintro e w' ⟨rfl, ⟨nd, rfl⟩⟩; refine ⟨_, rfl, ?_⟩) | (go_at_call 87; (with_reducible refine (impl_isIn.calls a0_3 0 (wrap64 (a0_4 - 1)) true _ A27.out).mono ?_); rintro e w' ⟨rfl, ⟨nd, rfl⟩⟩) | (go_at_call 65; (with_reducible refine (impl_wordOk.calls a0_6 false _ A29.out).mono ?_); rintro e w' ⟨rfl, ⟨nd, rfl⟩⟩))
       go_ret
       exact ⟨er_, qB HB⟩
      rw [if_pos c12] at H
      have c12b0 : decide (x22_2 < (l0_7.length : Int)) = true := decide_eq_true c12
      clear c12
      by_cases c13 : 0 ≤ x22_2
      case neg => exact nn_ c13 H
      rw [if_pos c13] at H
      have c13b0 : decide (0 ≤ x22_2) = true := decide_eq_true c13
      clear c13
      by_cases c14 : x22_2 < (l0_7.length : Int)
      case neg => exact nn_ c14 H
      rw [if_pos c14] at H
      have c14b0 : decide (x22_2 < (l0_7.length : Int)) = true := decide_eq_true c14
      clear c14
      replace H := bd_ H
      obtain ⟨t906, A15, H⟩ := H
      have HC16 := Aside0.mk H
      clear H
      have p904 : 0 ≤ (x22_2 : Int) := od_
      have q904 : x22_2 < (l0_7.length : Int) := od_
      obtain ⟨ad904, e904, hx904_0, hx904_1, hx904_2, hx904_3, hx904_4, hx904_5, hx904_6, hx904_7, hx904_8, hx904_9, hx904_10, hx904_11, hx904_12, hx904_13, hx904_14, hx904_15⟩ := at_T29 HR0_7.out x22_2 p904 q904
      cases e904
      replace hx904_0 := lb_ HB hx904_0
      replace hx904_1 := lb_ HB hx904_1
      replace hx904_2 := lb_ HB hx904_2
      replace hx904_3 := lb_ HB hx904_3
      replace hx904_4 := lb_ HB hx904_4
      replace hx904_5 := lb_ HB hx904_5
      replace hx904_6 := lb_ HB hx904_6
      replace hx904_7 := lb_ HB hx904_7
      replace hx904_8 := lb_ HB hx904_8
      replace hx904_9 := lb_ HB hx904_9
      replace hx904_10 := lb_ HB hx904_10
      replace hx904_11 := lb_ HB hx904_11
      replace hx904_12 := lb_ HB hx904_12
      replace hx904_13 := lb_ HB hx904_13
      replace hx904_14 := lb_ HB hx904_14
      replace hx904_15 := lb_ HB hx904_15
      replace p904 := eq_true p904
      replace q904 := eq_true q904
      go_upto_if 29 with (first | ((with_reducible refine gate_dst (N := 4) rfl ?_); (try (refine gate_guard (by rfl) ?_; dsimp only)); refine box_event ?hg (N := 4) ?hd (cs := #[.int .i64 0, .int .i64 0, .string (⟨#[]⟩ : ByteArray), .int .i64 0, .int .i64 0, .int .i64 0, .string (⟨#[]⟩ : ByteArray), .int .i64 0, .int .i64 0, .int .i64 0, .string (⟨#[]⟩ : ByteArray), .int .i64 0, .int .i64 0, .int .i64 0, .int .i64 0, .int .i64 0]) (t := 29) ?hr ?_; (case hd => rfl); (case hg => rfl); (case hr => first | (go_simp; done) | (go_simp; rfl) | ((try (obtain ⟨_, _, rfl⟩ := Kd.R_slice HO908.out)); first | (go_simp; done) | (go_simp; rfl))); intro gb905 hg w17 hbox hb; have BK905 := am_ (hbox); have GW905 := gA_ hg HB; have GE905 := GW905; have IGE905 := gI_ GE905; replace HB := bS_ HB hb; have NB901_905 := am_ ((gN_ hg (qK BK901))); have NB905_901 := am_ ((gM_ hg (qK BK901))); replace BK901 := bK_ BK901 hb; clear hb hbox hg; have hnb18 := NB905_901.out; have hnc18 := NB901_905.out; (try clear zK905); have zK905 := cz16 BK905.out; (try clear fK905); have fK905 := fz16 BK905.out) | ((with_reducible refine gate_store (t := 29) (p := 4) rfl ?_); refine store_evs (t := 29) (p := 4) (j := 0) (cs := [.int .i64 ((rd_T29 l0_7 x22_2).f0), .int .i64 ((rd_T29 l0_7 x22_2).f1.f0), .string ((rd_T29 l0_7 x22_2).f1.f1), .int .i64 ((rd_T29 l0_7 x22_2).f1.f2), .int .i64 ((rd_T29 l0_7 x22_2).f1.f3), .int .i64 ((rd_T29 l0_7 x22_2).f1.f4), .string ((rd_T29 l0_7 x22_2).f1.f5), .int .i64 ((rd_T29 l0_7 x22_2).f1.f6), .int .i64 ((rd_T29 l0_7 x22_2).f1.f7), .int .i64 ((rd_T29 l0_7 x22_2).f2.f0), .string ((rd_T29 l0_7 x22_2).f2.f1), .int .i64 ((rd_T29 l0_7 x22_2).f2.f2), .int .i64 ((rd_T29 l0_7 x22_2).f2.f3), .int .i64 ((rd_T29 l0_7 x22_2).f2.f4), .int .i64 ((rd_T29 l0_7 x22_2).f2.f5), .int .i64 ((rd_T29 l0_7 x22_2).f2.f6)]) (qK BK905) ?_; intro w20 hw; replace BK901 := sK_ hw BK901 NB901_905; replace HB := sB_ hw HB; replace BK905 := sW_ hw BK905; clear hw; (try clear zK905); have zK905 := cz16 BK905.out) | ((with_reducible refine gate_callee (f := 9) rfl ?_); refine gl_ (some 27) Try.func9 #[.agg #[.int .i64 ((rd_T29 l0_7 x22_2).f0), .int .i64 ((rd_T29 l0_7 x22_2).f1.f0), .string ((rd_T29 l0_7 x22_2).f1.f1), .int .i64 ((rd_T29 l0_7 x22_2).f1.f2), .int .i64 ((rd_T29 l0_7 x22_2).f1.f3), .int .i64 ((rd_T29 l0_7 x22_2).f1.f4), .string ((rd_T29 l0_7 x22_2).f1.f5), .int .i64 ((rd_T29 l0_7 x22_2).f1.f6), .int .i64 ((rd_T29 l0_7 x22_2).f1.f7), .int .i64 ((rd_T29 l0_7 x22_2).f2.f0), .string ((rd_T29 l0_7 x22_2).f2.f1), .int .i64 ((rd_T29 l0_7 x22_2).f2.f2), .int .i64 ((rd_T29 l0_7 x22_2).f2.f3), .int .i64 ((rd_T29 l0_7 x22_2).f2.f4), .int .i64 ((rd_T29 l0_7 x22_2).f2.f5), .int .i64 ((rd_T29 l0_7 x22_2).f2.f6)]] ?_; (with_reducible refine (impl_PutItem.calls k2 ((rd_T29 l0_7 x22_2).f0) ((rd_T29 l0_7 x22_2).f1.f0) ((rd_T29 l0_7 x22_2).f1.f1) ((rd_T29 l0_7 x22_2).f1.f2) ((rd_T29 l0_7 x22_2).f1.f3) ((rd_T29 l0_7 x22_2).f1.f4) ((rd_T29 l0_7 x22_2).f1.f5) ((rd_T29 l0_7 x22_2).f1.f6) ((rd_T29 l0_7 x22_2).f1.f7) ((rd_T29 l0_7 x22_2).f2.f0) ((rd_T29 l0_7 x22_2).f2.f1) ((rd_T29 l0_7 x22_2).f2.f2) ((rd_T29 l0_7 x22_2).f2.f3) ((rd_T29 l0_7 x22_2).f2.f4) ((rd_T29 l0_7 x22_2).f2.f5) ((rd_T29 l0_7 x22_2).f2.f6) t906 _ A15.out).mono ?_); rintro e w22 ⟨v907, rfl, ho0, hb⟩; refine ⟨_, rfl, ?_⟩; have HO908 := am_ (Kd.R_lower ho0 (below_size (qB HB))); replace BK901 := bK_ BK901 hb; replace BK905 := bK_ BK905 hb; replace HB := bS_ HB hb; (try clear hb); (try clear ho0); obtain ⟨Ao23, co23, eo23⟩ := Kd.R_slice HO908.out; subst eo23))
      (try simp only [Act.put, List.setIfInBounds_toArray, List.set_cons_zero, List.set_cons_succ])
      have H := HC16.out
      clear HC16
      by_cases c24 : (t906.length : Int) = 0
      ·
       rw [if_pos c24] at H
       have c24b0 : ((t906.length : Int) == 0) = true := beq_iff_eq.mpr c24
       have c24b1 : ((t906.length : Int) != 0) = false := bne_eq_false_iff_eq.mpr c24
       clear c24
       (first | rw [c24b0] | rw [c24b1] | (simp only [i64_w, i32_w]; rw [c24b0]) | skip)
       obtain rfl := Option.some.inj H
       go_wp2
       go_ret
       exact ⟨er_, qB HB⟩
      rw [if_neg c24] at H
      have c24b0 : ((t906.length : Int) == 0) = false := beq_eq_false_iff_ne.mpr c24
      have c24b1 : ((t906.length : Int) != 0) = true := bne_iff_ne.mpr c24
      have c24b2 : ¬ (t906 = []) := fun h_ => c24 (by rw [h_]; rfl)
      (first | rw [c24b0] | rw [c24b1] | rw [c24b2] | (simp only [i64_w, i32_w]; rw [c24b0]) | skip)
      have H' := Aside0.mk H
      clear H
      go_wp2
      go_roundg k2
      case measure => have := HJ1.out; have := HK2.out; omega
      case rel => exact ⟨(wrap64 (x22_2 + 1)), eqq_, H', ⟨by have := HJ1.out; have := HK2.out; omega⟩, ⟨qK BK901⟩, ⟨qB HB⟩⟩
   rw [if_neg c10] at H
   have c10b0 : (a0_0 == 1) = false := beq_eq_false_iff_ne.mpr c10
   have c10b1 : (a0_0 != 1) = true := bne_iff_ne.mpr c10
   by_cases c35 : a0_0 = 2
   ·
    rw [if_pos c35] at H
    have c35b0 : (a0_0 == 2) = true := beq_iff_eq.mpr c35
    have c35b1 : (a0_0 != 2) = false := bne_eq_false_iff_eq.mpr c35
    clear c35
    replace H := bd_ H
    obtain ⟨t912, A36, H⟩ := H
    by_cases c37 : t912 = true
    rotate_left
    ·
     replace c37 := Bool.eq_false_iff.mpr c37
     subst c37
     rw [if_neg (show ¬ (false = true) by decide)] at H
     obtain rfl := Option.some.inj H
     (try clear zK901)
     have zK901 := cz8 BK901.out
     go_wp2_with (first | ((with_reducible refine gate_callee (f := 87) rfl ?_); refine gl_ (some 58) Try.func87 #[.int .i64 a0_3, .int .i64 0, .int .i64 20] ?_; (with_reducible refine (impl_isIn.calls a0_3 0 20 false _ A36.out).mono ?_); rintro e w' ⟨rfl, ⟨nd, rfl⟩⟩; refine ⟨_, rfl, ?_⟩))
     go_ret
     exact ⟨er_, qB HB⟩
    subst c37
    rw [if_pos rfl] at H
    by_cases c38 : a0_4 = 0
    rotate_left
    ·
     rw [if_neg c38] at H
     have c38b0 : (a0_4 == 0) = false := beq_eq_false_iff_ne.mpr c38
     have c38b1 : (a0_4 != 0) = true := bne_iff_ne.mpr c38
     obtain rfl := Option.some.inj H
     (try clear zK901)
     have zK901 := cz8 BK901.out
     go_wp2_with (first | ((with_reducible refine gate_callee (f := 87) rfl ?_); refine gl_ (some 58) Try.func87 #[.int .i64 a0_3, .int .i64 0, .int .i64 20] ?_; (with_reducible refine (impl_isIn.calls a0_3 0 20 true _ A36.out).mono ?_); rintro e w' ⟨rfl, ⟨nd, rfl⟩⟩; refine ⟨_, rfl, ?_⟩))
     go_ret
     exact ⟨er_, qB HB⟩
    rw [if_pos c38] at H
    have c38b0 : (a0_4 == 0) = true := beq_iff_eq.mpr c38
    have c38b1 : (a0_4 != 0) = false := bne_eq_false_iff_eq.mpr c38
    clear c38
    by_cases c39 : a0_5 = true
    ·
     subst c39
     rw [if_pos rfl] at H
     obtain rfl := Option.some.inj H
     (try clear zK901)
     have zK901 := cz8 BK901.out
     go_wp2_with (first | ((with_reducible refine gate_callee (f := 87) rfl ?_); refine gl_ (some 58) Try.func87 #[.int .i64 a0_3, .int .i64 0, .int .i64 20] ?_; (with_reducible refine (impl_isIn.calls a0_3 0 20 true _ A36.out).mono ?_); rintro e w' ⟨rfl, ⟨nd, rfl⟩⟩; refine ⟨_, rfl, ?_⟩))
     go_ret
     exact ⟨er_, qB HB⟩
    replace c39 := Bool.eq_false_iff.mpr c39
    subst c39
    rw [if_neg (show ¬ (false = true) by decide)] at H
    by_cases c41 : a0_6 = 0
    rotate_left
    ·
     rw [if_neg c41] at H
     have c41b0 : (a0_6 == 0) = false := beq_eq_false_iff_ne.mpr c41
     have c41b1 : (a0_6 != 0) = true := bne_iff_ne.mpr c41
     obtain rfl := Option.some.inj H
     (try clear zK901)
     have zK901 := cz8 BK901.out
     go_wp2_with (first | ((with_reducible refine gate_callee (f := 87) rfl ?_); refine gl_ (some 58) Try.func87 #[.int .i64 a0_3, .int .i64 0, .int .i64 20] ?_; (with_reducible refine (impl_isIn.calls a0_3 0 20 true _ A36.out).mono ?_); rintro e w' ⟨rfl, ⟨nd, rfl⟩⟩; refine ⟨_, rfl, ?_⟩))
     go_ret
     exact ⟨er_, qB HB⟩
    rw [if_pos c41] at H
    have c41b0 : (a0_6 == 0) = true := beq_iff_eq.mpr c41
    have c41b1 : (a0_6 != 0) = false := bne_eq_false_iff_eq.mpr c41
    clear c41
    obtain rfl := Option.some.inj H
    (try clear zK901)
    have zK901 := cz8 BK901.out
    go_wp2_with (first | ((with_reducible refine gate_callee (f := 87) rfl ?_); refine gl_ (some 58) Try.func87 #[.int .i64 a0_3, .int .i64 0, .int .i64 20] ?_; (with_reducible refine (impl_isIn.calls a0_3 0 20 true _ A36.out).mono ?_); rintro e w' ⟨rfl, ⟨nd, rfl⟩⟩; refine ⟨_, rfl, ?_⟩))
    go_ret
    exact ⟨er_, qB HB⟩
   rw [if_neg c35] at H
   have c35b0 : (a0_0 == 2) = false := beq_eq_false_iff_ne.mpr c35
   have c35b1 : (a0_0 != 2) = true := bne_iff_ne.mpr c35
   by_cases c46 : a0_0 = 3
   rotate_left
   ·
    rw [if_neg c46] at H
    have c46b0 : (a0_0 == 3) = false := beq_eq_false_iff_ne.mpr c46
    have c46b1 : (a0_0 != 3) = true := bne_iff_ne.mpr c46
    obtain rfl := Option.some.inj H
    (try clear zK901)
    have zK901 := cz8 BK901.out
    go_wp2
    go_ret
    exact ⟨er_, qB HB⟩
   rw [if_pos c46] at H
   have c46b0 : (a0_0 == 3) = true := beq_iff_eq.mpr c46
   have c46b1 : (a0_0 != 3) = false := bne_eq_false_iff_eq.mpr c46
   clear c46
   replace H := bd_ H
   obtain ⟨t913, A47, H⟩ := H
   by_cases c48 : t913 = true
   rotate_left
   ·
    replace c48 := Bool.eq_false_iff.mpr c48
    subst c48
    rw [if_neg (show ¬ (false = true) by decide)] at H
    obtain rfl := Option.some.inj H
    (try clear zK901)
    have zK901 := cz8 BK901.out
    go_wp2_with (first | ((with_reducible refine gate_callee (f := 87) rfl ?_); refine gl_ (some 58) Try.func87 #[.int .i64 a0_3, .int .i64 0, .int .i64 20] ?_; (with_reducible refine (impl_isIn.calls a0_3 0 20 false _ A47.out).mono ?_); rintro e w' ⟨rfl, ⟨nd, rfl⟩⟩; refine ⟨_, rfl, ?_⟩))
    go_ret
    exact ⟨er_, qB HB⟩
   subst c48
   rw [if_pos rfl] at H
   by_cases c49 : a0_3 = 0
   rotate_left
   ·
    rw [if_neg c49] at H
    have c49b0 : (a0_3 == 0) = false := beq_eq_false_iff_ne.mpr c49
    have c49b1 : (a0_3 != 0) = true := bne_iff_ne.mpr c49
    obtain rfl := Option.some.inj H
    (try clear zK901)
    have zK901 := cz8 BK901.out
    go_wp2_with (first | ((with_reducible refine gate_callee (f := 87) rfl ?_); refine gl_ (some 58) Try.func87 #[.int .i64 a0_3, .int .i64 0, .int .i64 20] ?_; (with_reducible refine (impl_isIn.calls a0_3 0 20 true _ A47.out).mono ?_); rintro e w' ⟨rfl, ⟨nd, rfl⟩⟩; refine ⟨_, rfl, ?_⟩))
    go_ret
    exact ⟨er_, qB HB⟩
   rw [if_pos c49] at H
   have c49b0 : (a0_3 == 0) = true := beq_iff_eq.mpr c49
   have c49b1 : (a0_3 != 0) = false := bne_eq_false_iff_eq.mpr c49
   clear c49
   by_cases c50 : a0_4 = 0
   rotate_left
   ·
    rw [if_neg c50] at H
    have c50b0 : (a0_4 == 0) = false := beq_eq_false_iff_ne.mpr c50
    have c50b1 : (a0_4 != 0) = true := bne_iff_ne.mpr c50
    obtain rfl := Option.some.inj H
    (try clear zK901)
    have zK901 := cz8 BK901.out
    go_wp2_with (first | ((with_reducible refine gate_callee (f := 87) rfl ?_); refine gl_ (some 58) Try.func87 #[.int .i64 a0_3, .int .i64 0, .int .i64 20] ?_; (with_reducible refine (impl_isIn.calls a0_3 0 20 true _ A47.out).mono ?_); rintro e w' ⟨rfl, ⟨nd, rfl⟩⟩; refine ⟨_, rfl, ?_⟩))
    go_ret
    exact ⟨er_, qB HB⟩
   rw [if_pos c50] at H
   have c50b0 : (a0_4 == 0) = true := beq_iff_eq.mpr c50
   have c50b1 : (a0_4 != 0) = false := bne_eq_false_iff_eq.mpr c50
   clear c50
   by_cases c51 : a0_5 = true
   ·
    subst c51
    rw [if_pos rfl] at H
    obtain rfl := Option.some.inj H
    (try clear zK901)
    have zK901 := cz8 BK901.out
    go_wp2_with (first | ((with_reducible refine gate_callee (f := 87) rfl ?_); refine gl_ (some 58) Try.func87 #[.int .i64 a0_3, .int .i64 0, .int .i64 20] ?_; (with_reducible refine (impl_isIn.calls a0_3 0 20 true _ A47.out).mono ?_); rintro e w' ⟨rfl, ⟨nd, rfl⟩⟩; refine ⟨_, rfl, ?_⟩))
    go_ret
    exact ⟨er_, qB HB⟩
   replace c51 := Bool.eq_false_iff.mpr c51
   subst c51
   rw [if_neg (show ¬ (false = true) by decide)] at H
   by_cases c53 : a0_6 = 0
   rotate_left
   ·
    rw [if_neg c53] at H
    have c53b0 : (a0_6 == 0) = false := beq_eq_false_iff_ne.mpr c53
    have c53b1 : (a0_6 != 0) = true := bne_iff_ne.mpr c53
    obtain rfl := Option.some.inj H
    (try clear zK901)
    have zK901 := cz8 BK901.out
    go_wp2_with (first | ((with_reducible refine gate_callee (f := 87) rfl ?_); refine gl_ (some 58) Try.func87 #[.int .i64 a0_3, .int .i64 0, .int .i64 20] ?_; (with_reducible refine (impl_isIn.calls a0_3 0 20 true _ A47.out).mono ?_); rintro e w' ⟨rfl, ⟨nd, rfl⟩⟩; refine ⟨_, rfl, ?_⟩))
    go_ret
    exact ⟨er_, qB HB⟩
   rw [if_pos c53] at H
   have c53b0 : (a0_6 == 0) = true := beq_iff_eq.mpr c53
   have c53b1 : (a0_6 != 0) = false := bne_eq_false_iff_eq.mpr c53
   clear c53
   obtain rfl := Option.some.inj H
   (try clear zK901)
   have zK901 := cz8 BK901.out
   go_wp2_with (first | ((with_reducible refine gate_callee (f := 87) rfl ?_); refine gl_ (some 58) Try.func87 #[.int .i64 a0_3, .int .i64 0, .int .i64 20] ?_; (with_reducible refine (impl_isIn.calls a0_3 0 20 true _ A47.out).mono ?_); rintro e w' ⟨rfl, ⟨nd, rfl⟩⟩; refine ⟨_, rfl, ?_⟩))
   go_ret
   exact ⟨er_, qB HB⟩

end Go.Proofs.Ytiffahfpfgnjnaa.PFnWays
