-- Written by a program of this session (myprint.py, over the kit's print): contracts of FnExactPutCtl
import Derived.Test.YtahfemlfdpbkkaaPFnExactPutCtlx0
import Derived.Test.YtahfemlfdpbkkaaPFnExactPutCtlx11
import Derived.Test.YtahfemlfdpbkkaaPFnExactPutCtlx14
namespace Go.Proofs.Ytahfemlfdpbkkaa.PFnExactPutCtl
open Go.RowKit Go.Proofs.YtahfemlfdpbkkaaW.PrintWords Go.Proofs.YtahfemlfdpbkkaaW.PrintLast Go.Proofs.YtahfemlfdpbkkaaW.PrintMore Go.Proofs.YtahfemlfdpbkkaaV
attribute [local go_sem] max2_int min2_int max_two min_two max_three min_three max_four min_four   -- for this text's walks alone
set_option linter.unusedVariables false
set_option linter.unusedSimpArgs false

/-! ### impl_CtlOk: function 49 -/
mutual
def impl_CtlOk.j0 : Nat → Bool → Int → Int → Int → Int → Int → Bool → Int → List (S48) → Option (Bool)
 | 0, _, _, _, _, _, _, _, _, _ => none
 | k + 1, x14, x471000, x471001, x471002, x471003, x471004, x471005, x471006, x471007 => if x14 = true then (some false) else (if x471000 = 1 then (impl_CtlOk.l0 k x471007 (x471007.length : Int) 0 x471000 x471001 x471002 x471003 x471004 x471005 x471006 x471007) else (if x471000 = 2 then ((impl_isIn.f x471003 0 20).bind fun t481 => (if t481 = true then (if x471004 = 0 then (if x471005 = true then (some false) else (if x471006 = 0 then (some ((x471007.length : Int) == 0)) else (some false))) else (some false)) else (some false))) else (if x471000 = 3 then ((impl_isIn.f x471003 0 20).bind fun t482 => (if t482 = true then (if x471003 = 0 then (if x471004 = 0 then (if x471005 = true then (some false) else (if x471006 = 0 then (some ((x471007.length : Int) == 0)) else (some false))) else (some false)) else (some false)) else (some false))) else (some false))))
def impl_CtlOk.l0 : Nat → List (S48) → Int → Int → Int → Int → Int → Int → Int → Bool → Int → List (S48) → Option (Bool)
 | 0, _, _, _, _, _, _, _, _, _, _, _ => none
 | k + 1, x20, x21, x22, x471000, x471001, x471002, x471003, x471004, x471005, x471006, x471007 => if x22 < x21 then (if 0 ≤ x22 then (if x22 < (x20.length : Int) then ((impl_PutItem.f k ((rd_T48 x20 x22).f0) ((rd_T48 x20 x22).f1.f0) ((rd_T48 x20 x22).f1.f1) ((rd_T48 x20 x22).f1.f2) ((rd_T48 x20 x22).f1.f3) ((rd_T48 x20 x22).f1.f4) ((rd_T48 x20 x22).f1.f5) ((rd_T48 x20 x22).f1.f6) ((rd_T48 x20 x22).f1.f7) ((rd_T48 x20 x22).f2.f0) ((rd_T48 x20 x22).f2.f1) ((rd_T48 x20 x22).f2.f2) ((rd_T48 x20 x22).f2.f3) ((rd_T48 x20 x22).f2.f4) ((rd_T48 x20 x22).f2.f5) ((rd_T48 x20 x22).f2.f6)).bind fun t475 => (if (t475.length : Int) = 0 then (some false) else (impl_CtlOk.l0 k x20 x21 (wrap64 (x22 + 1)) x471000 x471001 x471002 x471003 x471004 x471005 x471006 x471007))) else (none)) else (none)) else ((impl_isIn.f x471004 1 20).bind fun t478 => (if t478 = true then ((impl_isIn.f x471003 0 (wrap64 (x471004 - 1))).bind fun t479 => (if t479 = true then ((impl_wordOk.f x471006).bind fun t480 => (if t480 = true then (some (decide ((x471007.length : Int) ≤ 2))) else (some false))) else (some false))) else (some false)))
end
def impl_CtlOk.f (k : Nat) (a0_0 : Int) (a0_1 : Int) (a0_2 : Int) (a0_3 : Int) (a0_4 : Int) (a0_5 : Bool) (a0_6 : Int) (l0_7 : List (S48)) : Option (Bool) := (impl_isIn.f a0_1 0 1).bind fun t471 => (if t471 = true then ((impl_isIn.f a0_2 1 60000).bind fun t472 => (impl_CtlOk.j0 k (!t472) a0_0 a0_1 a0_2 a0_3 a0_4 a0_5 a0_6 l0_7)) else (impl_CtlOk.j0 k true a0_0 a0_1 a0_2 a0_3 a0_4 a0_5 a0_6 l0_7))
theorem impl_CtlOk.mono_l : ∀ k, (∀ y0 y1 y2 y3 y4 y5 y6 y7 y8, LeO (impl_CtlOk.j0 k y0 y1 y2 y3 y4 y5 y6 y7 y8) (impl_CtlOk.j0 (k + 1) y0 y1 y2 y3 y4 y5 y6 y7 y8)) ∧ (∀ y0 y1 y2 y3 y4 y5 y6 y7 y8 y9 y10, LeO (impl_CtlOk.l0 k y0 y1 y2 y3 y4 y5 y6 y7 y8 y9 y10) (impl_CtlOk.l0 (k + 1) y0 y1 y2 y3 y4 y5 y6 y7 y8 y9 y10))
 | 0 => ⟨fun _ _ _ _ _ _ _ _ _ r h => by simp [impl_CtlOk.j0] at h, fun _ _ _ _ _ _ _ _ _ _ _ r h => by simp [impl_CtlOk.l0] at h⟩
 | k + 1 => by
  obtain ⟨ih0, ih1⟩ := impl_CtlOk.mono_l k
  refine ⟨?_, ?_⟩
  ·
   intro y0 y1 y2 y3 y4 y5 y6 y7 y8
   unfold impl_CtlOk.j0
   repeat' first
   | (with_reducible exact ih0 _ _ _ _ _ _ _ _ _)
   | (with_reducible exact ih1 _ _ _ _ _ _ _ _ _ _ _)
   | (with_reducible exact impl_PutItem.mono _ _ _ _ _ _ _ _ _ _ _ _ _ _ _ _ _)
   | (with_reducible exact LeO.refl _)
   | (with_reducible exact LeO.none _)
   | (with_reducible refine LeO.ite ?_ ?_)
   | (with_reducible refine LeO.bind ?_ (fun _ => ?_))
   | exact ih0 _ _ _ _ _ _ _ _ _
   | exact ih1 _ _ _ _ _ _ _ _ _ _ _
   | exact impl_PutItem.mono _ _ _ _ _ _ _ _ _ _ _ _ _ _ _ _ _
   | exact LeO.none _
   | refine LeO.ite ?_ ?_
   | refine LeO.bind ?_ (fun _ => ?_)
  ·
   intro y0 y1 y2 y3 y4 y5 y6 y7 y8 y9 y10
   unfold impl_CtlOk.l0
   repeat' first
   | (with_reducible exact ih0 _ _ _ _ _ _ _ _ _)
   | (with_reducible exact ih1 _ _ _ _ _ _ _ _ _ _ _)
   | (with_reducible exact impl_PutItem.mono _ _ _ _ _ _ _ _ _ _ _ _ _ _ _ _ _)
   | (with_reducible exact LeO.refl _)
   | (with_reducible exact LeO.none _)
   | (with_reducible refine LeO.ite ?_ ?_)
   | (with_reducible refine LeO.bind ?_ (fun _ => ?_))
   | exact ih0 _ _ _ _ _ _ _ _ _
   | exact ih1 _ _ _ _ _ _ _ _ _ _ _
   | exact impl_PutItem.mono _ _ _ _ _ _ _ _ _ _ _ _ _ _ _ _ _
   | exact LeO.none _
   | refine LeO.ite ?_ ?_
   | refine LeO.bind ?_ (fun _ => ?_)
theorem impl_CtlOk.mono : ∀ a0 a1 a2 a3 a4 a5 a6 a7 k, LeO (impl_CtlOk.f k a0 a1 a2 a3 a4 a5 a6 a7) (impl_CtlOk.f (k + 1) a0 a1 a2 a3 a4 a5 a6 a7) := by
 intro a0 a1 a2 a3 a4 a5 a6 a7 k
 obtain ⟨ih0, ih1⟩ := impl_CtlOk.mono_l k
 unfold impl_CtlOk.f
 repeat' first
   | (with_reducible exact ih0 _ _ _ _ _ _ _ _ _)
   | (with_reducible exact ih1 _ _ _ _ _ _ _ _ _ _ _)
   | (with_reducible exact impl_PutItem.mono _ _ _ _ _ _ _ _ _ _ _ _ _ _ _ _ _)
   | (with_reducible exact LeO.refl _)
   | (with_reducible exact LeO.none _)
   | (with_reducible refine LeO.ite ?_ ?_)
   | (with_reducible refine LeO.bind ?_ (fun _ => ?_))
   | exact ih0 _ _ _ _ _ _ _ _ _
   | exact ih1 _ _ _ _ _ _ _ _ _ _ _
   | exact impl_PutItem.mono _ _ _ _ _ _ _ _ _ _ _ _ _ _ _ _ _
   | exact LeO.none _
   | refine LeO.ite ?_ ?_
   | refine LeO.bind ?_ (fun _ => ?_)
set_option maxHeartbeats 8000000 in
set_option maxRecDepth 100000 in
theorem impl_CtlOk.calls (k : Nat) (a0_0 : Int) (a0_1 : Int) (a0_2 : Int) (a0_3 : Int) (a0_4 : Int) (a0_5 : Bool) (a0_6 : Int) (A0_7 : Option Addr) (c0_7 : Nat) (l0_7 : List (S48)) (r : Bool) (w : World) (hr0_7 : Kd.C k48 w A0_7 l0_7.length l0_7) (hc0_7 : l0_7.length ≤ c0_7) (h : impl_CtlOk.f k a0_0 a0_1 a0_2 a0_3 a0_4 a0_5 a0_6 l0_7 = some r) :
  Calls Try.prog 49 #[.agg #[.int .i64 a0_0, .int .i64 a0_1, .int .i64 a0_2, .int .i64 a0_3, .int .i64 a0_4, .bool a0_5, .int .i64 a0_6, .slice A0_7 l0_7.length c0_7]] w fun e w' => e = .returned (.bool r) ∧ Below w.heap.size w w' := by
 have hu86 := Try.underlying86
 have hu48 := Try.underlying48
 have HR0_7 := Aside0.mk hr0_7
 have HC0_7 := Aside0.mk hc0_7
 clear hr0_7 hc0_7
 have HB := Aside0.mk (Below.refl w.heap.size w)
 have H : ((impl_isIn.f a0_1 0 1).bind fun t471 => (if t471 = true then ((impl_isIn.f a0_2 1 60000).bind fun t472 => (impl_CtlOk.j0 k (!t472) a0_0 a0_1 a0_2 a0_3 a0_4 a0_5 a0_6 l0_7)) else (impl_CtlOk.j0 k true a0_0 a0_1 a0_2 a0_3 a0_4 a0_5 a0_6 l0_7))) = some r := h
 clear h
 have HC2 := Aside0.mk H
 clear H
 go_enter Try.func49, Try.ntmps49
 go_upto_region 1 with (first | ((with_reducible refine gate_dst (N := 1) rfl ?_); (try (refine gate_guard (by rfl) ?_; dsimp only)); refine box_event ?hg (N := 1) ?hd (cs := #[.int .i64 a0_0, .int .i64 a0_1, .int .i64 a0_2, .int .i64 a0_3, .int .i64 a0_4, .bool a0_5, .int .i64 a0_6, .slice A0_7 l0_7.length c0_7]) (t := 86) ?hr ?_; (case hd => rfl); (case hg => rfl); (case hr => first | (go_simp; done) | (go_simp; rfl)); intro gb470 hg w3 hbox hb; have BK470 := am_ (hbox); have GW470 := am_ ((gG_ hg (qB HB))); have IGW470 := gI_ GW470; have GE470 := am_ ((gG_ hg (qB HB))); have IGE470 := gI_ GE470; replace HB := am_ (below_step (qB HB) hb); clear hb hbox hg))
 (try simp only [Act.put, List.setIfInBounds_toArray, List.set_cons_zero, List.set_cons_succ])
 go_cut [14] (fun v14 wc => ∃ (kq : Nat) (x14_1 : Bool), v14 = .bool x14_1 ∧ Aside0 (impl_CtlOk.j0 kq x14_1 a0_0 a0_1 a0_2 a0_3 a0_4 a0_5 a0_6 l0_7 = some r) ∧ Aside0 (kq ≤ k) ∧ Aside0 (wc.heap[gb470]? = some (.cells #[.int .i64 a0_0, .int .i64 a0_1, .int .i64 a0_2, .int .i64 a0_3, .int .i64 a0_4, .bool a0_5, .int .i64 a0_6, (.slice A0_7 l0_7.length c0_7)] 86 (0, 0))) ∧ Aside0 (Below w.heap.size w wc))
 case first =>
  have H := HC2.out
  clear HC2
  obtain ⟨t471, A4, H⟩ := bd_ H
  by_cases c5 : t471 = true
  ·
   subst c5
   rw [if_pos rfl] at H
   obtain ⟨t472, A6, H⟩ := bd_ H
   have H' := Aside0.mk H
   clear H
   obtain ⟨z7_0, z7_1, z7_2, z7_3, z7_4, z7_5, z7_6, z7_7⟩ := cz8 BK470.out
   obtain ⟨f7_0, f7_1, f7_2, f7_3, f7_4, f7_5, f7_6, f7_7⟩ := fz8 BK470.out
   go_wp2_with (first | ((with_reducible refine gate_callee (f := 112) rfl ?_); refine goesL_ (some 7) rfl rfl Try.func112 (by kernel_rfl) rfl #[.int .i64 a0_1, .int .i64 0, .int .i64 1] rfl la_ ?_; (with_reducible refine (impl_isIn.calls a0_1 0 1 true _ A4.out).mono ?_); rintro e w' ⟨rfl, ⟨nd, rfl⟩⟩; refine ⟨_, rfl, ?_⟩) | (go_at_call 112; (with_reducible refine (impl_isIn.calls a0_2 1 60000 t472 _ A6.out).mono ?_); rintro e w' ⟨rfl, ⟨nd, rfl⟩⟩))
   go_meet
   case rel => exact ⟨_, (!t472), eqq_, H', ⟨by first | omega | exact Nat.le_refl _⟩, ⟨qK BK470⟩, ⟨qB HB⟩⟩
  ·
   replace c5 := Bool.eq_false_iff.mpr c5
   subst c5
   rw [if_neg (show ¬ (false = true) by decide)] at H
   have H' := Aside0.mk H
   clear H
   obtain ⟨z8_0, z8_1, z8_2, z8_3, z8_4, z8_5, z8_6, z8_7⟩ := cz8 BK470.out
   obtain ⟨f8_0, f8_1, f8_2, f8_3, f8_4, f8_5, f8_6, f8_7⟩ := fz8 BK470.out
   go_wp2_with (first | ((with_reducible refine gate_callee (f := 112) rfl ?_); refine goesL_ (some 7) rfl rfl Try.func112 (by kernel_rfl) rfl #[.int .i64 a0_1, .int .i64 0, .int .i64 1] rfl la_ ?_; (with_reducible refine (impl_isIn.calls a0_1 0 1 false _ A4.out).mono ?_); rintro e w' ⟨rfl, ⟨nd, rfl⟩⟩; refine ⟨_, rfl, ?_⟩))
   go_meet
   case rel => exact ⟨_, (true), eqq_, H', ⟨by first | omega | exact Nat.le_refl _⟩, ⟨qK BK470⟩, ⟨qB HB⟩⟩
 case rest =>
  clear HC2
  try clear c1
  try clear p2
  try clear c4
  try clear c5
  (try clear z7_0 z7_1 z7_2 z7_3 z7_4 z7_5 z7_6 z7_7)
  (try clear z8_0 z8_1 z8_2 z8_3 z8_4 z8_5 z8_6 z8_7)
  (try clear f7_0 f7_1 f7_2 f7_3 f7_4 f7_5 f7_6 f7_7)
  (try clear f8_0 f8_1 f8_2 f8_3 f8_4 f8_5 f8_6 f8_7)
  obtain ⟨kq, x14_1, rfl, HA, HJ1, BK470, HB⟩ := hcut
  cases kq with
  | zero => exact absurd HA.out (by simp [impl_CtlOk.j0])
  | succ kj1 =>
   have H := HA.out
   clear HA
   simp only [impl_CtlOk.j0] at H
   by_cases c9 : x14_1 = true
   ·
    subst c9
    rw [if_pos rfl] at H
    obtain rfl := Option.some.inj H
    go_wp2
    go_ret
    exact ⟨by first | rfl | (simp [errW_none, errW_some] <;> rfl) | (simp [*, errW_none, errW_some] <;> rfl), qB HB⟩
   ·
    replace c9 := Bool.eq_false_iff.mpr c9
    subst c9
    rw [if_neg (show ¬ (false = true) by decide)] at H
    by_cases c10 : a0_0 = 1
    ·
     rw [if_pos c10] at H
     have c10b0 : (a0_0 == 1) = true := beq_iff_eq.mpr c10
     have c10b1 : (a0_0 != 1) = false := bne_eq_false_iff_eq.mpr c10
     clear c10
     have H' := Aside0.mk H
     clear H
     obtain ⟨z11_0, z11_1, z11_2, z11_3, z11_4, z11_5, z11_6, z11_7⟩ := cz8 BK470.out
     obtain ⟨f11_0, f11_1, f11_2, f11_3, f11_4, f11_5, f11_6, f11_7⟩ := fz8 BK470.out
     go_wp2
     go_loopg [22] kj1 (fun kq v22 w' => ∃ (x22_2 : Int), v22 = .int .i64 x22_2 ∧ Aside0 (impl_CtlOk.l0 kq l0_7 (l0_7.length : Int) x22_2 a0_0 a0_1 a0_2 a0_3 a0_4 a0_5 a0_6 l0_7 = some r) ∧ Aside0 (kq ≤ kj1) ∧ Aside0 (w'.heap[gb470]? = some (.cells #[.int .i64 a0_0, .int .i64 a0_1, .int .i64 a0_2, .int .i64 a0_3, .int .i64 a0_4, .bool a0_5, .int .i64 a0_6, (.slice A0_7 l0_7.length c0_7)] 86 (0, 0))) ∧ Aside0 (Below w.heap.size w w'))
     case atStart => exact ⟨(0), eqq_, H', ⟨Nat.le_refl _⟩, ⟨qK BK470⟩, ⟨qB HB⟩⟩
     case round =>
      clear H'
      try clear c1
      try clear p2
      try clear c4
      try clear c5
      try clear c9
      try clear c10
      try clear c10b0
      try clear c10b1
      try clear c11
      (try clear z11_0 z11_1 z11_2 z11_3 z11_4 z11_5 z11_6 z11_7)
      (try clear z7_0 z7_1 z7_2 z7_3 z7_4 z7_5 z7_6 z7_7)
      (try clear z8_0 z8_1 z8_2 z8_3 z8_4 z8_5 z8_6 z8_7)
      (try clear f11_0 f11_1 f11_2 f11_3 f11_4 f11_5 f11_6 f11_7)
      (try clear f7_0 f7_1 f7_2 f7_3 f7_4 f7_5 f7_6 f7_7)
      (try clear f8_0 f8_1 f8_2 f8_3 f8_4 f8_5 f8_6 f8_7)
      try clear p2
      obtain ⟨x22_2, rfl, HA, HK2, BK470, HB⟩ := hrel
      cases gk with
      | zero => exact absurd HA.out (by simp [impl_CtlOk.l0])
      | succ k2 =>
       have H := HA.out
       clear HA
       simp only [impl_CtlOk.l0] at H
       by_cases c12 : x22_2 < (l0_7.length : Int)
       ·
        rw [if_pos c12] at H
        have c12b0 : decide (x22_2 < (l0_7.length : Int)) = true := decide_eq_true c12
        clear c12
        by_cases c13 : 0 ≤ x22_2
        ·
         rw [if_pos c13] at H
         have c13b0 : decide (0 ≤ x22_2) = true := decide_eq_true c13
         clear c13
         by_cases c14 : x22_2 < (l0_7.length : Int)
         ·
          rw [if_pos c14] at H
          have c14b0 : decide (x22_2 < (l0_7.length : Int)) = true := decide_eq_true c14
          clear c14
          obtain ⟨t475, A15, H⟩ := bd_ H
          have HC16 := Aside0.mk H
          clear H
          have p473 : 0 ≤ (x22_2 : Int) := od_
          have q473 : x22_2 < (l0_7.length : Int) := od_
          obtain ⟨ad473, e473, hx473_0, hx473_1, hx473_2, hx473_3, hx473_4, hx473_5, hx473_6, hx473_7, hx473_8, hx473_9, hx473_10, hx473_11, hx473_12, hx473_13, hx473_14, hx473_15⟩ := at_T48 HR0_7.out x22_2 p473 q473
          cases e473
          replace hx473_0 := lb_ HB hx473_0
          replace hx473_1 := lb_ HB hx473_1
          replace hx473_2 := lb_ HB hx473_2
          replace hx473_3 := lb_ HB hx473_3
          replace hx473_4 := lb_ HB hx473_4
          replace hx473_5 := lb_ HB hx473_5
          replace hx473_6 := lb_ HB hx473_6
          replace hx473_7 := lb_ HB hx473_7
          replace hx473_8 := lb_ HB hx473_8
          replace hx473_9 := lb_ HB hx473_9
          replace hx473_10 := lb_ HB hx473_10
          replace hx473_11 := lb_ HB hx473_11
          replace hx473_12 := lb_ HB hx473_12
          replace hx473_13 := lb_ HB hx473_13
          replace hx473_14 := lb_ HB hx473_14
          replace hx473_15 := lb_ HB hx473_15
          replace p473 := eq_true p473
          replace q473 := eq_true q473
          go_upto_if 29 with (first | ((with_reducible refine gate_dst (N := 4) rfl ?_); (try (refine gate_guard (by rfl) ?_; dsimp only)); refine box_event ?hg (N := 4) ?hd (cs := #[.int .i64 0, .int .i64 0, .string (⟨#[]⟩ : ByteArray), .int .i64 0, .int .i64 0, .int .i64 0, .string (⟨#[]⟩ : ByteArray), .int .i64 0, .int .i64 0, .int .i64 0, .string (⟨#[]⟩ : ByteArray), .int .i64 0, .int .i64 0, .int .i64 0, .int .i64 0, .int .i64 0]) (t := 48) ?hr ?_; (case hd => rfl); (case hg => rfl); (case hr => first | (go_simp; done) | (go_simp; rfl)); intro gb474 hg w17 hbox hb; have BK474 := am_ (hbox); have GW474 := am_ ((gG_ hg (qB HB))); have IGW474 := gI_ GW474; have GE474 := am_ ((gG_ hg (qB HB))); have IGE474 := gI_ GE474; replace HB := am_ (below_step (qB HB) hb); have NB470_474 := am_ ((gN_ hg (qK BK470))); have NB474_470 := am_ ((gM_ hg (qK BK470))); replace BK470 := am_ (blk_below (qK BK470) hb); clear hb hbox hg; have hnb18 := NB474_470.out; have hnc18 := NB470_474.out; obtain ⟨z19_0, z19_1, z19_2, z19_3, z19_4, z19_5, z19_6, z19_7, z19_8, z19_9, z19_10, z19_11, z19_12, z19_13, z19_14, z19_15⟩ := cz16 BK474.out; obtain ⟨f19_0, f19_1, f19_2, f19_3, f19_4, f19_5, f19_6, f19_7, f19_8, f19_9, f19_10, f19_11, f19_12, f19_13, f19_14, f19_15⟩ := fz16 BK474.out) | ((with_reducible refine gate_callee (f := 27) rfl ?_); refine goesL_ (some 27) rfl rfl Try.func27 (by kernel_rfl) rfl #[.agg #[.int .i64 ((rd_T48 l0_7 x22_2).f0), .int .i64 ((rd_T48 l0_7 x22_2).f1.f0), .string ((rd_T48 l0_7 x22_2).f1.f1), .int .i64 ((rd_T48 l0_7 x22_2).f1.f2), .int .i64 ((rd_T48 l0_7 x22_2).f1.f3), .int .i64 ((rd_T48 l0_7 x22_2).f1.f4), .string ((rd_T48 l0_7 x22_2).f1.f5), .int .i64 ((rd_T48 l0_7 x22_2).f1.f6), .int .i64 ((rd_T48 l0_7 x22_2).f1.f7), .int .i64 ((rd_T48 l0_7 x22_2).f2.f0), .string ((rd_T48 l0_7 x22_2).f2.f1), .int .i64 ((rd_T48 l0_7 x22_2).f2.f2), .int .i64 ((rd_T48 l0_7 x22_2).f2.f3), .int .i64 ((rd_T48 l0_7 x22_2).f2.f4), .int .i64 ((rd_T48 l0_7 x22_2).f2.f5), .int .i64 ((rd_T48 l0_7 x22_2).f2.f6)]] rfl la_ ?_; (with_reducible refine (impl_PutItem.calls k2 ((rd_T48 l0_7 x22_2).f0) ((rd_T48 l0_7 x22_2).f1.f0) ((rd_T48 l0_7 x22_2).f1.f1) ((rd_T48 l0_7 x22_2).f1.f2) ((rd_T48 l0_7 x22_2).f1.f3) ((rd_T48 l0_7 x22_2).f1.f4) ((rd_T48 l0_7 x22_2).f1.f5) ((rd_T48 l0_7 x22_2).f1.f6) ((rd_T48 l0_7 x22_2).f1.f7) ((rd_T48 l0_7 x22_2).f2.f0) ((rd_T48 l0_7 x22_2).f2.f1) ((rd_T48 l0_7 x22_2).f2.f2) ((rd_T48 l0_7 x22_2).f2.f3) ((rd_T48 l0_7 x22_2).f2.f4) ((rd_T48 l0_7 x22_2).f2.f5) ((rd_T48 l0_7 x22_2).f2.f6) t475 _ A15.out).mono ?_); rintro e w20 ⟨v476, rfl, ho0, hb⟩; refine ⟨_, rfl, ?_⟩; have HO477 := am_ (Kd.R_lower ho0 (below_size (qB HB))); replace BK470 := am_ (blk_below (g := gb470) (o := .cells #[.int .i64 a0_0, .int .i64 a0_1, .int .i64 a0_2, .int .i64 a0_3, .int .i64 a0_4, .bool a0_5, .int .i64 a0_6, .slice (some ad473) l0_7.length c0_7] 86 (0, 0)) (by (with_reducible repeat (first | refine blk_drewN ?_ _ | refine blk_drew ?_ | refine blk_alloc ?_ _)); refine Go.Proofs.YtahfemlfdpbkkaaV.blk_far16 ?_ NB470_474.out; (with_reducible repeat (first | refine blk_drewN ?_ _ | refine blk_drew ?_ | refine blk_alloc ?_ _)); exact BK470.out) hb); replace BK474 := am_ (blk_below (g := gb474) (o := .cells #[.int .i64 ((rd_T48 l0_7 x22_2).f0), .int .i64 ((rd_T48 l0_7 x22_2).f1.f0), .string ((rd_T48 l0_7 x22_2).f1.f1), .int .i64 ((rd_T48 l0_7 x22_2).f1.f2), .int .i64 ((rd_T48 l0_7 x22_2).f1.f3), .int .i64 ((rd_T48 l0_7 x22_2).f1.f4), .string ((rd_T48 l0_7 x22_2).f1.f5), .int .i64 ((rd_T48 l0_7 x22_2).f1.f6), .int .i64 ((rd_T48 l0_7 x22_2).f1.f7), .int .i64 ((rd_T48 l0_7 x22_2).f2.f0), .string ((rd_T48 l0_7 x22_2).f2.f1), .int .i64 ((rd_T48 l0_7 x22_2).f2.f2), .int .i64 ((rd_T48 l0_7 x22_2).f2.f3), .int .i64 ((rd_T48 l0_7 x22_2).f2.f4), .int .i64 ((rd_T48 l0_7 x22_2).f2.f5), .int .i64 ((rd_T48 l0_7 x22_2).f2.f6)] 48 (0, 0)) (by (with_reducible repeat (first | refine blk_drewN ?_ _ | refine blk_drew ?_ | refine blk_alloc ?_ _)); refine Go.Proofs.YtahfemlfdpbkkaaV.blk_all16 (show _ = some (Go.Obj.cells #[.int .i64 0, .int .i64 0, .string (⟨#[]⟩ : ByteArray), .int .i64 0, .int .i64 0, .int .i64 0, .string (⟨#[]⟩ : ByteArray), .int .i64 0, .int .i64 0, .int .i64 0, .string (⟨#[]⟩ : ByteArray), .int .i64 0, .int .i64 0, .int .i64 0, .int .i64 0, .int .i64 0] _ (0, 0)) from ?_); (with_reducible repeat (first | refine blk_drewN ?_ _ | refine blk_drew ?_ | refine blk_alloc ?_ _)); exact BK474.out) hb); replace HB := am_ (below_step (qB HB) hb); (try clear hb); (try clear hb2); (try clear hk); (try clear hi); (try clear ho0); obtain ⟨Ao21, co21, eo21⟩ := Kd.R_slice HO477.out; subst eo21))
          (try simp only [Act.put, List.setIfInBounds_toArray, List.set_cons_zero, List.set_cons_succ])
          have H := HC16.out
          clear HC16
          by_cases c22 : (t475.length : Int) = 0
          ·
           rw [if_pos c22] at H
           have c22b0 : ((t475.length : Int) == 0) = true := beq_iff_eq.mpr c22
           have c22b1 : ((t475.length : Int) != 0) = false := bne_eq_false_iff_eq.mpr c22
           clear c22
           (first | rw [c22b0] | rw [c22b1] | (simp only [i64_w, i32_w]; rw [c22b0]) | skip)
           obtain rfl := Option.some.inj H
           go_wp2
           go_ret
           exact ⟨by first | rfl | (simp [errW_none, errW_some] <;> rfl) | (simp [*, errW_none, errW_some] <;> rfl), qB HB⟩
          ·
           rw [if_neg c22] at H
           have c22b0 : ((t475.length : Int) == 0) = false := beq_eq_false_iff_ne.mpr c22
           have c22b1 : ((t475.length : Int) != 0) = true := bne_iff_ne.mpr c22
           have c22b2 : ¬ (t475 = []) := fun h_ => c22 (by rw [h_]; rfl)
           (first | rw [c22b0] | rw [c22b1] | rw [c22b2] | (simp only [i64_w, i32_w]; rw [c22b0]) | skip)
           have H' := Aside0.mk H
           clear H
           go_wp2
           go_roundg k2
           case measure => have := HJ1.out; have := HK2.out; omega
           case rel => exact ⟨(wrap64 (x22_2 + 1)), eqq_, H', ⟨by have := HJ1.out; have := HK2.out; omega⟩, ⟨qK BK470⟩, ⟨qB HB⟩⟩
         ·
          rw [if_neg c14] at H
          exact absurd H (by simp)
        ·
         rw [if_neg c13] at H
         exact absurd H (by simp)
       ·
        rw [if_neg c12] at H
        have c12b0 : decide (x22_2 < (l0_7.length : Int)) = false := decide_eq_false c12
        clear c12
        obtain ⟨t478, A23, H⟩ := bd_ H
        by_cases c24 : t478 = true
        ·
         subst c24
         rw [if_pos rfl] at H
         obtain ⟨t479, A25, H⟩ := bd_ H
         by_cases c26 : t479 = true
         ·
          subst c26
          rw [if_pos rfl] at H
          obtain ⟨t480, A27, H⟩ := bd_ H
          by_cases c28 : t480 = true
          ·
           subst c28
           rw [if_pos rfl] at H
           obtain rfl := Option.some.inj H
           obtain ⟨z29_0, z29_1, z29_2, z29_3, z29_4, z29_5, z29_6, z29_7⟩ := cz8 BK470.out
           obtain ⟨f29_0, f29_1, f29_2, f29_3, f29_4, f29_5, f29_6, f29_7⟩ := fz8 BK470.out
           go_wp2_with (first | ((with_reducible refine gate_callee (f := 112) rfl ?_); refine goesL_ (some 33) rfl rfl Try.func112 (by kernel_rfl) rfl #[.int .i64 a0_4, .int .i64 1, .int .i64 20] rfl la_ ?_; (with_reducible refine (impl_isIn.calls a0_4 1 20 true _ A23.out).mono ?_); rintro e w' ⟨rfl, ⟨nd, rfl⟩⟩; refine ⟨_, rfl, ?_⟩) | (go_at_call 112; (with_reducible refine (impl_isIn.calls a0_3 0 (wrap64 (a0_4 - 1)) true _ A25.out).mono ?_); rintro e w' ⟨rfl, ⟨nd, rfl⟩⟩) | (go_at_call 80; (with_reducible refine (impl_wordOk.calls a0_6 true _ A27.out).mono ?_); rintro e w' ⟨rfl, ⟨nd, rfl⟩⟩))
           go_ret
           exact ⟨by first | rfl | (simp [errW_none, errW_some] <;> rfl) | (simp [*, errW_none, errW_some] <;> rfl), qB HB⟩
          ·
           replace c28 := Bool.eq_false_iff.mpr c28
           subst c28
           rw [if_neg (show ¬ (false = true) by decide)] at H
           obtain rfl := Option.some.inj H
           obtain ⟨z30_0, z30_1, z30_2, z30_3, z30_4, z30_5, z30_6, z30_7⟩ := cz8 BK470.out
           obtain ⟨f30_0, f30_1, f30_2, f30_3, f30_4, f30_5, f30_6, f30_7⟩ := fz8 BK470.out
           go_wp2_with (first | ((with_reducible refine gate_callee (f := 112) rfl ?_); refine goesL_ (some 33) rfl rfl Try.func112 (by kernel_rfl) rfl #[.int .i64 a0_4, .int .i64 1, .int .i64 20] rfl la_ ?_; (with_reducible refine (impl_isIn.calls a0_4 1 20 true _ A23.out).mono ?_); rintro e w' ⟨rfl, ⟨nd, rfl⟩⟩; refine ⟨_, rfl, ?_⟩) | (go_at_call 112; (with_reducible refine (impl_isIn.calls a0_3 0 (wrap64 (a0_4 - 1)) true _ A25.out).mono ?_); rintro e w' ⟨rfl, ⟨nd, rfl⟩⟩) | (go_at_call 80; (with_reducible refine (impl_wordOk.calls a0_6 false _ A27.out).mono ?_); rintro e w' ⟨rfl, ⟨nd, rfl⟩⟩))
           go_ret
           exact ⟨by first | rfl | (simp [errW_none, errW_some] <;> rfl) | (simp [*, errW_none, errW_some] <;> rfl), qB HB⟩
         ·
          replace c26 := Bool.eq_false_iff.mpr c26
          subst c26
          rw [if_neg (show ¬ (false = true) by decide)] at H
          obtain rfl := Option.some.inj H
          obtain ⟨z31_0, z31_1, z31_2, z31_3, z31_4, z31_5, z31_6, z31_7⟩ := cz8 BK470.out
          obtain ⟨f31_0, f31_1, f31_2, f31_3, f31_4, f31_5, f31_6, f31_7⟩ := fz8 BK470.out
          go_wp2_with (first | ((with_reducible refine gate_callee (f := 112) rfl ?_); refine goesL_ (some 33) rfl rfl Try.func112 (by kernel_rfl) rfl #[.int .i64 a0_4, .int .i64 1, .int .i64 20] rfl la_ ?_; (with_reducible refine (impl_isIn.calls a0_4 1 20 true _ A23.out).mono ?_); rintro e w' ⟨rfl, ⟨nd, rfl⟩⟩; refine ⟨_, rfl, ?_⟩) | (go_at_call 112; (with_reducible refine (impl_isIn.calls a0_3 0 (wrap64 (a0_4 - 1)) false _ A25.out).mono ?_); rintro e w' ⟨rfl, ⟨nd, rfl⟩⟩))
          go_ret
          exact ⟨by first | rfl | (simp [errW_none, errW_some] <;> rfl) | (simp [*, errW_none, errW_some] <;> rfl), qB HB⟩
        ·
         replace c24 := Bool.eq_false_iff.mpr c24
         subst c24
         rw [if_neg (show ¬ (false = true) by decide)] at H
         obtain rfl := Option.some.inj H
         obtain ⟨z32_0, z32_1, z32_2, z32_3, z32_4, z32_5, z32_6, z32_7⟩ := cz8 BK470.out
         obtain ⟨f32_0, f32_1, f32_2, f32_3, f32_4, f32_5, f32_6, f32_7⟩ := fz8 BK470.out
         go_wp2_with (first | ((with_reducible refine gate_callee (f := 112) rfl ?_); refine goesL_ (some 33) rfl rfl Try.func112 (by kernel_rfl) rfl #[.int .i64 a0_4, .int .i64 1, .int .i64 20] rfl la_ ?_; (with_reducible refine (impl_isIn.calls a0_4 1 20 false _ A23.out).mono ?_); rintro e w' ⟨rfl, ⟨nd, rfl⟩⟩; refine ⟨_, rfl, ?_⟩))
         go_ret
         exact ⟨by first | rfl | (simp [errW_none, errW_some] <;> rfl) | (simp [*, errW_none, errW_some] <;> rfl), qB HB⟩
    ·
     rw [if_neg c10] at H
     have c10b0 : (a0_0 == 1) = false := beq_eq_false_iff_ne.mpr c10
     have c10b1 : (a0_0 != 1) = true := bne_iff_ne.mpr c10
     by_cases c33 : a0_0 = 2
     ·
      rw [if_pos c33] at H
      have c33b0 : (a0_0 == 2) = true := beq_iff_eq.mpr c33
      have c33b1 : (a0_0 != 2) = false := bne_eq_false_iff_eq.mpr c33
      clear c33
      obtain ⟨t481, A34, H⟩ := bd_ H
      by_cases c35 : t481 = true
      ·
       subst c35
       rw [if_pos rfl] at H
       by_cases c36 : a0_4 = 0
       ·
        rw [if_pos c36] at H
        have c36b0 : (a0_4 == 0) = true := beq_iff_eq.mpr c36
        have c36b1 : (a0_4 != 0) = false := bne_eq_false_iff_eq.mpr c36
        clear c36
        by_cases c37 : a0_5 = true
        ·
         subst c37
         rw [if_pos rfl] at H
         obtain rfl := Option.some.inj H
         obtain ⟨z38_0, z38_1, z38_2, z38_3, z38_4, z38_5, z38_6, z38_7⟩ := cz8 BK470.out
         obtain ⟨f38_0, f38_1, f38_2, f38_3, f38_4, f38_5, f38_6, f38_7⟩ := fz8 BK470.out
         go_wp2_with (first | ((with_reducible refine gate_callee (f := 112) rfl ?_); refine goesL_ (some 58) rfl rfl Try.func112 (by kernel_rfl) rfl #[.int .i64 a0_3, .int .i64 0, .int .i64 20] rfl la_ ?_; (with_reducible refine (impl_isIn.calls a0_3 0 20 true _ A34.out).mono ?_); rintro e w' ⟨rfl, ⟨nd, rfl⟩⟩; refine ⟨_, rfl, ?_⟩))
         go_ret
         exact ⟨by first | rfl | (simp [errW_none, errW_some] <;> rfl) | (simp [*, errW_none, errW_some] <;> rfl), qB HB⟩
        ·
         replace c37 := Bool.eq_false_iff.mpr c37
         subst c37
         rw [if_neg (show ¬ (false = true) by decide)] at H
         by_cases c39 : a0_6 = 0
         ·
          rw [if_pos c39] at H
          have c39b0 : (a0_6 == 0) = true := beq_iff_eq.mpr c39
          have c39b1 : (a0_6 != 0) = false := bne_eq_false_iff_eq.mpr c39
          clear c39
          obtain rfl := Option.some.inj H
          obtain ⟨z40_0, z40_1, z40_2, z40_3, z40_4, z40_5, z40_6, z40_7⟩ := cz8 BK470.out
          obtain ⟨f40_0, f40_1, f40_2, f40_3, f40_4, f40_5, f40_6, f40_7⟩ := fz8 BK470.out
          go_wp2_with (first | ((with_reducible refine gate_callee (f := 112) rfl ?_); refine goesL_ (some 58) rfl rfl Try.func112 (by kernel_rfl) rfl #[.int .i64 a0_3, .int .i64 0, .int .i64 20] rfl la_ ?_; (with_reducible refine (impl_isIn.calls a0_3 0 20 true _ A34.out).mono ?_); rintro e w' ⟨rfl, ⟨nd, rfl⟩⟩; refine ⟨_, rfl, ?_⟩))
          go_ret
          exact ⟨by first | rfl | (simp [errW_none, errW_some] <;> rfl) | (simp [*, errW_none, errW_some] <;> rfl), qB HB⟩
         ·
          rw [if_neg c39] at H
          have c39b0 : (a0_6 == 0) = false := beq_eq_false_iff_ne.mpr c39
          have c39b1 : (a0_6 != 0) = true := bne_iff_ne.mpr c39
          obtain rfl := Option.some.inj H
          obtain ⟨z41_0, z41_1, z41_2, z41_3, z41_4, z41_5, z41_6, z41_7⟩ := cz8 BK470.out
          obtain ⟨f41_0, f41_1, f41_2, f41_3, f41_4, f41_5, f41_6, f41_7⟩ := fz8 BK470.out
          go_wp2_with (first | ((with_reducible refine gate_callee (f := 112) rfl ?_); refine goesL_ (some 58) rfl rfl Try.func112 (by kernel_rfl) rfl #[.int .i64 a0_3, .int .i64 0, .int .i64 20] rfl la_ ?_; (with_reducible refine (impl_isIn.calls a0_3 0 20 true _ A34.out).mono ?_); rintro e w' ⟨rfl, ⟨nd, rfl⟩⟩; refine ⟨_, rfl, ?_⟩))
          go_ret
          exact ⟨by first | rfl | (simp [errW_none, errW_some] <;> rfl) | (simp [*, errW_none, errW_some] <;> rfl), qB HB⟩
       ·
        rw [if_neg c36] at H
        have c36b0 : (a0_4 == 0) = false := beq_eq_false_iff_ne.mpr c36
        have c36b1 : (a0_4 != 0) = true := bne_iff_ne.mpr c36
        obtain rfl := Option.some.inj H
        obtain ⟨z42_0, z42_1, z42_2, z42_3, z42_4, z42_5, z42_6, z42_7⟩ := cz8 BK470.out
        obtain ⟨f42_0, f42_1, f42_2, f42_3, f42_4, f42_5, f42_6, f42_7⟩ := fz8 BK470.out
        go_wp2_with (first | ((with_reducible refine gate_callee (f := 112) rfl ?_); refine goesL_ (some 58) rfl rfl Try.func112 (by kernel_rfl) rfl #[.int .i64 a0_3, .int .i64 0, .int .i64 20] rfl la_ ?_; (with_reducible refine (impl_isIn.calls a0_3 0 20 true _ A34.out).mono ?_); rintro e w' ⟨rfl, ⟨nd, rfl⟩⟩; refine ⟨_, rfl, ?_⟩))
        go_ret
        exact ⟨by first | rfl | (simp [errW_none, errW_some] <;> rfl) | (simp [*, errW_none, errW_some] <;> rfl), qB HB⟩
      ·
       replace c35 := Bool.eq_false_iff.mpr c35
       subst c35
       rw [if_neg (show ¬ (false = true) by decide)] at H
       obtain rfl := Option.some.inj H
       obtain ⟨z43_0, z43_1, z43_2, z43_3, z43_4, z43_5, z43_6, z43_7⟩ := cz8 BK470.out
       obtain ⟨f43_0, f43_1, f43_2, f43_3, f43_4, f43_5, f43_6, f43_7⟩ := fz8 BK470.out
       go_wp2_with (first | ((with_reducible refine gate_callee (f := 112) rfl ?_); refine goesL_ (some 58) rfl rfl Try.func112 (by kernel_rfl) rfl #[.int .i64 a0_3, .int .i64 0, .int .i64 20] rfl la_ ?_; (with_reducible refine (impl_isIn.calls a0_3 0 20 false _ A34.out).mono ?_); rintro e w' ⟨rfl, ⟨nd, rfl⟩⟩; refine ⟨_, rfl, ?_⟩))
       go_ret
       exact ⟨by first | rfl | (simp [errW_none, errW_some] <;> rfl) | (simp [*, errW_none, errW_some] <;> rfl), qB HB⟩
     ·
      rw [if_neg c33] at H
      have c33b0 : (a0_0 == 2) = false := beq_eq_false_iff_ne.mpr c33
      have c33b1 : (a0_0 != 2) = true := bne_iff_ne.mpr c33
      by_cases c44 : a0_0 = 3
      ·
       rw [if_pos c44] at H
       have c44b0 : (a0_0 == 3) = true := beq_iff_eq.mpr c44
       have c44b1 : (a0_0 != 3) = false := bne_eq_false_iff_eq.mpr c44
       clear c44
       obtain ⟨t482, A45, H⟩ := bd_ H
       by_cases c46 : t482 = true
       ·
        subst c46
        rw [if_pos rfl] at H
        by_cases c47 : a0_3 = 0
        ·
         rw [if_pos c47] at H
         have c47b0 : (a0_3 == 0) = true := beq_iff_eq.mpr c47
         have c47b1 : (a0_3 != 0) = false := bne_eq_false_iff_eq.mpr c47
         clear c47
         by_cases c48 : a0_4 = 0
         ·
          rw [if_pos c48] at H
          have c48b0 : (a0_4 == 0) = true := beq_iff_eq.mpr c48
          have c48b1 : (a0_4 != 0) = false := bne_eq_false_iff_eq.mpr c48
          clear c48
          by_cases c49 : a0_5 = true
          ·
           subst c49
           rw [if_pos rfl] at H
           obtain rfl := Option.some.inj H
           obtain ⟨z50_0, z50_1, z50_2, z50_3, z50_4, z50_5, z50_6, z50_7⟩ := cz8 BK470.out
           obtain ⟨f50_0, f50_1, f50_2, f50_3, f50_4, f50_5, f50_6, f50_7⟩ := fz8 BK470.out
           go_wp2_with (first | ((with_reducible refine gate_callee (f := 112) rfl ?_); refine goesL_ (some 58) rfl rfl Try.func112 (by kernel_rfl) rfl #[.int .i64 a0_3, .int .i64 0, .int .i64 20] rfl la_ ?_; (with_reducible refine (impl_isIn.calls a0_3 0 20 true _ A45.out).mono ?_); rintro e w' ⟨rfl, ⟨nd, rfl⟩⟩; refine ⟨_, rfl, ?_⟩))
           go_ret
           exact ⟨by first | rfl | (simp [errW_none, errW_some] <;> rfl) | (simp [*, errW_none, errW_some] <;> rfl), qB HB⟩
          ·
           replace c49 := Bool.eq_false_iff.mpr c49
           subst c49
           rw [if_neg (show ¬ (false = true) by decide)] at H
           by_cases c51 : a0_6 = 0
           ·
            rw [if_pos c51] at H
            have c51b0 : (a0_6 == 0) = true := beq_iff_eq.mpr c51
            have c51b1 : (a0_6 != 0) = false := bne_eq_false_iff_eq.mpr c51
            clear c51
            obtain rfl := Option.some.inj H
            obtain ⟨z52_0, z52_1, z52_2, z52_3, z52_4, z52_5, z52_6, z52_7⟩ := cz8 BK470.out
            obtain ⟨f52_0, f52_1, f52_2, f52_3, f52_4, f52_5, f52_6, f52_7⟩ := fz8 BK470.out
            go_wp2_with (first | ((with_reducible refine gate_callee (f := 112) rfl ?_); refine goesL_ (some 58) rfl rfl Try.func112 (by kernel_rfl) rfl #[.int .i64 a0_3, .int .i64 0, .int .i64 20] rfl la_ ?_; (with_reducible refine (impl_isIn.calls a0_3 0 20 true _ A45.out).mono ?_); rintro e w' ⟨rfl, ⟨nd, rfl⟩⟩; refine ⟨_, rfl, ?_⟩))
            go_ret
            exact ⟨by first | rfl | (simp [errW_none, errW_some] <;> rfl) | (simp [*, errW_none, errW_some] <;> rfl), qB HB⟩
           ·
            rw [if_neg c51] at H
            have c51b0 : (a0_6 == 0) = false := beq_eq_false_iff_ne.mpr c51
            have c51b1 : (a0_6 != 0) = true := bne_iff_ne.mpr c51
            obtain rfl := Option.some.inj H
            obtain ⟨z53_0, z53_1, z53_2, z53_3, z53_4, z53_5, z53_6, z53_7⟩ := cz8 BK470.out
            obtain ⟨f53_0, f53_1, f53_2, f53_3, f53_4, f53_5, f53_6, f53_7⟩ := fz8 BK470.out
            go_wp2_with (first | ((with_reducible refine gate_callee (f := 112) rfl ?_); refine goesL_ (some 58) rfl rfl Try.func112 (by kernel_rfl) rfl #[.int .i64 a0_3, .int .i64 0, .int .i64 20] rfl la_ ?_; (with_reducible refine (impl_isIn.calls a0_3 0 20 true _ A45.out).mono ?_); rintro e w' ⟨rfl, ⟨nd, rfl⟩⟩; refine ⟨_, rfl, ?_⟩))
            go_ret
            exact ⟨by first | rfl | (simp [errW_none, errW_some] <;> rfl) | (simp [*, errW_none, errW_some] <;> rfl), qB HB⟩
         ·
          rw [if_neg c48] at H
          have c48b0 : (a0_4 == 0) = false := beq_eq_false_iff_ne.mpr c48
          have c48b1 : (a0_4 != 0) = true := bne_iff_ne.mpr c48
          obtain rfl := Option.some.inj H
          obtain ⟨z54_0, z54_1, z54_2, z54_3, z54_4, z54_5, z54_6, z54_7⟩ := cz8 BK470.out
          obtain ⟨f54_0, f54_1, f54_2, f54_3, f54_4, f54_5, f54_6, f54_7⟩ := fz8 BK470.out
          go_wp2_with (first | ((with_reducible refine gate_callee (f := 112) rfl ?_); refine goesL_ (some 58) rfl rfl Try.func112 (by kernel_rfl) rfl #[.int .i64 a0_3, .int .i64 0, .int .i64 20] rfl la_ ?_; (with_reducible refine (impl_isIn.calls a0_3 0 20 true _ A45.out).mono ?_); rintro e w' ⟨rfl, ⟨nd, rfl⟩⟩; refine ⟨_, rfl, ?_⟩))
          go_ret
          exact ⟨by first | rfl | (simp [errW_none, errW_some] <;> rfl) | (simp [*, errW_none, errW_some] <;> rfl), qB HB⟩
        ·
         rw [if_neg c47] at H
         have c47b0 : (a0_3 == 0) = false := beq_eq_false_iff_ne.mpr c47
         have c47b1 : (a0_3 != 0) = true := bne_iff_ne.mpr c47
         obtain rfl := Option.some.inj H
         obtain ⟨z55_0, z55_1, z55_2, z55_3, z55_4, z55_5, z55_6, z55_7⟩ := cz8 BK470.out
         obtain ⟨f55_0, f55_1, f55_2, f55_3, f55_4, f55_5, f55_6, f55_7⟩ := fz8 BK470.out
         go_wp2_with (first | ((with_reducible refine gate_callee (f := 112) rfl ?_); refine goesL_ (some 58) rfl rfl Try.func112 (by kernel_rfl) rfl #[.int .i64 a0_3, .int .i64 0, .int .i64 20] rfl la_ ?_; (with_reducible refine (impl_isIn.calls a0_3 0 20 true _ A45.out).mono ?_); rintro e w' ⟨rfl, ⟨nd, rfl⟩⟩; refine ⟨_, rfl, ?_⟩))
         go_ret
         exact ⟨by first | rfl | (simp [errW_none, errW_some] <;> rfl) | (simp [*, errW_none, errW_some] <;> rfl), qB HB⟩
       ·
        replace c46 := Bool.eq_false_iff.mpr c46
        subst c46
        rw [if_neg (show ¬ (false = true) by decide)] at H
        obtain rfl := Option.some.inj H
        obtain ⟨z56_0, z56_1, z56_2, z56_3, z56_4, z56_5, z56_6, z56_7⟩ := cz8 BK470.out
        obtain ⟨f56_0, f56_1, f56_2, f56_3, f56_4, f56_5, f56_6, f56_7⟩ := fz8 BK470.out
        go_wp2_with (first | ((with_reducible refine gate_callee (f := 112) rfl ?_); refine goesL_ (some 58) rfl rfl Try.func112 (by kernel_rfl) rfl #[.int .i64 a0_3, .int .i64 0, .int .i64 20] rfl la_ ?_; (with_reducible refine (impl_isIn.calls a0_3 0 20 false _ A45.out).mono ?_); rintro e w' ⟨rfl, ⟨nd, rfl⟩⟩; refine ⟨_, rfl, ?_⟩))
        go_ret
        exact ⟨by first | rfl | (simp [errW_none, errW_some] <;> rfl) | (simp [*, errW_none, errW_some] <;> rfl), qB HB⟩
      ·
       rw [if_neg c44] at H
       have c44b0 : (a0_0 == 3) = false := beq_eq_false_iff_ne.mpr c44
       have c44b1 : (a0_0 != 3) = true := bne_iff_ne.mpr c44
       obtain rfl := Option.some.inj H
       obtain ⟨z57_0, z57_1, z57_2, z57_3, z57_4, z57_5, z57_6, z57_7⟩ := cz8 BK470.out
       obtain ⟨f57_0, f57_1, f57_2, f57_3, f57_4, f57_5, f57_6, f57_7⟩ := fz8 BK470.out
       go_wp2
       go_ret
       exact ⟨by first | rfl | (simp [errW_none, errW_some] <;> rfl) | (simp [*, errW_none, errW_some] <;> rfl), qB HB⟩

end Go.Proofs.Ytahfemlfdpbkkaa.PFnExactPutCtl
