-- Written by a program of this session (myprint.py, over the kit's print): contracts of FnExactHouseOk
import Derived.Test.YtahfemlfdpbkkaaPFnExactHouseOkx0
import Derived.Test.YtahfemlfdpbkkaaPFnExactHouseOkx16
import Derived.Test.YtahfemlfdpbkkaaPFnExactHouseOkx21
namespace Go.Proofs.Ytahfemlfdpbkkaa.PFnExactHouseOk
open Go.RowKit Go.Proofs.YtahfemlfdpbkkaaW.PrintWords Go.Proofs.YtahfemlfdpbkkaaW.PrintLast Go.Proofs.YtahfemlfdpbkkaaW.PrintMore Go.Proofs.YtahfemlfdpbkkaaV
attribute [local go_sem] max2_int min2_int max_two min_two max_three min_three max_four min_four   -- for this text's walks alone
set_option linter.unusedVariables false
set_option linter.unusedSimpArgs false

/-! ### impl_ConfOk: function 167 -/
def impl_ConfOk.l0 : Nat → List (S125) → List (S125) → Int → Int → Option (Bool)
 | 0, _, _, _, _ => none
 | k + 1, x0, x5, x6, x7 => if x7 < x6 then (if 0 ≤ x7 then (if x7 < (x5.length : Int) then ((impl_nameOk.f k ((rd_T125 x5 x7).f0)).bind fun t336 => (if t336 = true then ((impl_dbPlace.f x0 ((rd_T125 x5 x7).f0)).bind fun t337 => (if t337 = x7 then ((impl_isIn.f ((rd_T125 x5 x7).f1) 1 3).bind fun t338 => (if t338 = true then ((impl_isIn.f ((rd_T125 x5 x7).f2) 0 4).bind fun t339 => (if t339 = true then ((impl_isIn.f ((rd_T125 x5 x7).f3) 1 20).bind fun t340 => (if t340 = true then ((impl_isIn.f ((rd_T125 x5 x7).f4) 1 20).bind fun t341 => (if t341 = true then (impl_ConfOk.l0 k x0 x5 x6 (wrap64 (x7 + 1))) else (some false))) else (some false))) else (some false))) else (some false))) else (some false))) else (some false))) else (none)) else (none)) else ((impl_isIn.f (x0.length : Int) 1 3).bind fun t333 => (some t333))
def impl_ConfOk.f (k : Nat) (l0 : List (S125)) : Option (Bool) := impl_ConfOk.l0 k l0 l0 (l0.length : Int) 0
theorem impl_ConfOk.mono_l : ∀ k, (∀ y0 y1 y2 y3, LeO (impl_ConfOk.l0 k y0 y1 y2 y3) (impl_ConfOk.l0 (k + 1) y0 y1 y2 y3))
 | 0 => fun _ _ _ _ r h => by simp [impl_ConfOk.l0] at h
 | k + 1 => by
  have ih0 := impl_ConfOk.mono_l k
  ·
   intro y0 y1 y2 y3
   unfold impl_ConfOk.l0
   repeat' first
   | (with_reducible exact ih0 _ _ _ _)
   | (with_reducible exact impl_nameOk.mono _ _)
   | (with_reducible exact LeO.refl _)
   | (with_reducible exact LeO.none _)
   | (with_reducible refine LeO.ite ?_ ?_)
   | (with_reducible refine LeO.bind ?_ (fun _ => ?_))
   | exact ih0 _ _ _ _
   | exact impl_nameOk.mono _ _
   | exact LeO.none _
   | refine LeO.ite ?_ ?_
   | refine LeO.bind ?_ (fun _ => ?_)
theorem impl_ConfOk.mono : ∀ a0 k, LeO (impl_ConfOk.f k a0) (impl_ConfOk.f (k + 1) a0) := by
 intro a0 k
 have ih0 := impl_ConfOk.mono_l k
 unfold impl_ConfOk.f
 repeat' first
   | (with_reducible exact ih0 _ _ _ _)
   | (with_reducible exact impl_nameOk.mono _ _)
   | (with_reducible exact LeO.refl _)
   | (with_reducible exact LeO.none _)
   | (with_reducible refine LeO.ite ?_ ?_)
   | (with_reducible refine LeO.bind ?_ (fun _ => ?_))
   | exact ih0 _ _ _ _
   | exact impl_nameOk.mono _ _
   | exact LeO.none _
   | refine LeO.ite ?_ ?_
   | refine LeO.bind ?_ (fun _ => ?_)
set_option maxHeartbeats 8000000 in
set_option maxRecDepth 100000 in
theorem impl_ConfOk.calls (k : Nat) (A0 : Option Addr) (c0 : Nat) (l0 : List (S125)) (r : Bool) (w : World) (hr0 : Kd.C k125 w A0 l0.length l0) (hc0 : l0.length ≤ c0) (h : impl_ConfOk.f k l0 = some r) :
  Calls Try.prog 167 #[.slice A0 l0.length c0] w fun e w' => e = .returned (.bool r) ∧ Below w.heap.size w w' := by
 have hu125 := Try.underlying125
 have HR0 := Aside0.mk hr0
 have HC0 := Aside0.mk hc0
 clear hr0 hc0
 have HB := Aside0.mk (Below.refl w.heap.size w)
 have H : (impl_ConfOk.l0 k l0 l0 (l0.length : Int) 0) = some r := h
 clear h
 have H' := Aside0.mk H
 clear H
 go_enter Try.func167, Try.ntmps167
 go_wp2
 go_loopg [7] k (fun kq v7 w' => ∃ (x7_1 : Int), v7 = .int .i64 x7_1 ∧ Aside0 (impl_ConfOk.l0 kq l0 l0 (l0.length : Int) x7_1 = some r) ∧ Aside0 (kq ≤ k) ∧ Aside0 (Below w.heap.size w w'))
 case atStart => exact ⟨(0), eqq_, H', ⟨Nat.le_refl _⟩, ⟨qB HB⟩⟩
 case round =>
  clear H'
  try clear c1
  obtain ⟨x7_1, rfl, HA, HK1, HB⟩ := hrel
  cases gk with
  | zero => exact absurd HA.out (by simp [impl_ConfOk.l0])
  | succ k1 =>
   have H := HA.out
   clear HA
   simp only [impl_ConfOk.l0] at H
   by_cases c2 : x7_1 < (l0.length : Int)
   ·
    rw [if_pos c2] at H
    have c2b0 : decide (x7_1 < (l0.length : Int)) = true := decide_eq_true c2
    clear c2
    by_cases c3 : 0 ≤ x7_1
    ·
     rw [if_pos c3] at H
     have c3b0 : decide (0 ≤ x7_1) = true := decide_eq_true c3
     clear c3
     by_cases c4 : x7_1 < (l0.length : Int)
     ·
      rw [if_pos c4] at H
      have c4b0 : decide (x7_1 < (l0.length : Int)) = true := decide_eq_true c4
      clear c4
      have HC5 := Aside0.mk H
      clear H
      have p334 : 0 ≤ (x7_1 : Int) := od_
      have q334 : x7_1 < (l0.length : Int) := od_
      obtain ⟨ad334, e334, hx334_0, hx334_1, hx334_2, hx334_3, hx334_4⟩ := at_T125 HR0.out x7_1 p334 q334
      cases e334
      replace hx334_0 := lb_ HB hx334_0
      replace hx334_1 := lb_ HB hx334_1
      replace hx334_2 := lb_ HB hx334_2
      replace hx334_3 := lb_ HB hx334_3
      replace hx334_4 := lb_ HB hx334_4
      replace p334 := eq_true p334
      replace q334 := eq_true q334
      go_upto_region 4 with (first | ((with_reducible refine gate_dst (N := 4) rfl ?_); refine box_event ?hg (N := 4) ?hd (cs := #[.string (⟨#[]⟩ : ByteArray), .int .i64 0, .int .i64 0, .int .i64 0, .int .i64 0]) (t := 125) ?hr ?_; (case hd => rfl); (case hg => rfl); (case hr => first | (go_simp; done) | (go_simp; rfl)); intro gb335 hg w6 hbox hb; have BK335 := am_ (hbox); have GW335 := am_ ((gG_ hg (qB HB))); have IGW335 := gI_ GW335; have GE335 := am_ ((gG_ hg (qB HB))); have IGE335 := gI_ GE335; replace HB := am_ (below_step (qB HB) hb); clear hb hbox hg; obtain ⟨z7_0, z7_1, z7_2, z7_3, z7_4⟩ := cz5 BK335.out; obtain ⟨f7_0, f7_1, f7_2, f7_3, f7_4⟩ := fz5 BK335.out))
      (try simp only [Act.put, List.setIfInBounds_toArray, List.set_cons_zero, List.set_cons_succ])
      have H := HC5.out
      clear HC5
      obtain ⟨t336, A8, H⟩ := bd_ H
      by_cases c9 : t336 = true
      ·
       subst c9
       rw [if_pos rfl] at H
       obtain ⟨t337, A10, H⟩ := bd_ H
       by_cases c11 : t337 = x7_1
       ·
        rw [if_pos c11] at H
        have c11b0 : (t337 == x7_1) = true := beq_iff_eq.mpr c11
        have c11b1 : (t337 != x7_1) = false := bne_eq_false_iff_eq.mpr c11
        clear c11
        obtain ⟨t338, A12, H⟩ := bd_ H
        by_cases c13 : t338 = true
        ·
         subst c13
         rw [if_pos rfl] at H
         obtain ⟨t339, A14, H⟩ := bd_ H
         by_cases c15 : t339 = true
         ·
          subst c15
          rw [if_pos rfl] at H
          obtain ⟨t340, A16, H⟩ := bd_ H
          by_cases c17 : t340 = true
          ·
           subst c17
           rw [if_pos rfl] at H
           obtain ⟨t341, A18, H⟩ := bd_ H
           have HC19 := Aside0.mk H
           clear H
           obtain ⟨z20_0, z20_1, z20_2, z20_3, z20_4⟩ := cz5 BK335.out
           obtain ⟨f20_0, f20_1, f20_2, f20_3, f20_4⟩ := fz5 BK335.out
           go_upto_if 47 with (first | ((with_reducible refine gate_callee (f := 146) rfl ?_); refine goesL_ (some 14) rfl rfl Try.func146 (by kernel_rfl) rfl #[.string ((rd_T125 l0 x7_1).f0)] rfl la_ ?_; (with_reducible refine (impl_nameOk.calls k1 ((rd_T125 l0 x7_1).f0) true _ A8.out).mono ?_); rintro e w' ⟨rfl, ⟨nd, rfl⟩⟩; refine ⟨_, rfl, ?_⟩) | (go_at_call 151; (with_reducible refine (impl_dbPlace.calls _ _ l0 ((rd_T125 l0 x7_1).f0) t337 _ ?side1 ?side2 A10.out).mono ?_); (case side1 => exact Kd.C_below HR0.out (qB HB)); (case side2 => exact HC0.out); rintro e w21 ⟨rfl, hb⟩; replace BK335 := am_ (blk_below (g := gb335) (o := .cells #[.string ((rd_T125 l0 x7_1).f0), .int .i64 ((rd_T125 l0 x7_1).f1), .int .i64 ((rd_T125 l0 x7_1).f2), .int .i64 ((rd_T125 l0 x7_1).f3), .int .i64 ((rd_T125 l0 x7_1).f4)] 125 (0, 0)) (by (with_reducible repeat (first | refine blk_drewN ?_ _ | refine blk_drew ?_ | refine blk_alloc ?_ _)); refine Go.Proofs.YtahfemlfdpbkkaaV.blk_all5 (show _ = some (Go.Obj.cells #[.string (⟨#[]⟩ : ByteArray), .int .i64 0, .int .i64 0, .int .i64 0, .int .i64 0] _ (0, 0)) from ?_); (with_reducible repeat (first | refine blk_drewN ?_ _ | refine blk_drew ?_ | refine blk_alloc ?_ _)); exact BK335.out) hb); replace HB := am_ (below_step (qB HB) hb); (try clear hb); (try clear hb2); (try clear hk); (try clear hi); obtain ⟨z22_0, z22_1, z22_2, z22_3, z22_4⟩ := cz5 BK335.out; obtain ⟨f22_0, f22_1, f22_2, f22_3, f22_4⟩ := fz5 BK335.out) | (go_at_call 112; (with_reducible refine (impl_isIn.calls ((rd_T125 l0 x7_1).f1) 1 3 true _ A12.out).mono ?_); rintro e w' ⟨rfl, ⟨nd, rfl⟩⟩) | (go_at_call 112; (with_reducible refine (impl_isIn.calls ((rd_T125 l0 x7_1).f2) 0 4 true _ A14.out).mono ?_); rintro e w' ⟨rfl, ⟨nd, rfl⟩⟩) | (go_at_call 112; (with_reducible refine (impl_isIn.calls ((rd_T125 l0 x7_1).f3) 1 20 true _ A16.out).mono ?_); rintro e w' ⟨rfl, ⟨nd, rfl⟩⟩) | (go_at_call 112; (with_reducible refine (impl_isIn.calls ((rd_T125 l0 x7_1).f4) 1 20 t341 _ A18.out).mono ?_); rintro e w' ⟨rfl, ⟨nd, rfl⟩⟩))
           (try simp only [Act.put, List.setIfInBounds_toArray, List.set_cons_zero, List.set_cons_succ])
           (try (rw [drewN_self w21]; generalize hq_ : World.drewN w21 _ = w21; have n0_ : Aside0 (w21.heap[gb335]? = some (.cells #[.string ((rd_T125 l0 x7_1).f0), .int .i64 ((rd_T125 l0 x7_1).f1), .int .i64 ((rd_T125 l0 x7_1).f2), .int .i64 ((rd_T125 l0 x7_1).f3), .int .i64 ((rd_T125 l0 x7_1).f4)] 125 (0, 0))) := ⟨by rw [← hq_]; exact (qK BK335)⟩; have n1_ : Aside0 (Below w.heap.size w w21) := ⟨by rw [← hq_]; exact (qB HB)⟩; clear BK335 HB hq_; have BK335 := n0_; have HB := n1_; clear n0_ n1_))
           have H := HC19.out
           clear HC19
           by_cases c23 : t341 = true
           ·
            subst c23
            rw [if_pos rfl] at H
            have H' := Aside0.mk H
            clear H
            go_wp2
            go_roundg k1
            case measure => have := HK1.out; omega
            case rel => exact ⟨(wrap64 (x7_1 + 1)), eqq_, H', ⟨by have := HK1.out; omega⟩, ⟨qB HB⟩⟩
           ·
            replace c23 := Bool.eq_false_iff.mpr c23
            subst c23
            rw [if_neg (show ¬ (false = true) by decide)] at H
            obtain rfl := Option.some.inj H
            go_wp2
            go_ret
            exact ⟨by first | rfl | (simp [errW_none, errW_some] <;> rfl) | (simp [*, errW_none, errW_some] <;> rfl), qB HB⟩
          ·
           replace c17 := Bool.eq_false_iff.mpr c17
           subst c17
           rw [if_neg (show ¬ (false = true) by decide)] at H
           obtain rfl := Option.some.inj H
           obtain ⟨z24_0, z24_1, z24_2, z24_3, z24_4⟩ := cz5 BK335.out
           obtain ⟨f24_0, f24_1, f24_2, f24_3, f24_4⟩ := fz5 BK335.out
           go_wp2_with (first | ((with_reducible refine gate_callee (f := 146) rfl ?_); refine goesL_ (some 14) rfl rfl Try.func146 (by kernel_rfl) rfl #[.string ((rd_T125 l0 x7_1).f0)] rfl la_ ?_; (with_reducible refine (impl_nameOk.calls k1 ((rd_T125 l0 x7_1).f0) true _ A8.out).mono ?_); rintro e w' ⟨rfl, ⟨nd, rfl⟩⟩; refine ⟨_, rfl, ?_⟩) | (go_at_call 151; (with_reducible refine (impl_dbPlace.calls _ _ l0 ((rd_T125 l0 x7_1).f0) t337 _ ?side1 ?side2 A10.out).mono ?_); (case side1 => exact Kd.C_below HR0.out (qB HB)); (case side2 => exact HC0.out); rintro e w25 ⟨rfl, hb⟩; replace BK335 := am_ (blk_below (g := gb335) (o := .cells #[.string ((rd_T125 l0 x7_1).f0), .int .i64 ((rd_T125 l0 x7_1).f1), .int .i64 ((rd_T125 l0 x7_1).f2), .int .i64 ((rd_T125 l0 x7_1).f3), .int .i64 ((rd_T125 l0 x7_1).f4)] 125 (0, 0)) (by (with_reducible repeat (first | refine blk_drewN ?_ _ | refine blk_drew ?_ | refine blk_alloc ?_ _)); refine Go.Proofs.YtahfemlfdpbkkaaV.blk_all5 (show _ = some (Go.Obj.cells #[.string (⟨#[]⟩ : ByteArray), .int .i64 0, .int .i64 0, .int .i64 0, .int .i64 0] _ (0, 0)) from ?_); (with_reducible repeat (first | refine blk_drewN ?_ _ | refine blk_drew ?_ | refine blk_alloc ?_ _)); exact BK335.out) hb); replace HB := am_ (below_step (qB HB) hb); (try clear hb); (try clear hb2); (try clear hk); (try clear hi); obtain ⟨z26_0, z26_1, z26_2, z26_3, z26_4⟩ := cz5 BK335.out; obtain ⟨f26_0, f26_1, f26_2, f26_3, f26_4⟩ := fz5 BK335.out) | (go_at_call 112; (with_reducible refine (impl_isIn.calls ((rd_T125 l0 x7_1).f1) 1 3 true _ A12.out).mono ?_); rintro e w' ⟨rfl, ⟨nd, rfl⟩⟩) | (go_at_call 112; (with_reducible refine (impl_isIn.calls ((rd_T125 l0 x7_1).f2) 0 4 true _ A14.out).mono ?_); rintro e w' ⟨rfl, ⟨nd, rfl⟩⟩) | (go_at_call 112; (with_reducible refine (impl_isIn.calls ((rd_T125 l0 x7_1).f3) 1 20 false _ A16.out).mono ?_); rintro e w' ⟨rfl, ⟨nd, rfl⟩⟩))
           go_ret
           exact ⟨by first | rfl | (simp [errW_none, errW_some] <;> rfl) | (simp [*, errW_none, errW_some] <;> rfl), qB HB⟩
         ·
          replace c15 := Bool.eq_false_iff.mpr c15
          subst c15
          rw [if_neg (show ¬ (false = true) by decide)] at H
          obtain rfl := Option.some.inj H
          obtain ⟨z27_0, z27_1, z27_2, z27_3, z27_4⟩ := cz5 BK335.out
          obtain ⟨f27_0, f27_1, f27_2, f27_3, f27_4⟩ := fz5 BK335.out
          go_wp2_with (first | ((with_reducible refine gate_callee (f := 146) rfl ?_); refine goesL_ (some 14) rfl rfl Try.func146 (by kernel_rfl) rfl #[.string ((rd_T125 l0 x7_1).f0)] rfl la_ ?_; (with_reducible refine (impl_nameOk.calls k1 ((rd_T125 l0 x7_1).f0) true _ A8.out).mono ?_); rintro e w' ⟨rfl, ⟨nd, rfl⟩⟩; refine ⟨_, rfl, ?_⟩) | (go_at_call 151; (with_reducible refine (impl_dbPlace.calls _ _ l0 ((rd_T125 l0 x7_1).f0) t337 _ ?side1 ?side2 A10.out).mono ?_); (case side1 => exact Kd.C_below HR0.out (qB HB)); (case side2 => exact HC0.out); rintro e w28 ⟨rfl, hb⟩; replace BK335 := am_ (blk_below (g := gb335) (o := .cells #[.string ((rd_T125 l0 x7_1).f0), .int .i64 ((rd_T125 l0 x7_1).f1), .int .i64 ((rd_T125 l0 x7_1).f2), .int .i64 ((rd_T125 l0 x7_1).f3), .int .i64 ((rd_T125 l0 x7_1).f4)] 125 (0, 0)) (by (with_reducible repeat (first | refine blk_drewN ?_ _ | refine blk_drew ?_ | refine blk_alloc ?_ _)); refine Go.Proofs.YtahfemlfdpbkkaaV.blk_all5 (show _ = some (Go.Obj.cells #[.string (⟨#[]⟩ : ByteArray), .int .i64 0, .int .i64 0, .int .i64 0, .int .i64 0] _ (0, 0)) from ?_); (with_reducible repeat (first | refine blk_drewN ?_ _ | refine blk_drew ?_ | refine blk_alloc ?_ _)); exact BK335.out) hb); replace HB := am_ (below_step (qB HB) hb); (try clear hb); (try clear hb2); (try clear hk); (try clear hi); obtain ⟨z29_0, z29_1, z29_2, z29_3, z29_4⟩ := cz5 BK335.out; obtain ⟨f29_0, f29_1, f29_2, f29_3, f29_4⟩ := fz5 BK335.out) | (go_at_call 112; (with_reducible refine (impl_isIn.calls ((rd_T125 l0 x7_1).f1) 1 3 true _ A12.out).mono ?_); rintro e w' ⟨rfl, ⟨nd, rfl⟩⟩) | (go_at_call 112; (with_reducible refine (impl_isIn.calls ((rd_T125 l0 x7_1).f2) 0 4 false _ A14.out).mono ?_); rintro e w' ⟨rfl, ⟨nd, rfl⟩⟩))
          go_ret
          exact ⟨by first | rfl | (simp [errW_none, errW_some] <;> rfl) | (simp [*, errW_none, errW_some] <;> rfl), qB HB⟩
        ·
         replace c13 := Bool.eq_false_iff.mpr c13
         subst c13
         rw [if_neg (show ¬ (false = true) by decide)] at H
         obtain rfl := Option.some.inj H
         obtain ⟨z30_0, z30_1, z30_2, z30_3, z30_4⟩ := cz5 BK335.out
         obtain ⟨f30_0, f30_1, f30_2, f30_3, f30_4⟩ := fz5 BK335.out
         go_wp2_with (first | ((with_reducible refine gate_callee (f := 146) rfl ?_); refine goesL_ (some 14) rfl rfl Try.func146 (by kernel_rfl) rfl #[.string ((rd_T125 l0 x7_1).f0)] rfl la_ ?_; (with_reducible refine (impl_nameOk.calls k1 ((rd_T125 l0 x7_1).f0) true _ A8.out).mono ?_); rintro e w' ⟨rfl, ⟨nd, rfl⟩⟩; refine ⟨_, rfl, ?_⟩) | (go_at_call 151; (with_reducible refine (impl_dbPlace.calls _ _ l0 ((rd_T125 l0 x7_1).f0) t337 _ ?side1 ?side2 A10.out).mono ?_); (case side1 => exact Kd.C_below HR0.out (qB HB)); (case side2 => exact HC0.out); rintro e w31 ⟨rfl, hb⟩; replace BK335 := am_ (blk_below (g := gb335) (o := .cells #[.string ((rd_T125 l0 x7_1).f0), .int .i64 ((rd_T125 l0 x7_1).f1), .int .i64 ((rd_T125 l0 x7_1).f2), .int .i64 ((rd_T125 l0 x7_1).f3), .int .i64 ((rd_T125 l0 x7_1).f4)] 125 (0, 0)) (by (with_reducible repeat (first | refine blk_drewN ?_ _ | refine blk_drew ?_ | refine blk_alloc ?_ _)); refine Go.Proofs.YtahfemlfdpbkkaaV.blk_all5 (show _ = some (Go.Obj.cells #[.string (⟨#[]⟩ : ByteArray), .int .i64 0, .int .i64 0, .int .i64 0, .int .i64 0] _ (0, 0)) from ?_); (with_reducible repeat (first | refine blk_drewN ?_ _ | refine blk_drew ?_ | refine blk_alloc ?_ _)); exact BK335.out) hb); replace HB := am_ (below_step (qB HB) hb); (try clear hb); (try clear hb2); (try clear hk); (try clear hi); obtain ⟨z32_0, z32_1, z32_2, z32_3, z32_4⟩ := cz5 BK335.out; obtain ⟨f32_0, f32_1, f32_2, f32_3, f32_4⟩ := fz5 BK335.out) | (go_at_call 112; (with_reducible refine (impl_isIn.calls ((rd_T125 l0 x7_1).f1) 1 3 false _ A12.out).mono ?_); rintro e w' ⟨rfl, ⟨nd, rfl⟩⟩))
         go_ret
         exact ⟨by first | rfl | (simp [errW_none, errW_some] <;> rfl) | (simp [*, errW_none, errW_some] <;> rfl), qB HB⟩
       ·
        rw [if_neg c11] at H
        have c11b0 : (t337 == x7_1) = false := beq_eq_false_iff_ne.mpr c11
        have c11b1 : (t337 != x7_1) = true := bne_iff_ne.mpr c11
        obtain rfl := Option.some.inj H
        obtain ⟨z33_0, z33_1, z33_2, z33_3, z33_4⟩ := cz5 BK335.out
        obtain ⟨f33_0, f33_1, f33_2, f33_3, f33_4⟩ := fz5 BK335.out
        go_wp2_with (first | ((with_reducible refine gate_callee (f := 146) rfl ?_); refine goesL_ (some 14) rfl rfl Try.func146 (by kernel_rfl) rfl #[.string ((rd_T125 l0 x7_1).f0)] rfl la_ ?_; (with_reducible refine (impl_nameOk.calls k1 ((rd_T125 l0 x7_1).f0) true _ A8.out).mono ?_); rintro e w' ⟨rfl, ⟨nd, rfl⟩⟩; refine ⟨_, rfl, ?_⟩) | (go_at_call 151; (with_reducible refine (impl_dbPlace.calls _ _ l0 ((rd_T125 l0 x7_1).f0) t337 _ ?side1 ?side2 A10.out).mono ?_); (case side1 => exact Kd.C_below HR0.out (qB HB)); (case side2 => exact HC0.out); rintro e w34 ⟨rfl, hb⟩; replace BK335 := am_ (blk_below (g := gb335) (o := .cells #[.string ((rd_T125 l0 x7_1).f0), .int .i64 ((rd_T125 l0 x7_1).f1), .int .i64 ((rd_T125 l0 x7_1).f2), .int .i64 ((rd_T125 l0 x7_1).f3), .int .i64 ((rd_T125 l0 x7_1).f4)] 125 (0, 0)) (by (with_reducible repeat (first | refine blk_drewN ?_ _ | refine blk_drew ?_ | refine blk_alloc ?_ _)); refine Go.Proofs.YtahfemlfdpbkkaaV.blk_all5 (show _ = some (Go.Obj.cells #[.string (⟨#[]⟩ : ByteArray), .int .i64 0, .int .i64 0, .int .i64 0, .int .i64 0] _ (0, 0)) from ?_); (with_reducible repeat (first | refine blk_drewN ?_ _ | refine blk_drew ?_ | refine blk_alloc ?_ _)); exact BK335.out) hb); replace HB := am_ (below_step (qB HB) hb); (try clear hb); (try clear hb2); (try clear hk); (try clear hi)))
        go_ret
        exact ⟨by first | rfl | (simp [errW_none, errW_some] <;> rfl) | (simp [*, errW_none, errW_some] <;> rfl), qB HB⟩
      ·
       replace c9 := Bool.eq_false_iff.mpr c9
       subst c9
       rw [if_neg (show ¬ (false = true) by decide)] at H
       obtain rfl := Option.some.inj H
       obtain ⟨z35_0, z35_1, z35_2, z35_3, z35_4⟩ := cz5 BK335.out
       obtain ⟨f35_0, f35_1, f35_2, f35_3, f35_4⟩ := fz5 BK335.out
       go_wp2_with (first | ((with_reducible refine gate_callee (f := 146) rfl ?_); refine goesL_ (some 14) rfl rfl Try.func146 (by kernel_rfl) rfl #[.string ((rd_T125 l0 x7_1).f0)] rfl la_ ?_; (with_reducible refine (impl_nameOk.calls k1 ((rd_T125 l0 x7_1).f0) false _ A8.out).mono ?_); rintro e w' ⟨rfl, ⟨nd, rfl⟩⟩; refine ⟨_, rfl, ?_⟩))
       go_ret
       exact ⟨by first | rfl | (simp [errW_none, errW_some] <;> rfl) | (simp [*, errW_none, errW_some] <;> rfl), qB HB⟩
     ·
      rw [if_neg c4] at H
      exact absurd H (by simp)
    ·
     rw [if_neg c3] at H
     exact absurd H (by simp)
   ·
    rw [if_neg c2] at H
    have c2b0 : decide (x7_1 < (l0.length : Int)) = false := decide_eq_false c2
    clear c2
    obtain ⟨t333, A36, H⟩ := bd_ H
    obtain rfl := Option.some.inj H
    go_wp2_with (first | ((with_reducible refine gate_callee (f := 112) rfl ?_); refine goesL_ (some 51) rfl rfl Try.func112 (by kernel_rfl) rfl #[.int .i64 (l0.length : Int), .int .i64 1, .int .i64 3] rfl la_ ?_; (with_reducible refine (impl_isIn.calls (l0.length : Int) 1 3 t333 _ A36.out).mono ?_); rintro e w' ⟨rfl, ⟨nd, rfl⟩⟩; refine ⟨_, rfl, ?_⟩))
    go_ret
    exact ⟨by first | rfl | (simp [errW_none, errW_some] <;> rfl) | (simp [*, errW_none, errW_some] <;> rfl), qB HB⟩

end Go.Proofs.Ytahfemlfdpbkkaa.PFnExactHouseOk
