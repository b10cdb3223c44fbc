-- Written by a program of this session (myprint.py, over the kit's print): contracts of FnExactHouseOk
import Derived.Test.YtahfemlfdpbkkaaPFnExactHouseOkx0
import Derived.Test.YtahfemlfdpbkkaaPFnExactHouseOkx16
import Derived.Test.YtahfemlfdpbkkaaPFnExactHouseOkx22
import Derived.Test.YtahfemlfdpbkkaaPFnExactHouseOkx24
namespace Go.Proofs.Ytahfemlfdpbkkaa.PFnExactHouseOk
open Go.RowKit Go.Proofs.YtahfemlfdpbkkaaW.PrintWords Go.Proofs.YtahfemlfdpbkkaaW.PrintLast Go.Proofs.YtahfemlfdpbkkaaW.PrintMore Go.Proofs.YtahfemlfdpbkkaaV
attribute [local go_sem] max2_int min2_int max_two min_two max_three min_three max_four min_four   -- for this text's walks alone
set_option linter.unusedVariables false
set_option linter.unusedSimpArgs false

/-! ### impl_owningOk: function 135 -/
def impl_owningOk.j0 : Nat → Bool → Int → Int → Int → List (S125) → Bool → List (S45) → List (S46) → Int → Int → Int → Int → Int → Option (Bool)
 | 0, _, _, _, _, _, _, _, _, _, _, _, _, _ => none
 | k + 1, x12, x356000, x356001, x356002, x356003, x356004, x356005, x356006, x356007, x356008, x356009, x356010, x356011 => if x12 = true then (some false) else (if x356002 = 0 then (if (x356003.length : Int) > 0 then (some false) else (if x356002 > 0 then ((impl_ConfOk.f k x356003).bind fun t358 => (if t358 = true then ((impl_pairsOk.f k x356000 x356001 x356002 x356003 x356004 x356005 x356006 x356007 x356008 x356009 x356010 x356011).bind fun t359 => (some t359)) else (some false))) else ((impl_pairsOk.f k x356000 x356001 x356002 x356003 x356004 x356005 x356006 x356007 x356008 x356009 x356010 x356011).bind fun t360 => (some t360)))) else (if x356002 > 0 then ((impl_ConfOk.f k x356003).bind fun t361 => (if t361 = true then ((impl_pairsOk.f k x356000 x356001 x356002 x356003 x356004 x356005 x356006 x356007 x356008 x356009 x356010 x356011).bind fun t362 => (some t362)) else (some false))) else ((impl_pairsOk.f k x356000 x356001 x356002 x356003 x356004 x356005 x356006 x356007 x356008 x356009 x356010 x356011).bind fun t363 => (some t363))))
def impl_owningOk.f (k : Nat) (a0_0 : Int) (a0_1 : Int) (a0_2 : Int) (l0_3 : List (S125)) (a0_4 : Bool) (l0_5 : List (S45)) (l0_6 : List (S46)) (a0_7 : Int) (a0_8 : Int) (a0_9 : Int) (a0_10 : Int) (a0_11 : Int) : Option (Bool) := (impl_isIn.f a0_1 1 60000).bind fun t356 => (if t356 = true then ((impl_isIn.f a0_2 0 60000).bind fun t357 => (impl_owningOk.j0 k (!t357) a0_0 a0_1 a0_2 l0_3 a0_4 l0_5 l0_6 a0_7 a0_8 a0_9 a0_10 a0_11)) else (impl_owningOk.j0 k true a0_0 a0_1 a0_2 l0_3 a0_4 l0_5 l0_6 a0_7 a0_8 a0_9 a0_10 a0_11))
theorem impl_owningOk.mono_l : ∀ k, (∀ y0 y1 y2 y3 y4 y5 y6 y7 y8 y9 y10 y11 y12, LeO (impl_owningOk.j0 k y0 y1 y2 y3 y4 y5 y6 y7 y8 y9 y10 y11 y12) (impl_owningOk.j0 (k + 1) y0 y1 y2 y3 y4 y5 y6 y7 y8 y9 y10 y11 y12))
 | 0 => fun _ _ _ _ _ _ _ _ _ _ _ _ _ r h => by simp [impl_owningOk.j0] at h
 | k + 1 => by
  have ih0 := impl_owningOk.mono_l k
  ·
   intro y0 y1 y2 y3 y4 y5 y6 y7 y8 y9 y10 y11 y12
   unfold impl_owningOk.j0
   repeat' first
   | (with_reducible exact ih0 _ _ _ _ _ _ _ _ _ _ _ _ _)
   | (with_reducible exact impl_ConfOk.mono _ _)
   | (with_reducible exact impl_pairsOk.mono _ _ _ _ _ _ _ _ _ _ _ _ _)
   | (with_reducible exact LeO.refl _)
   | (with_reducible exact LeO.none _)
   | (with_reducible refine LeO.ite ?_ ?_)
   | (with_reducible refine LeO.bind ?_ (fun _ => ?_))
   | exact ih0 _ _ _ _ _ _ _ _ _ _ _ _ _
   | exact impl_ConfOk.mono _ _
   | exact impl_pairsOk.mono _ _ _ _ _ _ _ _ _ _ _ _ _
   | exact LeO.none _
   | refine LeO.ite ?_ ?_
   | refine LeO.bind ?_ (fun _ => ?_)
theorem impl_owningOk.mono : ∀ a0 a1 a2 a3 a4 a5 a6 a7 a8 a9 a10 a11 k, LeO (impl_owningOk.f k a0 a1 a2 a3 a4 a5 a6 a7 a8 a9 a10 a11) (impl_owningOk.f (k + 1) a0 a1 a2 a3 a4 a5 a6 a7 a8 a9 a10 a11) := by
 intro a0 a1 a2 a3 a4 a5 a6 a7 a8 a9 a10 a11 k
 have ih0 := impl_owningOk.mono_l k
 unfold impl_owningOk.f
 repeat' first
   | (with_reducible exact ih0 _ _ _ _ _ _ _ _ _ _ _ _ _)
   | (with_reducible exact impl_ConfOk.mono _ _)
   | (with_reducible exact impl_pairsOk.mono _ _ _ _ _ _ _ _ _ _ _ _ _)
   | (with_reducible exact LeO.refl _)
   | (with_reducible exact LeO.none _)
   | (with_reducible refine LeO.ite ?_ ?_)
   | (with_reducible refine LeO.bind ?_ (fun _ => ?_))
   | exact ih0 _ _ _ _ _ _ _ _ _ _ _ _ _
   | exact impl_ConfOk.mono _ _
   | exact impl_pairsOk.mono _ _ _ _ _ _ _ _ _ _ _ _ _
   | exact LeO.none _
   | refine LeO.ite ?_ ?_
   | refine LeO.bind ?_ (fun _ => ?_)
set_option maxHeartbeats 8000000 in
set_option maxRecDepth 100000 in
theorem impl_owningOk.calls (k : Nat) (a0_0 : Int) (a0_1 : Int) (a0_2 : Int) (A0_3 : Option Addr) (c0_3 : Nat) (l0_3 : List (S125)) (a0_4 : Bool) (A0_5 : Option Addr) (c0_5 : Nat) (l0_5 : List (S45)) (A0_6 : Option Addr) (c0_6 : Nat) (l0_6 : List (S46)) (a0_7 : Int) (a0_8 : Int) (a0_9 : Int) (a0_10 : Int) (a0_11 : Int) (r : Bool) (w : World) (hr0_3 : Kd.C k125 w A0_3 l0_3.length l0_3) (hc0_3 : l0_3.length ≤ c0_3) (hr0_5 : Kd.C k45 w A0_5 l0_5.length l0_5) (hc0_5 : l0_5.length ≤ c0_5) (hr0_6 : Kd.C k46 w A0_6 l0_6.length l0_6) (hc0_6 : l0_6.length ≤ c0_6) (h : impl_owningOk.f k a0_0 a0_1 a0_2 l0_3 a0_4 l0_5 l0_6 a0_7 a0_8 a0_9 a0_10 a0_11 = some r) :
  Calls Try.prog 135 #[.agg #[.int .i64 a0_0, .int .i64 a0_1, .int .i64 a0_2, .slice A0_3 l0_3.length c0_3, .bool a0_4, .slice A0_5 l0_5.length c0_5, .slice A0_6 l0_6.length c0_6, .int .i64 a0_7, .int .i64 a0_8, .int .i64 a0_9, .int .i64 a0_10, .int .i64 a0_11]] w fun e w' => e = .returned (.bool r) ∧ Below w.heap.size w w' := by
 have hu67 := Try.underlying67
 have HR0_3 := Aside0.mk hr0_3
 have HC0_3 := Aside0.mk hc0_3
 clear hr0_3 hc0_3
 have HR0_5 := Aside0.mk hr0_5
 have HC0_5 := Aside0.mk hc0_5
 clear hr0_5 hc0_5
 have HR0_6 := Aside0.mk hr0_6
 have HC0_6 := Aside0.mk hc0_6
 clear hr0_6 hc0_6
 have HB := Aside0.mk (Below.refl w.heap.size w)
 have H : ((impl_isIn.f a0_1 1 60000).bind fun t356 => (if t356 = true then ((impl_isIn.f a0_2 0 60000).bind fun t357 => (impl_owningOk.j0 k (!t357) a0_0 a0_1 a0_2 l0_3 a0_4 l0_5 l0_6 a0_7 a0_8 a0_9 a0_10 a0_11)) else (impl_owningOk.j0 k true a0_0 a0_1 a0_2 l0_3 a0_4 l0_5 l0_6 a0_7 a0_8 a0_9 a0_10 a0_11))) = some r := h
 clear h
 have HC2 := Aside0.mk H
 clear H
 go_enter Try.func135, Try.ntmps135
 go_upto_region 1 with (first | ((with_reducible refine gate_dst (N := 1) rfl ?_); (try (refine gate_guard (by rfl) ?_; dsimp only)); refine box_event ?hg (N := 1) ?hd (cs := #[.int .i64 a0_0, .int .i64 a0_1, .int .i64 a0_2, .slice A0_3 l0_3.length c0_3, .bool a0_4, .slice A0_5 l0_5.length c0_5, .slice A0_6 l0_6.length c0_6, .int .i64 a0_7, .int .i64 a0_8, .int .i64 a0_9, .int .i64 a0_10, .int .i64 a0_11]) (t := 67) ?hr ?_; (case hd => rfl); (case hg => rfl); (case hr => first | (go_simp; done) | (go_simp; rfl)); intro gb355 hg w3 hbox hb; have BK355 := am_ (hbox); have GW355 := am_ ((gG_ hg (qB HB))); have IGW355 := gI_ GW355; have GE355 := am_ ((gG_ hg (qB HB))); have IGE355 := gI_ GE355; replace HB := am_ (below_step (qB HB) hb); clear hb hbox hg))
 (try simp only [Act.put, List.setIfInBounds_toArray, List.set_cons_zero, List.set_cons_succ])
 go_cut [12] (fun v12 wc => ∃ (kq : Nat) (x12_1 : Bool), v12 = .bool x12_1 ∧ Aside0 (impl_owningOk.j0 kq x12_1 a0_0 a0_1 a0_2 l0_3 a0_4 l0_5 l0_6 a0_7 a0_8 a0_9 a0_10 a0_11 = some r) ∧ Aside0 (kq ≤ k) ∧ Aside0 (wc.heap[gb355]? = some (.cells #[.int .i64 a0_0, .int .i64 a0_1, .int .i64 a0_2, (.slice A0_3 l0_3.length c0_3), .bool a0_4, (.slice A0_5 l0_5.length c0_5), (.slice A0_6 l0_6.length c0_6), .int .i64 a0_7, .int .i64 a0_8, .int .i64 a0_9, .int .i64 a0_10, .int .i64 a0_11] 67 (0, 0))) ∧ Aside0 (Below w.heap.size w wc))
 case first =>
  have H := HC2.out
  clear HC2
  obtain ⟨t356, A4, H⟩ := bd_ H
  by_cases c5 : t356 = true
  ·
   subst c5
   rw [if_pos rfl] at H
   obtain ⟨t357, A6, H⟩ := bd_ H
   have H' := Aside0.mk H
   clear H
   obtain ⟨z7_0, z7_1, z7_2, z7_3, z7_4, z7_5, z7_6, z7_7, z7_8, z7_9, z7_10, z7_11⟩ := cz12 BK355.out
   obtain ⟨f7_0, f7_1, f7_2, f7_3, f7_4, f7_5, f7_6, f7_7, f7_8, f7_9, f7_10, f7_11⟩ := fz12 BK355.out
   go_wp2_with (first | ((with_reducible refine gate_callee (f := 112) rfl ?_); refine goesL_ (some 5) rfl rfl Try.func112 (by kernel_rfl) rfl #[.int .i64 a0_1, .int .i64 1, .int .i64 60000] rfl la_ ?_; (with_reducible refine (impl_isIn.calls a0_1 1 60000 true _ A4.out).mono ?_); rintro e w' ⟨rfl, ⟨nd, rfl⟩⟩; refine ⟨_, rfl, ?_⟩) | (go_at_call 112; (with_reducible refine (impl_isIn.calls a0_2 0 60000 t357 _ A6.out).mono ?_); rintro e w' ⟨rfl, ⟨nd, rfl⟩⟩))
   go_meet
   case rel => exact ⟨_, (!t357), eqq_, H', ⟨by first | omega | exact Nat.le_refl _⟩, ⟨qK BK355⟩, ⟨qB HB⟩⟩
  ·
   replace c5 := Bool.eq_false_iff.mpr c5
   subst c5
   rw [if_neg (show ¬ (false = true) by decide)] at H
   have H' := Aside0.mk H
   clear H
   obtain ⟨z8_0, z8_1, z8_2, z8_3, z8_4, z8_5, z8_6, z8_7, z8_8, z8_9, z8_10, z8_11⟩ := cz12 BK355.out
   obtain ⟨f8_0, f8_1, f8_2, f8_3, f8_4, f8_5, f8_6, f8_7, f8_8, f8_9, f8_10, f8_11⟩ := fz12 BK355.out
   go_wp2_with (first | ((with_reducible refine gate_callee (f := 112) rfl ?_); refine goesL_ (some 5) rfl rfl Try.func112 (by kernel_rfl) rfl #[.int .i64 a0_1, .int .i64 1, .int .i64 60000] rfl la_ ?_; (with_reducible refine (impl_isIn.calls a0_1 1 60000 false _ A4.out).mono ?_); rintro e w' ⟨rfl, ⟨nd, rfl⟩⟩; refine ⟨_, rfl, ?_⟩))
   go_meet
   case rel => exact ⟨_, (true), eqq_, H', ⟨by first | omega | exact Nat.le_refl _⟩, ⟨qK BK355⟩, ⟨qB HB⟩⟩
 case rest =>
  clear HC2
  try clear c1
  try clear p2
  try clear c5
  (try clear z7_0 z7_1 z7_10 z7_11 z7_2 z7_3 z7_4 z7_5 z7_6 z7_7 z7_8 z7_9)
  (try clear z8_0 z8_1 z8_10 z8_11 z8_2 z8_3 z8_4 z8_5 z8_6 z8_7 z8_8 z8_9)
  (try clear f7_0 f7_1 f7_10 f7_11 f7_2 f7_3 f7_4 f7_5 f7_6 f7_7 f7_8 f7_9)
  (try clear f8_0 f8_1 f8_10 f8_11 f8_2 f8_3 f8_4 f8_5 f8_6 f8_7 f8_8 f8_9)
  obtain ⟨kq, x12_1, rfl, HA, HJ1, BK355, HB⟩ := hcut
  cases kq with
  | zero => exact absurd HA.out (by simp [impl_owningOk.j0])
  | succ kj1 =>
   have H := HA.out
   clear HA
   simp only [impl_owningOk.j0] at H
   by_cases c9 : x12_1 = true
   ·
    subst c9
    rw [if_pos rfl] at H
    obtain rfl := Option.some.inj H
    go_wp2
    go_ret
    exact ⟨by first | rfl | (simp [errW_none, errW_some] <;> rfl) | (simp [*, errW_none, errW_some] <;> rfl), qB HB⟩
   ·
    replace c9 := Bool.eq_false_iff.mpr c9
    subst c9
    rw [if_neg (show ¬ (false = true) by decide)] at H
    by_cases c10 : a0_2 = 0
    ·
     rw [if_pos c10] at H
     have c10b0 : (a0_2 == 0) = true := beq_iff_eq.mpr c10
     have c10b1 : (a0_2 != 0) = false := bne_eq_false_iff_eq.mpr c10
     clear c10
     by_cases c11 : (l0_3.length : Int) > 0
     ·
      rw [if_pos c11] at H
      have c11b0 : decide (0 < (l0_3.length : Int)) = true := decide_eq_true c11
      have c11b1 : decide (0 < l0_3.length) = true := decide_eq_true (by omega)
      clear c11
      obtain rfl := Option.some.inj H
      obtain ⟨z12_0, z12_1, z12_2, z12_3, z12_4, z12_5, z12_6, z12_7, z12_8, z12_9, z12_10, z12_11⟩ := cz12 BK355.out
      obtain ⟨f12_0, f12_1, f12_2, f12_3, f12_4, f12_5, f12_6, f12_7, f12_8, f12_9, f12_10, f12_11⟩ := fz12 BK355.out
      go_wp2
      go_ret
      exact ⟨by first | rfl | (simp [errW_none, errW_some] <;> rfl) | (simp [*, errW_none, errW_some] <;> rfl), qB HB⟩
     ·
      rw [if_neg c11] at H
      have c11b0 : decide (0 < (l0_3.length : Int)) = false := decide_eq_false c11
      have c11b1 : decide (0 < l0_3.length) = false := decide_eq_false (by omega)
      clear c11
      by_cases c13 : a0_2 > 0
      ·
       rw [if_pos c13] at H
       have c13b0 : decide (0 < a0_2) = true := decide_eq_true c13
       clear c13
       obtain ⟨t358, A14, H⟩ := bd_ H
       have HC15 := Aside0.mk H
       clear H
       obtain ⟨z16_0, z16_1, z16_2, z16_3, z16_4, z16_5, z16_6, z16_7, z16_8, z16_9, z16_10, z16_11⟩ := cz12 BK355.out
       obtain ⟨f16_0, f16_1, f16_2, f16_3, f16_4, f16_5, f16_6, f16_7, f16_8, f16_9, f16_10, f16_11⟩ := fz12 BK355.out
       go_upto_if 32 with (first | (go_at_call 167; (with_reducible refine (impl_ConfOk.calls kj1 _ _ l0_3 t358 _ ?side1 ?side2 A14.out).mono ?_); (case side1 => exact qC (Kd.C_below HR0_3.out HB.out)); (case side2 => exact HC0_3.out); rintro e w17 ⟨rfl, hb⟩; replace BK355 := am_ (blk_below (qK BK355) hb); replace HB := am_ (below_step (qB HB) hb); (try clear hb); (try clear hb2); (try clear hk); (try clear hi)))
       (try simp only [Act.put, List.setIfInBounds_toArray, List.set_cons_zero, List.set_cons_succ])
       have H := HC15.out
       clear HC15
       by_cases c18 : t358 = true
       ·
        subst c18
        rw [if_pos rfl] at H
        obtain ⟨t359, A19, H⟩ := bd_ H
        obtain rfl := Option.some.inj H
        obtain ⟨z20_0, z20_1, z20_2, z20_3, z20_4, z20_5, z20_6, z20_7, z20_8, z20_9, z20_10, z20_11⟩ := cz12 BK355.out
        obtain ⟨f20_0, f20_1, f20_2, f20_3, f20_4, f20_5, f20_6, f20_7, f20_8, f20_9, f20_10, f20_11⟩ := fz12 BK355.out
        go_wp2_with (first | ((with_reducible refine gate_callee (f := 168) rfl ?_); refine goesL_ (some 34) rfl rfl Try.func168 (by kernel_rfl) rfl #[.agg #[.int .i64 a0_0, .int .i64 a0_1, .int .i64 a0_2, .slice A0_3 l0_3.length c0_3, .bool a0_4, .slice A0_5 l0_5.length c0_5, .slice A0_6 l0_6.length c0_6, .int .i64 a0_7, .int .i64 a0_8, .int .i64 a0_9, .int .i64 a0_10, .int .i64 a0_11]] rfl la_ ?_; (with_reducible refine (impl_pairsOk.calls kj1 a0_0 a0_1 a0_2 _ _ l0_3 a0_4 _ _ l0_5 _ _ l0_6 a0_7 a0_8 a0_9 a0_10 a0_11 t359 _ ?side1 ?side2 ?side3 ?side4 ?side5 ?side6 A19.out).mono ?_); (case side1 => exact qC (Kd.C_below HR0_3.out HB.out)); (case side2 => exact HC0_3.out); (case side3 => exact qC (Kd.C_below HR0_5.out HB.out)); (case side4 => exact HC0_5.out); (case side5 => exact qC (Kd.C_below HR0_6.out HB.out)); (case side6 => exact HC0_6.out); rintro e w21 ⟨rfl, hb⟩; refine ⟨_, rfl, ?_⟩; replace BK355 := am_ (blk_below (qK BK355) hb); replace HB := am_ (below_step (qB HB) hb); (try clear hb); (try clear hb2); (try clear hk); (try clear hi)))
        go_ret
        exact ⟨by first | rfl | (simp [errW_none, errW_some] <;> rfl) | (simp [*, errW_none, errW_some] <;> rfl), qB HB⟩
       ·
        replace c18 := Bool.eq_false_iff.mpr c18
        subst c18
        rw [if_neg (show ¬ (false = true) by decide)] at H
        obtain rfl := Option.some.inj H
        go_wp2
        go_ret
        exact ⟨by first | rfl | (simp [errW_none, errW_some] <;> rfl) | (simp [*, errW_none, errW_some] <;> rfl), qB HB⟩
      ·
       rw [if_neg c13] at H
       have c13b0 : decide (0 < a0_2) = false := decide_eq_false c13
       clear c13
       obtain ⟨t360, A22, H⟩ := bd_ H
       obtain rfl := Option.some.inj H
       obtain ⟨z23_0, z23_1, z23_2, z23_3, z23_4, z23_5, z23_6, z23_7, z23_8, z23_9, z23_10, z23_11⟩ := cz12 BK355.out
       obtain ⟨f23_0, f23_1, f23_2, f23_3, f23_4, f23_5, f23_6, f23_7, f23_8, f23_9, f23_10, f23_11⟩ := fz12 BK355.out
       go_wp2_with (first | ((with_reducible refine gate_callee (f := 168) rfl ?_); refine goesL_ (some 34) rfl rfl Try.func168 (by kernel_rfl) rfl #[.agg #[.int .i64 a0_0, .int .i64 a0_1, .int .i64 a0_2, .slice A0_3 l0_3.length c0_3, .bool a0_4, .slice A0_5 l0_5.length c0_5, .slice A0_6 l0_6.length c0_6, .int .i64 a0_7, .int .i64 a0_8, .int .i64 a0_9, .int .i64 a0_10, .int .i64 a0_11]] rfl la_ ?_; (with_reducible refine (impl_pairsOk.calls kj1 a0_0 a0_1 a0_2 _ _ l0_3 a0_4 _ _ l0_5 _ _ l0_6 a0_7 a0_8 a0_9 a0_10 a0_11 t360 _ ?side1 ?side2 ?side3 ?side4 ?side5 ?side6 A22.out).mono ?_); (case side1 => exact qC (Kd.C_below HR0_3.out HB.out)); (case side2 => exact HC0_3.out); (case side3 => exact qC (Kd.C_below HR0_5.out HB.out)); (case side4 => exact HC0_5.out); (case side5 => exact qC (Kd.C_below HR0_6.out HB.out)); (case side6 => exact HC0_6.out); rintro e w24 ⟨rfl, hb⟩; refine ⟨_, rfl, ?_⟩; replace BK355 := am_ (blk_below (qK BK355) hb); replace HB := am_ (below_step (qB HB) hb); (try clear hb); (try clear hb2); (try clear hk); (try clear hi)))
       go_ret
       exact ⟨by first | rfl | (simp [errW_none, errW_some] <;> rfl) | (simp [*, errW_none, errW_some] <;> rfl), qB HB⟩
    ·
     rw [if_neg c10] at H
     have c10b0 : (a0_2 == 0) = false := beq_eq_false_iff_ne.mpr c10
     have c10b1 : (a0_2 != 0) = true := bne_iff_ne.mpr c10
     by_cases c25 : a0_2 > 0
     ·
      rw [if_pos c25] at H
      have c25b0 : decide (0 < a0_2) = true := decide_eq_true c25
      clear c25
      obtain ⟨t361, A26, H⟩ := bd_ H
      have HC27 := Aside0.mk H
      clear H
      obtain ⟨z28_0, z28_1, z28_2, z28_3, z28_4, z28_5, z28_6, z28_7, z28_8, z28_9, z28_10, z28_11⟩ := cz12 BK355.out
      obtain ⟨f28_0, f28_1, f28_2, f28_3, f28_4, f28_5, f28_6, f28_7, f28_8, f28_9, f28_10, f28_11⟩ := fz12 BK355.out
      go_upto_if 32 with (first | (go_at_call 167; (with_reducible refine (impl_ConfOk.calls kj1 _ _ l0_3 t361 _ ?side1 ?side2 A26.out).mono ?_); (case side1 => exact qC (Kd.C_below HR0_3.out HB.out)); (case side2 => exact HC0_3.out); rintro e w29 ⟨rfl, hb⟩; replace BK355 := am_ (blk_below (qK BK355) hb); replace HB := am_ (below_step (qB HB) hb); (try clear hb); (try clear hb2); (try clear hk); (try clear hi)))
      (try simp only [Act.put, List.setIfInBounds_toArray, List.set_cons_zero, List.set_cons_succ])
      have H := HC27.out
      clear HC27
      by_cases c30 : t361 = true
      ·
       subst c30
       rw [if_pos rfl] at H
       obtain ⟨t362, A31, H⟩ := bd_ H
       obtain rfl := Option.some.inj H
       obtain ⟨z32_0, z32_1, z32_2, z32_3, z32_4, z32_5, z32_6, z32_7, z32_8, z32_9, z32_10, z32_11⟩ := cz12 BK355.out
       obtain ⟨f32_0, f32_1, f32_2, f32_3, f32_4, f32_5, f32_6, f32_7, f32_8, f32_9, f32_10, f32_11⟩ := fz12 BK355.out
       go_wp2_with (first | ((with_reducible refine gate_callee (f := 168) rfl ?_); refine goesL_ (some 34) rfl rfl Try.func168 (by kernel_rfl) rfl #[.agg #[.int .i64 a0_0, .int .i64 a0_1, .int .i64 a0_2, .slice A0_3 l0_3.length c0_3, .bool a0_4, .slice A0_5 l0_5.length c0_5, .slice A0_6 l0_6.length c0_6, .int .i64 a0_7, .int .i64 a0_8, .int .i64 a0_9, .int .i64 a0_10, .int .i64 a0_11]] rfl la_ ?_; (with_reducible refine (impl_pairsOk.calls kj1 a0_0 a0_1 a0_2 _ _ l0_3 a0_4 _ _ l0_5 _ _ l0_6 a0_7 a0_8 a0_9 a0_10 a0_11 t362 _ ?side1 ?side2 ?side3 ?side4 ?side5 ?side6 A31.out).mono ?_); (case side1 => exact qC (Kd.C_below HR0_3.out HB.out)); (case side2 => exact HC0_3.out); (case side3 => exact qC (Kd.C_below HR0_5.out HB.out)); (case side4 => exact HC0_5.out); (case side5 => exact qC (Kd.C_below HR0_6.out HB.out)); (case side6 => exact HC0_6.out); rintro e w33 ⟨rfl, hb⟩; refine ⟨_, rfl, ?_⟩; replace BK355 := am_ (blk_below (qK BK355) hb); replace HB := am_ (below_step (qB HB) hb); (try clear hb); (try clear hb2); (try clear hk); (try clear hi)))
       go_ret
       exact ⟨by first | rfl | (simp [errW_none, errW_some] <;> rfl) | (simp [*, errW_none, errW_some] <;> rfl), qB HB⟩
      ·
       replace c30 := Bool.eq_false_iff.mpr c30
       subst c30
       rw [if_neg (show ¬ (false = true) by decide)] at H
       obtain rfl := Option.some.inj H
       go_wp2
       go_ret
       exact ⟨by first | rfl | (simp [errW_none, errW_some] <;> rfl) | (simp [*, errW_none, errW_some] <;> rfl), qB HB⟩
     ·
      rw [if_neg c25] at H
      have c25b0 : decide (0 < a0_2) = false := decide_eq_false c25
      clear c25
      obtain ⟨t363, A34, H⟩ := bd_ H
      obtain rfl := Option.some.inj H
      obtain ⟨z35_0, z35_1, z35_2, z35_3, z35_4, z35_5, z35_6, z35_7, z35_8, z35_9, z35_10, z35_11⟩ := cz12 BK355.out
      obtain ⟨f35_0, f35_1, f35_2, f35_3, f35_4, f35_5, f35_6, f35_7, f35_8, f35_9, f35_10, f35_11⟩ := fz12 BK355.out
      go_wp2_with (first | ((with_reducible refine gate_callee (f := 168) rfl ?_); refine goesL_ (some 34) rfl rfl Try.func168 (by kernel_rfl) rfl #[.agg #[.int .i64 a0_0, .int .i64 a0_1, .int .i64 a0_2, .slice A0_3 l0_3.length c0_3, .bool a0_4, .slice A0_5 l0_5.length c0_5, .slice A0_6 l0_6.length c0_6, .int .i64 a0_7, .int .i64 a0_8, .int .i64 a0_9, .int .i64 a0_10, .int .i64 a0_11]] rfl la_ ?_; (with_reducible refine (impl_pairsOk.calls kj1 a0_0 a0_1 a0_2 _ _ l0_3 a0_4 _ _ l0_5 _ _ l0_6 a0_7 a0_8 a0_9 a0_10 a0_11 t363 _ ?side1 ?side2 ?side3 ?side4 ?side5 ?side6 A34.out).mono ?_); (case side1 => exact qC (Kd.C_below HR0_3.out HB.out)); (case side2 => exact HC0_3.out); (case side3 => exact qC (Kd.C_below HR0_5.out HB.out)); (case side4 => exact HC0_5.out); (case side5 => exact qC (Kd.C_below HR0_6.out HB.out)); (case side6 => exact HC0_6.out); rintro e w36 ⟨rfl, hb⟩; refine ⟨_, rfl, ?_⟩; replace BK355 := am_ (blk_below (qK BK355) hb); replace HB := am_ (below_step (qB HB) hb); (try clear hb); (try clear hb2); (try clear hk); (try clear hi)))
      go_ret
      exact ⟨by first | rfl | (simp [errW_none, errW_some] <;> rfl) | (simp [*, errW_none, errW_some] <;> rfl), qB HB⟩

end Go.Proofs.Ytahfemlfdpbkkaa.PFnExactHouseOk
