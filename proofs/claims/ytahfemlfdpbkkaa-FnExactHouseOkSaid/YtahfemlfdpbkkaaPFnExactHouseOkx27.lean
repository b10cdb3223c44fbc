-- Written by a program of this session (myprint.py, over the kit's print): contracts of FnExactHouseOk
import Derived.Test.YtahfemlfdpbkkaaPFnExactHouseOkx0
import Derived.Test.YtahfemlfdpbkkaaPFnExactHouseOkx5
import Derived.Test.YtahfemlfdpbkkaaPFnExactHouseOkx6
import Derived.Test.YtahfemlfdpbkkaaPFnExactHouseOkx7
import Derived.Test.YtahfemlfdpbkkaaPFnExactHouseOkx15
import Derived.Test.YtahfemlfdpbkkaaPFnExactHouseOkx26
namespace Go.Proofs.Ytahfemlfdpbkkaa.PFnExactHouseOk
open Go.RowKit Go.Proofs.YtahfemlfdpbkkaaW.PrintWords Go.Proofs.YtahfemlfdpbkkaaW.PrintLast Go.Proofs.YtahfemlfdpbkkaaW.PrintMore Go.Proofs.YtahfemlfdpbkkaaV
attribute [local go_sem] max2_int min2_int max_two min_two max_three min_three max_four min_four   -- for this text's walks alone
set_option linter.unusedVariables false
set_option linter.unusedSimpArgs false

/-! ### laws_FnExactHouseOk: function 13 -/
def laws_FnExactHouseOk.f (k : Nat) (a0_0 : Int) (a0_1 : Int) (a0_2 : Int) (l0_3 : List (S163)) (a0_4 : Bool) (l0_5 : List (S38)) (l0_6 : List (S40)) (a0_7 : Int) (a0_8 : Int) (a0_9 : Int) (a0_10 : Int) (a0_11 : Int) : Option (Bool) := (laws_szHouse.f k a0_0 a0_1 a0_2 l0_3 a0_4 l0_5 l0_6 a0_7 a0_8 a0_9 a0_10 a0_11 1048576).bind fun t377 => (if t377 < 0 then (some true) else ((laws_toHouse.f k a0_0 a0_1 a0_2 l0_3 a0_4 l0_5 l0_6 a0_7 a0_8 a0_9 a0_10 a0_11).bind fun bt378 => ((spec_HouseOk.f k bt378.1 bt378.2.1 bt378.2.2.1 bt378.2.2.2.1 bt378.2.2.2.2.1 bt378.2.2.2.2.2.1 bt378.2.2.2.2.2.2.1 bt378.2.2.2.2.2.2.2.1 bt378.2.2.2.2.2.2.2.2.1 bt378.2.2.2.2.2.2.2.2.2.1 bt378.2.2.2.2.2.2.2.2.2.2.1 bt378.2.2.2.2.2.2.2.2.2.2.2).bind fun t396 => ((laws_toHouse.f k a0_0 a0_1 a0_2 l0_3 a0_4 l0_5 l0_6 a0_7 a0_8 a0_9 a0_10 a0_11).bind fun bt397 => ((impl_HouseOk.f k bt397.1 bt397.2.1 bt397.2.2.1 bt397.2.2.2.1 bt397.2.2.2.2.1 bt397.2.2.2.2.2.1 bt397.2.2.2.2.2.2.1 bt397.2.2.2.2.2.2.2.1 bt397.2.2.2.2.2.2.2.2.1 bt397.2.2.2.2.2.2.2.2.2.1 bt397.2.2.2.2.2.2.2.2.2.2.1 bt397.2.2.2.2.2.2.2.2.2.2.2).bind fun t416 => (if (t416 != t396) = true then (some false) else ((laws_toHouse.f k a0_0 a0_1 a0_2 l0_3 a0_4 l0_5 l0_6 a0_7 a0_8 a0_9 a0_10 a0_11).bind fun bt417 => ((laws_eqHouse.f k bt397.1 bt397.2.1 bt397.2.2.1 bt397.2.2.2.1 bt397.2.2.2.2.1 bt397.2.2.2.2.2.1 bt397.2.2.2.2.2.2.1 bt397.2.2.2.2.2.2.2.1 bt397.2.2.2.2.2.2.2.2.1 bt397.2.2.2.2.2.2.2.2.2.1 bt397.2.2.2.2.2.2.2.2.2.2.1 bt397.2.2.2.2.2.2.2.2.2.2.2 bt417.1 bt417.2.1 bt417.2.2.1 bt417.2.2.2.1 bt417.2.2.2.2.1 bt417.2.2.2.2.2.1 bt417.2.2.2.2.2.2.1 bt417.2.2.2.2.2.2.2.1 bt417.2.2.2.2.2.2.2.2.1 bt417.2.2.2.2.2.2.2.2.2.1 bt417.2.2.2.2.2.2.2.2.2.2.1 bt417.2.2.2.2.2.2.2.2.2.2.2).bind fun t435 => (if t435 = true then (some true) else (some false))))))))))
theorem laws_FnExactHouseOk.mono : ∀ a0 a1 a2 a3 a4 a5 a6 a7 a8 a9 a10 a11 k, LeO (laws_FnExactHouseOk.f k a0 a1 a2 a3 a4 a5 a6 a7 a8 a9 a10 a11) (laws_FnExactHouseOk.f (k + 1) a0 a1 a2 a3 a4 a5 a6 a7 a8 a9 a10 a11) := by
 intro a0 a1 a2 a3 a4 a5 a6 a7 a8 a9 a10 a11 k
 unfold laws_FnExactHouseOk.f
 repeat' first
   | (with_reducible exact impl_HouseOk.mono _ _ _ _ _ _ _ _ _ _ _ _ _)
   | (with_reducible exact laws_eqHouse.mono _ _ _ _ _ _ _ _ _ _ _ _ _ _ _ _ _ _ _ _ _ _ _ _ _)
   | (with_reducible exact laws_szHouse.mono _ _ _ _ _ _ _ _ _ _ _ _ _ _)
   | (with_reducible exact laws_toHouse.mono _ _ _ _ _ _ _ _ _ _ _ _ _)
   | (with_reducible exact spec_HouseOk.mono _ _ _ _ _ _ _ _ _ _ _ _ _)
   | (with_reducible exact LeO.refl _)
   | (with_reducible exact LeO.none _)
   | (with_reducible refine LeO.ite ?_ ?_)
   | (with_reducible refine LeO.bind ?_ (fun _ => ?_))
   | exact impl_HouseOk.mono _ _ _ _ _ _ _ _ _ _ _ _ _
   | exact laws_eqHouse.mono _ _ _ _ _ _ _ _ _ _ _ _ _ _ _ _ _ _ _ _ _ _ _ _ _
   | exact laws_szHouse.mono _ _ _ _ _ _ _ _ _ _ _ _ _ _
   | exact laws_toHouse.mono _ _ _ _ _ _ _ _ _ _ _ _ _
   | exact spec_HouseOk.mono _ _ _ _ _ _ _ _ _ _ _ _ _
   | exact LeO.none _
   | refine LeO.ite ?_ ?_
   | refine LeO.bind ?_ (fun _ => ?_)
set_option maxHeartbeats 8000000 in
set_option maxRecDepth 100000 in
theorem laws_FnExactHouseOk.calls (k : Nat) (a0_0 : Int) (a0_1 : Int) (a0_2 : Int) (A0_3 : Option Addr) (c0_3 : Nat) (l0_3 : List (S163)) (a0_4 : Bool) (A0_5 : Option Addr) (c0_5 : Nat) (l0_5 : List (S38)) (A0_6 : Option Addr) (c0_6 : Nat) (l0_6 : List (S40)) (a0_7 : Int) (a0_8 : Int) (a0_9 : Int) (a0_10 : Int) (a0_11 : Int) (r : Bool) (w : World) (hr0_3 : Kd.C k163 w A0_3 l0_3.length l0_3) (hc0_3 : l0_3.length ≤ c0_3) (hr0_5 : Kd.C k38 w A0_5 l0_5.length l0_5) (hc0_5 : l0_5.length ≤ c0_5) (hr0_6 : Kd.C k40 w A0_6 l0_6.length l0_6) (hc0_6 : l0_6.length ≤ c0_6) (hr_ : Aside0 (r = true)) (h : laws_FnExactHouseOk.f k a0_0 a0_1 a0_2 l0_3 a0_4 l0_5 l0_6 a0_7 a0_8 a0_9 a0_10 a0_11 = some r) :
  Calls Try.prog 13 #[.agg #[.int .i64 a0_0, .int .i64 a0_1, .int .i64 a0_2, .slice A0_3 l0_3.length c0_3, .bool a0_4, .slice A0_5 l0_5.length c0_5, .slice A0_6 l0_6.length c0_6, .int .i64 a0_7, .int .i64 a0_8, .int .i64 a0_9, .int .i64 a0_10, .int .i64 a0_11]] w fun e w' => e = .returned (.bool r) ∧ Below w.heap.size w w' := by
 have hu59 := Try.underlying59
 have hu67 := Try.underlying67
 have HR0_3 := Aside0.mk hr0_3
 have HC0_3 := Aside0.mk hc0_3
 clear hr0_3 hc0_3
 have HR0_5 := Aside0.mk hr0_5
 have HC0_5 := Aside0.mk hc0_5
 clear hr0_5 hc0_5
 have HR0_6 := Aside0.mk hr0_6
 have HC0_6 := Aside0.mk hc0_6
 clear hr0_6 hc0_6
 have HB := Aside0.mk (Below.refl w.heap.size w)
 have H : ((laws_szHouse.f k a0_0 a0_1 a0_2 l0_3 a0_4 l0_5 l0_6 a0_7 a0_8 a0_9 a0_10 a0_11 1048576).bind fun t377 => (if t377 < 0 then (some true) else ((laws_toHouse.f k a0_0 a0_1 a0_2 l0_3 a0_4 l0_5 l0_6 a0_7 a0_8 a0_9 a0_10 a0_11).bind fun bt378 => ((spec_HouseOk.f k bt378.1 bt378.2.1 bt378.2.2.1 bt378.2.2.2.1 bt378.2.2.2.2.1 bt378.2.2.2.2.2.1 bt378.2.2.2.2.2.2.1 bt378.2.2.2.2.2.2.2.1 bt378.2.2.2.2.2.2.2.2.1 bt378.2.2.2.2.2.2.2.2.2.1 bt378.2.2.2.2.2.2.2.2.2.2.1 bt378.2.2.2.2.2.2.2.2.2.2.2).bind fun t396 => ((laws_toHouse.f k a0_0 a0_1 a0_2 l0_3 a0_4 l0_5 l0_6 a0_7 a0_8 a0_9 a0_10 a0_11).bind fun bt397 => ((impl_HouseOk.f k bt397.1 bt397.2.1 bt397.2.2.1 bt397.2.2.2.1 bt397.2.2.2.2.1 bt397.2.2.2.2.2.1 bt397.2.2.2.2.2.2.1 bt397.2.2.2.2.2.2.2.1 bt397.2.2.2.2.2.2.2.2.1 bt397.2.2.2.2.2.2.2.2.2.1 bt397.2.2.2.2.2.2.2.2.2.2.1 bt397.2.2.2.2.2.2.2.2.2.2.2).bind fun t416 => (if (t416 != t396) = true then (some false) else ((laws_toHouse.f k a0_0 a0_1 a0_2 l0_3 a0_4 l0_5 l0_6 a0_7 a0_8 a0_9 a0_10 a0_11).bind fun bt417 => ((laws_eqHouse.f k bt397.1 bt397.2.1 bt397.2.2.1 bt397.2.2.2.1 bt397.2.2.2.2.1 bt397.2.2.2.2.2.1 bt397.2.2.2.2.2.2.1 bt397.2.2.2.2.2.2.2.1 bt397.2.2.2.2.2.2.2.2.1 bt397.2.2.2.2.2.2.2.2.2.1 bt397.2.2.2.2.2.2.2.2.2.2.1 bt397.2.2.2.2.2.2.2.2.2.2.2 bt417.1 bt417.2.1 bt417.2.2.1 bt417.2.2.2.1 bt417.2.2.2.2.1 bt417.2.2.2.2.2.1 bt417.2.2.2.2.2.2.1 bt417.2.2.2.2.2.2.2.1 bt417.2.2.2.2.2.2.2.2.1 bt417.2.2.2.2.2.2.2.2.2.1 bt417.2.2.2.2.2.2.2.2.2.2.1 bt417.2.2.2.2.2.2.2.2.2.2.2).bind fun t435 => (if t435 = true then (some true) else (some false))))))))))) = some r := h
 clear h
 obtain ⟨t377, A2, H⟩ := bd_ H
 have HC3 := Aside0.mk H
 clear H
 go_enter Try.func13, Try.ntmps13
 go_upto_if 11 with (first | ((with_reducible refine gate_dst (N := 1) rfl ?_); refine box_event ?hg (N := 1) ?hd (cs := #[.int .i64 a0_0, .int .i64 a0_1, .int .i64 a0_2, .slice A0_3 l0_3.length c0_3, .bool a0_4, .slice A0_5 l0_5.length c0_5, .slice A0_6 l0_6.length c0_6, .int .i64 a0_7, .int .i64 a0_8, .int .i64 a0_9, .int .i64 a0_10, .int .i64 a0_11]) (t := 59) ?hr ?_; (case hd => rfl); (case hg => rfl); (case hr => first | (go_simp; done) | (go_simp; rfl)); intro gb376 hg w4 hbox hb; have BK376 := am_ (hbox); have GW376 := am_ ((gG_ hg (qB HB))); have IGW376 := gI_ GW376; have GE376 := am_ ((gG_ hg (qB HB))); have IGE376 := gI_ GE376; replace HB := am_ (below_step (qB HB) hb); clear hb hbox hg; obtain ⟨z5_0, z5_1, z5_2, z5_3, z5_4, z5_5, z5_6, z5_7, z5_8, z5_9, z5_10, z5_11⟩ := cz12 BK376.out; obtain ⟨f5_0, f5_1, f5_2, f5_3, f5_4, f5_5, f5_6, f5_7, f5_8, f5_9, f5_10, f5_11⟩ := fz12 BK376.out) | ((with_reducible refine gate_callee (f := 31) rfl ?_); refine goesL_ (some 9) rfl rfl Try.func31 (by kernel_rfl) rfl #[.agg #[.int .i64 a0_0, .int .i64 a0_1, .int .i64 a0_2, .slice A0_3 l0_3.length c0_3, .bool a0_4, .slice A0_5 l0_5.length c0_5, .slice A0_6 l0_6.length c0_6, .int .i64 a0_7, .int .i64 a0_8, .int .i64 a0_9, .int .i64 a0_10, .int .i64 a0_11], .int .i64 1048576] rfl la_ ?_; (with_reducible refine (laws_szHouse.calls k a0_0 a0_1 a0_2 _ _ l0_3 a0_4 _ _ l0_5 _ _ l0_6 a0_7 a0_8 a0_9 a0_10 a0_11 1048576 t377 _ ?side1 ?side2 ?side3 ?side4 ?side5 ?side6 A2.out).mono ?_); (case side1 => exact qC (Kd.C_below HR0_3.out HB.out)); (case side2 => exact HC0_3.out); (case side3 => exact qC (Kd.C_below HR0_5.out HB.out)); (case side4 => exact HC0_5.out); (case side5 => exact qC (Kd.C_below HR0_6.out HB.out)); (case side6 => exact HC0_6.out); rintro e w6 ⟨rfl, hb⟩; refine ⟨_, rfl, ?_⟩; replace BK376 := am_ (blk_below (qK BK376) hb); replace HB := am_ (below_step (qB HB) hb); (try clear hb); (try clear hb2); (try clear hk); (try clear hi)))
 (try simp only [Act.put, List.setIfInBounds_toArray, List.set_cons_zero, List.set_cons_succ])
 have H := HC3.out
 clear HC3
 by_cases c7 : t377 < 0
 ·
  rw [if_pos c7] at H
  have c7b0 : decide (t377 < 0) = true := decide_eq_true c7
  clear c7
  (first | rw [c7b0] | (simp only [i64_w, i32_w]; rw [c7b0]) | skip)
  obtain rfl := Option.some.inj H
  go_wp2
  go_ret
  exact ⟨by first | rfl | (simp [errW_none, errW_some] <;> rfl) | (simp [*, errW_none, errW_some] <;> rfl), qB HB⟩
 ·
  rw [if_neg c7] at H
  have c7b0 : decide (t377 < 0) = false := decide_eq_false c7
  clear c7
  (first | rw [c7b0] | (simp only [i64_w, i32_w]; rw [c7b0]) | skip)
  obtain ⟨⟨t378, t379, t380, t381, t384, t385, t388, t391, t392, t393, t394, t395⟩, A8, H⟩ := bd_ H
  (try dsimp only at H)
  obtain ⟨t396, A9, H⟩ := bd_ H
  obtain ⟨⟨t397, t398, t399, t400, t403, t404, t407, t410, t411, t412, t413, t414⟩, A10, H⟩ := bd_ H
  (try dsimp only at H)
  obtain ⟨t416, A11, H⟩ := bd_ H
  by_cases c12 : (t416 != t396) = true
  ·
   rw [if_pos c12] at H
   have c12b0 : (t416 != t396) = true := c12
   (try (have c12b1 : decide (t416 = t396) = false := by simpa using c12))
   (try (have c12b2 : (t416 == t396) = false := by simpa using c12))
   (try (have c12b3 : ¬ (t416 = t396) := by simpa using c12))
   clear c12
   exact absurd (hr_.out ▸ H) (by simp)
  ·
   rw [if_neg c12] at H
   have c12b0 : (t416 != t396) = false := by simpa using c12
   (try (have c12b1 : decide (t416 = t396) = true := by simpa using c12))
   (try (have c12b2 : (t416 == t396) = true := by simpa using c12))
   clear c12
   obtain ⟨⟨t417, t418, t419, t420, t423, t424, t427, t430, t431, t432, t433, t434⟩, A13, H⟩ := bd_ H
   (try dsimp only at H)
   obtain ⟨t435, A14, H⟩ := bd_ H
   by_cases c15 : t435 = true
   ·
    subst c15
    rw [if_pos rfl] at H
    obtain rfl := Option.some.inj H
    obtain ⟨z16_0, z16_1, z16_2, z16_3, z16_4, z16_5, z16_6, z16_7, z16_8, z16_9, z16_10, z16_11⟩ := cz12 BK376.out
    obtain ⟨f16_0, f16_1, f16_2, f16_3, f16_4, f16_5, f16_6, f16_7, f16_8, f16_9, f16_10, f16_11⟩ := fz12 BK376.out
    try go_wp2_with (first | ((with_reducible refine gate_callee (f := 33) rfl ?_); refine goesL_ (some 13) rfl rfl Try.func33 (by kernel_rfl) rfl #[.agg #[.int .i64 a0_0, .int .i64 a0_1, .int .i64 a0_2, .slice A0_3 l0_3.length c0_3, .bool a0_4, .slice A0_5 l0_5.length c0_5, .slice A0_6 l0_6.length c0_6, .int .i64 a0_7, .int .i64 a0_8, .int .i64 a0_9, .int .i64 a0_10, .int .i64 a0_11]] rfl la_ ?_; (with_reducible refine (laws_toHouse.calls k a0_0 a0_1 a0_2 _ _ l0_3 a0_4 _ _ l0_5 _ _ l0_6 a0_7 a0_8 a0_9 a0_10 a0_11 t378 t379 t380 t381 t384 t385 t388 t391 t392 t393 t394 t395 _ ?side1 ?side2 ?side3 ?side4 ?side5 ?side6 A8.out).mono ?_); (case side1 => exact qC (Kd.C_below HR0_3.out HB.out)); (case side2 => exact HC0_3.out); (case side3 => exact qC (Kd.C_below HR0_5.out HB.out)); (case side4 => exact HC0_5.out); (case side5 => exact qC (Kd.C_below HR0_6.out HB.out)); (case side6 => exact HC0_6.out); rintro e w17 ⟨v382, v386, v389, rfl, ho0, ho1, ho2, hb⟩; refine ⟨_, rfl, ?_⟩; have HO383 := am_ (Kd.R_lower ho0 (below_size (qB HB))); have HO387 := am_ (Kd.R_lower ho1 (below_size (qB HB))); have HO390 := am_ (Kd.R_lower ho2 (below_size (qB HB))); replace BK376 := am_ (blk_below (qK BK376) hb); replace HB := am_ (below_step (qB HB) hb); (try clear hb); (try clear hb2); (try clear hk); (try clear hi); (try clear ho0); (try clear ho1); (try clear ho2); obtain ⟨Ao18, co18, eo18⟩ := Kd.R_slice HO383.out; subst eo18; obtain ⟨Ao19, co19, eo19⟩ := Kd.R_slice HO387.out; subst eo19; obtain ⟨Ao20, co20, eo20⟩ := Kd.R_slice HO390.out; subst eo20) | ((with_reducible refine gate_callee (f := 59) rfl ?_); refine goesL_ (some 14) rfl rfl Try.func59 (by kernel_rfl) rfl #[.agg #[.int .i64 t378, .int .i64 t379, .int .i64 t380, .slice Ao18 t381.length co18, .bool t384, .slice Ao19 t385.length co19, .slice Ao20 t388.length co20, .int .i64 t391, .int .i64 t392, .int .i64 t393, .int .i64 t394, .int .i64 t395]] rfl la_ ?_; (with_reducible refine (spec_HouseOk.calls k t378 t379 t380 _ _ t381 t384 _ _ t385 _ _ t388 t391 t392 t393 t394 t395 t396 _ ?side1 ?side2 ?side3 ?side4 ?side5 ?side6 A9.out).mono ?_); (case side1 => exact qC ((Kd.R_reads' HO383.out).2.2)); (case side2 => exact (Kd.R_reads' HO383.out).2.1); (case side3 => exact qC ((Kd.R_reads' HO387.out).2.2)); (case side4 => exact (Kd.R_reads' HO387.out).2.1); (case side5 => exact qC ((Kd.R_reads' HO390.out).2.2)); (case side6 => exact (Kd.R_reads' HO390.out).2.1); rintro e w21 ⟨rfl, hb⟩; refine ⟨_, rfl, ?_⟩; replace HO383 := am_ (Kd.R_below (qR HO383) hb); replace HO387 := am_ (Kd.R_below (qR HO387) hb); replace HO390 := am_ (Kd.R_below (qR HO390) hb); replace BK376 := am_ (blk_below (qK BK376) hb); replace HB := am_ (below_step (qB HB) hb); (try clear hb); (try clear hb2); (try clear hk); (try clear hi); obtain ⟨z22_0, z22_1, z22_2, z22_3, z22_4, z22_5, z22_6, z22_7, z22_8, z22_9, z22_10, z22_11⟩ := cz12 BK376.out; obtain ⟨f22_0, f22_1, f22_2, f22_3, f22_4, f22_5, f22_6, f22_7, f22_8, f22_9, f22_10, f22_11⟩ := fz12 BK376.out) | ((with_reducible refine gate_callee (f := 33) rfl ?_); refine goesL_ (some 16) rfl rfl Try.func33 (by kernel_rfl) rfl #[.agg #[.int .i64 a0_0, .int .i64 a0_1, .int .i64 a0_2, .slice A0_3 l0_3.length c0_3, .bool a0_4, .slice A0_5 l0_5.length c0_5, .slice A0_6 l0_6.length c0_6, .int .i64 a0_7, .int .i64 a0_8, .int .i64 a0_9, .int .i64 a0_10, .int .i64 a0_11]] rfl la_ ?_; (with_reducible refine (laws_toHouse.calls k a0_0 a0_1 a0_2 _ _ l0_3 a0_4 _ _ l0_5 _ _ l0_6 a0_7 a0_8 a0_9 a0_10 a0_11 t397 t398 t399 t400 t403 t404 t407 t410 t411 t412 t413 t414 _ ?side1 ?side2 ?side3 ?side4 ?side5 ?side6 A10.out).mono ?_); (case side1 => exact qC (Kd.C_below HR0_3.out HB.out)); (case side2 => exact HC0_3.out); (case side3 => exact qC (Kd.C_below HR0_5.out HB.out)); (case side4 => exact HC0_5.out); (case side5 => exact qC (Kd.C_below HR0_6.out HB.out)); (case side6 => exact HC0_6.out); rintro e w23 ⟨v401, v405, v408, rfl, ho0, ho1, ho2, hb⟩; refine ⟨_, rfl, ?_⟩; have HO402 := am_ (Kd.R_lower (Kd.R_new' ho0 (Kd.R_lt (qR HO383))) (below_size (qB HB))); replace HO383 := am_ (eR HO383 ho0 hb); have HO406 := am_ (Kd.R_lower (Kd.R_new' ho1 (Kd.R_lt (qR HO387))) (below_size (qB HB))); replace HO387 := am_ (eR HO387 ho1 hb); have HO409 := am_ (Kd.R_lower (Kd.R_new' ho2 (Kd.R_lt (qR HO390))) (below_size (qB HB))); replace HO390 := am_ (eR HO390 ho2 hb); replace BK376 := am_ (blk_below (qK BK376) hb); replace HB := am_ (below_step (qB HB) hb); (try clear hb); (try clear hb2); (try clear hk); (try clear hi); (try clear ho0); (try clear ho1); (try clear ho2)) | ((with_reducible refine gate_dst (N := 5) rfl ?_); refine box_event ?hg (N := 5) ?hd (cs := #[.int .i64 0, .int .i64 0, .int .i64 0, .slice none 0 0, .bool false, .slice none 0 0, .slice none 0 0, .int .i64 0, .int .i64 0, .int .i64 0, .int .i64 0, .int .i64 0]) (t := 67) ?hr ?_; (case hd => rfl); (case hg => rfl); (case hr => first | (go_simp; done) | (go_simp; rfl)); intro gb415 hg w24 hbox hb; replace HO383 := am_ (Kd.R_below (qR HO383) hb); replace HO387 := am_ (Kd.R_below (qR HO387) hb); replace HO390 := am_ (Kd.R_below (qR HO390) hb); replace HO402 := am_ (Kd.R_below (qR HO402) hb); replace HO406 := am_ (Kd.R_below (qR HO406) hb); replace HO409 := am_ (Kd.R_below (qR HO409) hb); have BK415 := am_ (hbox); have GW415 := am_ ((gG_ hg (qB HB))); have IGW415 := gI_ GW415; have GE415 := am_ ((gG_ hg (qB HB))); have IGE415 := gI_ GE415; replace HB := am_ (below_step (qB HB) hb); have NB376_415 := am_ ((gN_ hg (qK BK376))); have NB415_376 := am_ ((gM_ hg (qK BK376))); replace BK376 := am_ (blk_below (qK BK376) hb); clear hb hbox hg; have hnb25 := NB415_376.out; have hnc25 := NB376_415.out; obtain ⟨z26_0, z26_1, z26_2, z26_3, z26_4, z26_5, z26_6, z26_7, z26_8, z26_9, z26_10, z26_11⟩ := cz12 BK415.out; obtain ⟨f26_0, f26_1, f26_2, f26_3, f26_4, f26_5, f26_6, f26_7, f26_8, f26_9, f26_10, f26_11⟩ := fz12 BK415.out; obtain ⟨Ao27, co27, eo27⟩ := Kd.R_slice HO402.out; subst eo27; obtain ⟨Ao28, co28, eo28⟩ := Kd.R_slice HO406.out; subst eo28; obtain ⟨Ao29, co29, eo29⟩ := Kd.R_slice HO409.out; subst eo29) | ((with_reducible refine gate_callee (f := 60) rfl ?_); refine goesL_ (some 18) rfl rfl Try.func60 (by kernel_rfl) rfl #[.agg #[.int .i64 t397, .int .i64 t398, .int .i64 t399, .slice Ao27 t400.length co27, .bool t403, .slice Ao28 t404.length co28, .slice Ao29 t407.length co29, .int .i64 t410, .int .i64 t411, .int .i64 t412, .int .i64 t413, .int .i64 t414]] rfl la_ ?_; (with_reducible refine (impl_HouseOk.calls k t397 t398 t399 _ _ t400 t403 _ _ t404 _ _ t407 t410 t411 t412 t413 t414 t416 _ ?side1 ?side2 ?side3 ?side4 ?side5 ?side6 A11.out).mono ?_); (case side1 => refine (Kd.R_reads' (e := 125) (base := w.heap.size) (ok := fun k_ => (True ∧ some k_ ≠ (.slice Ao18 t381.length co18 : Value).ownBlock)) (n := t400.length) (c := co27) ?_).2.2; exact (by (with_reducible repeat (first | apply Kd.R_alloc | apply Kd.R_drewN | apply Kd.R_drew)); exact (Kd.R_mono (Go.Proofs.YtahfemlfdpbkkaaV.R_far12 (g := gb415) (Kd.R_types HO402.out BK415.out (by decide)) (fun _ hk => hk.2)) (fun _ h_ => h_.1)))); (case side2 => exact (Kd.R_reads' HO402.out).2.1); (case side3 => refine (Kd.R_reads' (e := 45) (base := w.heap.size) (ok := fun k_ => (True ∧ some k_ ≠ (.slice Ao19 t385.length co19 : Value).ownBlock)) (n := t404.length) (c := co28) ?_).2.2; exact (by (with_reducible repeat (first | apply Kd.R_alloc | apply Kd.R_drewN | apply Kd.R_drew)); exact (Kd.R_mono (Go.Proofs.YtahfemlfdpbkkaaV.R_far12 (g := gb415) (Kd.R_types HO406.out BK415.out (by decide)) (fun _ hk => hk.2)) (fun _ h_ => h_.1)))); (case side4 => exact (Kd.R_reads' HO406.out).2.1); (case side5 => refine (Kd.R_reads' (e := 46) (base := w.heap.size) (ok := fun k_ => (True ∧ some k_ ≠ (.slice Ao20 t388.length co20 : Value).ownBlock)) (n := t407.length) (c := co29) ?_).2.2; exact (by (with_reducible repeat (first | apply Kd.R_alloc | apply Kd.R_drewN | apply Kd.R_drew)); exact (Kd.R_mono (Go.Proofs.YtahfemlfdpbkkaaV.R_far12 (g := gb415) (Kd.R_types HO409.out BK415.out (by decide)) (fun _ hk => hk.2)) (fun _ h_ => h_.1)))); (case side6 => exact (Kd.R_reads' HO409.out).2.1); rintro e w30 ⟨rfl, hb⟩; refine ⟨_, rfl, ?_⟩; replace HO383 := am_ (Kd.R_below (by (with_reducible repeat (first | apply Kd.R_alloc | apply Kd.R_drewN | apply Kd.R_drew)); exact (Kd.R_mono (Go.Proofs.YtahfemlfdpbkkaaV.R_far12 (g := gb415) (Kd.R_types HO383.out BK415.out (by decide)) (fun _ hk => hk.2)) (fun _ h_ => h_.1))) hb); replace HO387 := am_ (Kd.R_below (by (with_reducible repeat (first | apply Kd.R_alloc | apply Kd.R_drewN | apply Kd.R_drew)); exact (Kd.R_mono (Go.Proofs.YtahfemlfdpbkkaaV.R_far12 (g := gb415) (Kd.R_types HO387.out BK415.out (by decide)) (fun _ hk => hk.2)) (fun _ h_ => h_.1))) hb); replace HO390 := am_ (Kd.R_below (by (with_reducible repeat (first | apply Kd.R_alloc | apply Kd.R_drewN | apply Kd.R_drew)); exact (Kd.R_mono (Go.Proofs.YtahfemlfdpbkkaaV.R_far12 (g := gb415) (Kd.R_types HO390.out BK415.out (by decide)) (fun _ hk => hk.2)) (fun _ h_ => h_.1))) hb); replace HO402 := am_ (Kd.R_below (by (with_reducible repeat (first | apply Kd.R_alloc | apply Kd.R_drewN | apply Kd.R_drew)); exact (Kd.R_mono (Go.Proofs.YtahfemlfdpbkkaaV.R_far12 (g := gb415) (Kd.R_types HO402.out BK415.out (by decide)) (fun _ hk => hk.2)) (fun _ h_ => h_.1))) hb); replace HO406 := am_ (Kd.R_below (by (with_reducible repeat (first | apply Kd.R_alloc | apply Kd.R_drewN | apply Kd.R_drew)); exact (Kd.R_mono (Go.Proofs.YtahfemlfdpbkkaaV.R_far12 (g := gb415) (Kd.R_types HO406.out BK415.out (by decide)) (fun _ hk => hk.2)) (fun _ h_ => h_.1))) hb); replace HO409 := am_ (Kd.R_below (by (with_reducible repeat (first | apply Kd.R_alloc | apply Kd.R_drewN | apply Kd.R_drew)); exact (Kd.R_mono (Go.Proofs.YtahfemlfdpbkkaaV.R_far12 (g := gb415) (Kd.R_types HO409.out BK415.out (by decide)) (fun _ hk => hk.2)) (fun _ h_ => h_.1))) hb); replace BK376 := am_ (blk_below (g := gb376) (o := .cells #[.int .i64 a0_0, .int .i64 a0_1, .int .i64 a0_2, .slice A0_3 l0_3.length c0_3, .bool a0_4, .slice A0_5 l0_5.length c0_5, .slice A0_6 l0_6.length c0_6, .int .i64 a0_7, .int .i64 a0_8, .int .i64 a0_9, .int .i64 a0_10, .int .i64 a0_11] 59 (0, 0)) (by (with_reducible repeat (first | refine blk_drewN ?_ _ | refine blk_drew ?_ | refine blk_alloc ?_ _)); refine Go.Proofs.YtahfemlfdpbkkaaV.blk_far12 ?_ NB376_415.out; (with_reducible repeat (first | refine blk_drewN ?_ _ | refine blk_drew ?_ | refine blk_alloc ?_ _)); exact BK376.out) hb); replace BK415 := am_ (blk_below (g := gb415) (o := .cells #[.int .i64 t397, .int .i64 t398, .int .i64 t399, .slice Ao27 t400.length co27, .bool t403, .slice Ao28 t404.length co28, .slice Ao29 t407.length co29, .int .i64 t410, .int .i64 t411, .int .i64 t412, .int .i64 t413, .int .i64 t414] 67 (0, 0)) (by (with_reducible repeat (first | refine blk_drewN ?_ _ | refine blk_drew ?_ | refine blk_alloc ?_ _)); refine Go.Proofs.YtahfemlfdpbkkaaV.blk_all12 (show _ = some (Go.Obj.cells #[.int .i64 0, .int .i64 0, .int .i64 0, .slice none 0 0, .bool false, .slice none 0 0, .slice none 0 0, .int .i64 0, .int .i64 0, .int .i64 0, .int .i64 0, .int .i64 0] _ (0, 0)) from ?_); (with_reducible repeat (first | refine blk_drewN ?_ _ | refine blk_drew ?_ | refine blk_alloc ?_ _)); exact BK415.out) hb); replace HB := am_ (below_step (qB HB) hb); (try clear hb); (try clear hb2); (try clear hk); (try clear hi)))
    replace HO383 := am_ (Kd.R_drew HO383.out)
    replace HO387 := am_ (Kd.R_drew HO387.out)
    replace HO390 := am_ (Kd.R_drew HO390.out)
    replace HO402 := am_ (Kd.R_drew HO402.out)
    replace HO406 := am_ (Kd.R_drew HO406.out)
    replace HO409 := am_ (Kd.R_drew HO409.out)
    replace BK376 := am_ (blk_drew BK376.out)
    replace BK415 := am_ (blk_drew BK415.out)
    replace HB := am_ (below_drew1 HB.out)
    refine start_ (n := 5) (S := fun w' => w'.cell? ⟨gb415, 0, none⟩ = some (.int .i64 t397) ∧ w'.cell? ⟨gb415, 1, none⟩ = some (.int .i64 t398) ∧ w'.cell? ⟨gb415, 2, none⟩ = some (.int .i64 t399) ∧ w'.cell? ⟨gb415, 3, none⟩ = some (.slice Ao27 t400.length co27) ∧ w'.cell? ⟨gb415, 4, none⟩ = some (.bool t403) ∧ w'.cell? ⟨gb415, 5, none⟩ = some (.slice Ao28 t404.length co28) ∧ w'.cell? ⟨gb415, 6, none⟩ = some (.slice Ao29 t407.length co29) ∧ w'.cell? ⟨gb415, 7, none⟩ = some (.int .i64 t410) ∧ w'.cell? ⟨gb415, 8, none⟩ = some (.int .i64 t411) ∧ w'.cell? ⟨gb415, 9, none⟩ = some (.int .i64 t412) ∧ w'.cell? ⟨gb415, 10, none⟩ = some (.int .i64 t413) ∧ w'.cell? ⟨gb415, 11, none⟩ = some (.int .i64 t414) ∧ w'.cell? ⟨gb376, 0, none⟩ = some (.int .i64 a0_0) ∧ w'.cell? ⟨gb376, 1, none⟩ = some (.int .i64 a0_1) ∧ w'.cell? ⟨gb376, 2, none⟩ = some (.int .i64 a0_2) ∧ w'.cell? ⟨gb376, 3, none⟩ = some (.slice A0_3 l0_3.length c0_3) ∧ w'.cell? ⟨gb376, 4, none⟩ = some (.bool a0_4) ∧ w'.cell? ⟨gb376, 5, none⟩ = some (.slice A0_5 l0_5.length c0_5) ∧ w'.cell? ⟨gb376, 6, none⟩ = some (.slice A0_6 l0_6.length c0_6) ∧ w'.cell? ⟨gb376, 7, none⟩ = some (.int .i64 a0_7) ∧ w'.cell? ⟨gb376, 8, none⟩ = some (.int .i64 a0_8) ∧ w'.cell? ⟨gb376, 9, none⟩ = some (.int .i64 a0_9) ∧ w'.cell? ⟨gb376, 10, none⟩ = some (.int .i64 a0_10) ∧ w'.cell? ⟨gb376, 11, none⟩ = some (.int .i64 a0_11)) (ds := []) #[oo,oo,oo,oo,oo] (by kernel_rfl) rfl rfl (cw12 BK415.out (cz12 BK376.out)) (fun hHeld => ?_)
    generalize w30.drew = w31 at HO383 HO387 HO390 HO402 HO406 HO409 BK376 BK415 HB hHeld ⊢
    refine take_ (i := 0) (N := some 22) (v := ?_) (a' := ?_) #[ii,oo,oo,oo,oo] rfl rfl (by kernel_rfl) (fun _ _ _ h => h) (Or.inl ⟨by rfl, ?_⟩) hHeld ?_ ?_
    rotate_left
    ·
     rintro w' ⟨s0, s1, s2, s3, s4, s5, s6, s7, s8, s9, s10, s11, s12, s13, s14, s15, s16, s17, s18, s19, s20, s21, s22, s23⟩
     go_simp
     with_reducible rfl
    rotate_left
    ·
     exact ap_
    refine take_ (i := 1) (N := some 23) (v := ?_) (a' := ?_) #[ii,ii,oo,oo,oo] rfl rfl (by kernel_rfl) (fun _ _ _ h => h) (Or.inl ⟨by rfl, ?_⟩) hHeld ?_ ?_
    rotate_left
    ·
     rintro w' ⟨s0, s1, s2, s3, s4, s5, s6, s7, s8, s9, s10, s11, s12, s13, s14, s15, s16, s17, s18, s19, s20, s21, s22, s23⟩
     go_simp
     with_reducible rfl
    rotate_left
    ·
     exact ap_
    refine one_ (i := 2) (N := some 24) #[ii,ii,ii,oo,oo] rfl rfl (by kernel_rfl) (by decide) (fun K hK => ?_)
    refine goes_ Try.func33 (by kernel_rfl) rfl #[.agg #[.int .i64 a0_0, .int .i64 a0_1, .int .i64 a0_2, .slice A0_3 l0_3.length c0_3, .bool a0_4, .slice A0_5 l0_5.length c0_5, .slice A0_6 l0_6.length c0_6, .int .i64 a0_7, .int .i64 a0_8, .int .i64 a0_9, .int .i64 a0_10, .int .i64 a0_11]] (by rfl) rfl rfl la_ ?_
    with_reducible refine (laws_toHouse.calls k a0_0 a0_1 a0_2 _ _ l0_3 a0_4 _ _ l0_5 _ _ l0_6 a0_7 a0_8 a0_9 a0_10 a0_11 t417 t418 t419 t420 t423 t424 t427 t430 t431 t432 t433 t434 _ ?side1 ?side2 ?side3 ?side4 ?side5 ?side6 A13.out).mono ?_
    (case side1 => exact qC (Kd.C_below HR0_3.out HB.out))
    (case side2 => exact HC0_3.out)
    (case side3 => exact qC (Kd.C_below HR0_5.out HB.out))
    (case side4 => exact HC0_5.out)
    (case side5 => exact qC (Kd.C_below HR0_6.out HB.out))
    (case side6 => exact HC0_6.out)
    rintro e w32 ⟨v421, v425, v428, rfl, ho0, ho1, ho2, hb⟩
    refine ⟨_, rfl, ?_⟩
    have HO422 := am_ (Kd.R_lower (Kd.R_new' (Kd.R_new' ho0 (Kd.R_lt (qR HO383))) (Kd.R_lt (qR HO402))) (below_size (qB HB)))
    replace HO383 := am_ (eR HO383 ho0 hb)
    replace HO402 := am_ (eR HO402 ho0 hb)
    have HO426 := am_ (Kd.R_lower (Kd.R_new' (Kd.R_new' ho1 (Kd.R_lt (qR HO387))) (Kd.R_lt (qR HO406))) (below_size (qB HB)))
    replace HO387 := am_ (eR HO387 ho1 hb)
    replace HO406 := am_ (eR HO406 ho1 hb)
    have HO429 := am_ (Kd.R_lower (Kd.R_new' (Kd.R_new' ho2 (Kd.R_lt (qR HO390))) (Kd.R_lt (qR HO409))) (below_size (qB HB)))
    replace HO390 := am_ (eR HO390 ho2 hb)
    replace HO409 := am_ (eR HO409 ho2 hb)
    replace BK376 := am_ (blk_below (qK BK376) hb)
    replace BK415 := am_ (blk_below (qK BK415) hb)
    replace HB := am_ (below_step (qB HB) hb)
    (try clear hb ho0 ho1 ho2)
    obtain ⟨Ao33, co33, eo33⟩ := Kd.R_slice HO422.out
    (first | subst eo33 | (injection eo33 with f1_ f2_ f3_; have f4_ := f1_.symm; have f5_ := f3_.symm; clear f1_ f2_ f3_; subst f4_; subst f5_))
    obtain ⟨Ao34, co34, eo34⟩ := Kd.R_slice HO426.out
    (first | subst eo34 | (injection eo34 with f1_ f2_ f3_; have f4_ := f1_.symm; have f5_ := f3_.symm; clear f1_ f2_ f3_; subst f4_; subst f5_))
    obtain ⟨Ao35, co35, eo35⟩ := Kd.R_slice HO429.out
    (first | subst eo35 | (injection eo35 with f1_ f2_ f3_; have f4_ := f1_.symm; have f5_ := f3_.symm; clear f1_ f2_ f3_; subst f4_; subst f5_))
    refine hK.out _ _ (cw12 BK415.out (cz12 BK376.out)) (fun hHeld => ?_)
    clear hK K
    refine norm_ (a' := ?_) ?_ ?_
    rotate_left
    ·
     show Act.put _ (some 24) _ = _
     exact ap_
    refine one_ (i := 3) (N := some 25) #[ii,ii,ii,ii,oo] rfl rfl (by kernel_rfl) (by decide) (fun K hK => ?_)
    refine goes_ Try.func35 (by kernel_rfl) rfl #[.agg #[.int .i64 t397, .int .i64 t398, .int .i64 t399, .slice Ao27 t400.length co27, .bool t403, .slice Ao28 t404.length co28, .slice Ao29 t407.length co29, .int .i64 t410, .int .i64 t411, .int .i64 t412, .int .i64 t413, .int .i64 t414], .agg #[.int .i64 t417, .int .i64 t418, .int .i64 t419, .slice Ao33 t420.length co33, .bool t423, .slice Ao34 t424.length co34, .slice Ao35 t427.length co35, .int .i64 t430, .int .i64 t431, .int .i64 t432, .int .i64 t433, .int .i64 t434]] (by rfl) rfl rfl la_ ?_
    with_reducible refine (laws_eqHouse.calls k t397 t398 t399 _ _ t400 t403 _ _ t404 _ _ t407 t410 t411 t412 t413 t414 t417 t418 t419 _ _ t420 t423 _ _ t424 _ _ t427 t430 t431 t432 t433 t434 true _ ?side1 ?side2 ?side3 ?side4 ?side5 ?side6 ?side7 ?side8 ?side9 ?side10 ?side11 ?side12 ⟨rfl⟩ A14.out).mono ?_
    (case side1 => exact qC ((Kd.R_reads' HO402.out).2.2))
    (case side2 => exact (Kd.R_reads' HO402.out).2.1)
    (case side3 => exact qC ((Kd.R_reads' HO406.out).2.2))
    (case side4 => exact (Kd.R_reads' HO406.out).2.1)
    (case side5 => exact qC ((Kd.R_reads' HO409.out).2.2))
    (case side6 => exact (Kd.R_reads' HO409.out).2.1)
    (case side7 => exact qC ((Kd.R_reads' HO422.out).2.2))
    (case side8 => exact (Kd.R_reads' HO422.out).2.1)
    (case side9 => exact qC ((Kd.R_reads' HO426.out).2.2))
    (case side10 => exact (Kd.R_reads' HO426.out).2.1)
    (case side11 => exact qC ((Kd.R_reads' HO429.out).2.2))
    (case side12 => exact (Kd.R_reads' HO429.out).2.1)
    rintro e w36 ⟨rfl, hb⟩
    refine ⟨_, rfl, ?_⟩
    replace HO383 := am_ (Kd.R_below (qR HO383) hb)
    replace HO387 := am_ (Kd.R_below (qR HO387) hb)
    replace HO390 := am_ (Kd.R_below (qR HO390) hb)
    replace HO402 := am_ (Kd.R_below (qR HO402) hb)
    replace HO406 := am_ (Kd.R_below (qR HO406) hb)
    replace HO409 := am_ (Kd.R_below (qR HO409) hb)
    replace HO422 := am_ (Kd.R_below (qR HO422) hb)
    replace HO426 := am_ (Kd.R_below (qR HO426) hb)
    replace HO429 := am_ (Kd.R_below (qR HO429) hb)
    replace BK376 := am_ (blk_below (qK BK376) hb)
    replace BK415 := am_ (blk_below (qK BK415) hb)
    replace HB := am_ (below_step (qB HB) hb)
    (try clear hb)
    refine hK.out _ _ (cw12 BK415.out (cz12 BK376.out)) (fun hHeld => ?_)
    clear hK K
    refine norm_ (a' := ?_) ?_ ?_
    rotate_left
    ·
     show Act.put _ (some 25) _ = _
     exact ap_
    refine pure_ (i := 4) (N := some 26) (v := ?_) (a' := ?_) #[ii,ii,ii,ii,ii] rfl rfl (by kernel_rfl) (fun _ _ _ h => h) (Or.inl ⟨by rfl, ?_⟩) ?_ ?_
    rotate_left
    ·
     intro w'
     go_simp
     with_reducible rfl
    rotate_left
    ·
     exact ap_
    refine done_ (by kernel_rfl) ?_
    try go_wp2
    go_ret
    exact ⟨by first | rfl | (simp [errW_none, errW_some] <;> rfl) | (simp [*, errW_none, errW_some] <;> rfl), qB HB⟩
   ·
    replace c15 := Bool.eq_false_iff.mpr c15
    subst c15
    rw [if_neg (show ¬ (false = true) by decide)] at H
    exact absurd (hr_.out ▸ H) (by simp)

end Go.Proofs.Ytahfemlfdpbkkaa.PFnExactHouseOk
