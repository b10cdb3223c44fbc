-- Written by a program of this session (myprint.py, over the kit's print): contracts of FnExactPutCtl
import Derived.Test.YtahfemlfdpbkkaaPFnExactPutCtlx0
import Derived.Test.YtahfemlfdpbkkaaPFnExactPutCtlx3
import Derived.Test.YtahfemlfdpbkkaaPFnExactPutCtlx4
import Derived.Test.YtahfemlfdpbkkaaPFnExactPutCtlx10
import Derived.Test.YtahfemlfdpbkkaaPFnExactPutCtlx17
import Derived.Test.YtahfemlfdpbkkaaPFnExactPutCtlx18
namespace Go.Proofs.Ytahfemlfdpbkkaa.PFnExactPutCtl
open Go.RowKit Go.Proofs.YtahfemlfdpbkkaaW.PrintWords Go.Proofs.YtahfemlfdpbkkaaW.PrintLast Go.Proofs.YtahfemlfdpbkkaaW.PrintMore Go.Proofs.YtahfemlfdpbkkaaV
attribute [local go_sem] max2_int min2_int max_two min_two max_three min_three max_four min_four   -- for this text's walks alone
set_option linter.unusedVariables false
set_option linter.unusedSimpArgs false

/-! ### laws_FnExactPutCtl: function 14 -/
def laws_FnExactPutCtl.j0 : Nat → List Int → List Int → Bool → Int → Int → Int → Int → Int → Bool → Int → List (S42) → Option (Bool)
 | 0, _, _, _, _, _, _, _, _, _, _, _ => none
 | k + 1, x4, x6, x42, x554000, x554001, x554002, x554003, x554004, x554005, x554006, x554007 => if x42 = true then (some false) else ((laws_markByteS.f k x6 1).bind fun bt597 => ((laws_heldByteS.f k bt597.2 1).bind fun t599 => (if t599 < 0 then (some false) else (if t599 = bt597.1 then ((laws_toCtl.f k x554000 x554001 x554002 x554003 x554004 x554005 x554006 x554007).bind fun bt600 => ((impl_PutCtl.f k bt600.1 bt600.2.1 bt600.2.2.1 bt600.2.2.2.1 bt600.2.2.2.2.1 bt600.2.2.2.2.2.1 bt600.2.2.2.2.2.2.1 bt600.2.2.2.2.2.2.2).bind fun t610 => ((laws_eqByteS.f k t610 x4).bind fun t613 => (if t613 = true then ((laws_heldByteS.f k bt597.2 1).bind fun t614 => (if t614 < 0 then (some false) else (if t614 = bt597.1 then (some true) else (some false)))) else (some false))))) else (some false)))))
def laws_FnExactPutCtl.f (k : Nat) (a0_0 : Int) (a0_1 : Int) (a0_2 : Int) (a0_3 : Int) (a0_4 : Int) (a0_5 : Bool) (a0_6 : Int) (l0_7 : List (S42)) : Option (Bool) := (laws_szCtl.f k a0_0 a0_1 a0_2 a0_3 a0_4 a0_5 a0_6 l0_7 1048576).bind fun t554 => (if t554 < 0 then (some true) else ((laws_toCtl.f k a0_0 a0_1 a0_2 a0_3 a0_4 a0_5 a0_6 l0_7).bind fun bt555 => ((spec_PutCtl.f k bt555.1 bt555.2.1 bt555.2.2.1 bt555.2.2.2.1 bt555.2.2.2.2.1 bt555.2.2.2.2.2.1 bt555.2.2.2.2.2.2.1 bt555.2.2.2.2.2.2.2).bind fun t565 => ((laws_toCtl.f k a0_0 a0_1 a0_2 a0_3 a0_4 a0_5 a0_6 l0_7).bind fun bt568 => ((impl_PutCtl.f k bt568.1 bt568.2.1 bt568.2.2.1 bt568.2.2.2.1 bt568.2.2.2.2.1 bt568.2.2.2.2.2.1 bt568.2.2.2.2.2.2.1 bt568.2.2.2.2.2.2.2).bind fun t579 => ((laws_eqByteS.f k t579 t565).bind fun t582 => (if t582 = true then ((laws_toCtl.f k a0_0 a0_1 a0_2 a0_3 a0_4 a0_5 a0_6 l0_7).bind fun bt583 => ((laws_eqCtl.f k bt568.1 bt568.2.1 bt568.2.2.1 bt568.2.2.2.1 bt568.2.2.2.2.1 bt568.2.2.2.2.2.1 bt568.2.2.2.2.2.2.1 bt568.2.2.2.2.2.2.2 bt583.1 bt583.2.1 bt583.2.2.1 bt583.2.2.2.1 bt583.2.2.2.2.1 bt583.2.2.2.2.2.1 bt583.2.2.2.2.2.2.1 bt583.2.2.2.2.2.2.2).bind fun t593 => (if t593 = true then ((laws_markCtl.f k bt568.1 bt568.2.1 bt568.2.2.1 bt568.2.2.2.1 bt568.2.2.2.2.1 bt568.2.2.2.2.2.1 bt568.2.2.2.2.2.2.1 bt568.2.2.2.2.2.2.2 1).bind fun bt594 => (if bt594.1 < 0 then (laws_FnExactPutCtl.j0 k t565 t579 true a0_0 a0_1 a0_2 a0_3 a0_4 a0_5 a0_6 l0_7) else ((laws_eqByteS.f k t579 t565).bind fun t596 => (laws_FnExactPutCtl.j0 k t565 t579 (!t596) a0_0 a0_1 a0_2 a0_3 a0_4 a0_5 a0_6 l0_7)))) else (some false)))) else (some false))))))))
theorem laws_FnExactPutCtl.mono_l : ∀ k, (∀ y0 y1 y2 y3 y4 y5 y6 y7 y8 y9 y10, LeO (laws_FnExactPutCtl.j0 k y0 y1 y2 y3 y4 y5 y6 y7 y8 y9 y10) (laws_FnExactPutCtl.j0 (k + 1) y0 y1 y2 y3 y4 y5 y6 y7 y8 y9 y10))
 | 0 => fun _ _ _ _ _ _ _ _ _ _ _ r h => by simp [laws_FnExactPutCtl.j0] at h
 | k + 1 => by
  have ih0 := laws_FnExactPutCtl.mono_l k
  ·
   intro y0 y1 y2 y3 y4 y5 y6 y7 y8 y9 y10
   unfold laws_FnExactPutCtl.j0
   repeat' first
   | (with_reducible exact ih0 _ _ _ _ _ _ _ _ _ _ _)
   | (with_reducible exact impl_PutCtl.mono _ _ _ _ _ _ _ _ _)
   | (with_reducible exact laws_eqByteS.mono _ _ _)
   | (with_reducible exact laws_eqCtl.mono _ _ _ _ _ _ _ _ _ _ _ _ _ _ _ _ _)
   | (with_reducible exact laws_heldByteS.mono _ _ _)
   | (with_reducible exact laws_markByteS.mono _ _ _)
   | (with_reducible exact laws_markCtl.mono _ _ _ _ _ _ _ _ _ _)
   | (with_reducible exact laws_szCtl.mono _ _ _ _ _ _ _ _ _ _)
   | (with_reducible exact laws_toCtl.mono _ _ _ _ _ _ _ _ _)
   | (with_reducible exact spec_PutCtl.mono _ _ _ _ _ _ _ _ _)
   | (with_reducible exact LeO.refl _)
   | (with_reducible exact LeO.none _)
   | (with_reducible refine LeO.ite ?_ ?_)
   | (with_reducible refine LeO.bind ?_ (fun _ => ?_))
   | exact ih0 _ _ _ _ _ _ _ _ _ _ _
   | exact impl_PutCtl.mono _ _ _ _ _ _ _ _ _
   | exact laws_eqByteS.mono _ _ _
   | exact laws_eqCtl.mono _ _ _ _ _ _ _ _ _ _ _ _ _ _ _ _ _
   | exact laws_heldByteS.mono _ _ _
   | exact laws_markByteS.mono _ _ _
   | exact laws_markCtl.mono _ _ _ _ _ _ _ _ _ _
   | exact laws_szCtl.mono _ _ _ _ _ _ _ _ _ _
   | exact laws_toCtl.mono _ _ _ _ _ _ _ _ _
   | exact spec_PutCtl.mono _ _ _ _ _ _ _ _ _
   | exact LeO.none _
   | refine LeO.ite ?_ ?_
   | refine LeO.bind ?_ (fun _ => ?_)
theorem laws_FnExactPutCtl.mono : ∀ a0 a1 a2 a3 a4 a5 a6 a7 k, LeO (laws_FnExactPutCtl.f k a0 a1 a2 a3 a4 a5 a6 a7) (laws_FnExactPutCtl.f (k + 1) a0 a1 a2 a3 a4 a5 a6 a7) := by
 intro a0 a1 a2 a3 a4 a5 a6 a7 k
 have ih0 := laws_FnExactPutCtl.mono_l k
 unfold laws_FnExactPutCtl.f
 repeat' first
   | (with_reducible exact ih0 _ _ _ _ _ _ _ _ _ _ _)
   | (with_reducible exact impl_PutCtl.mono _ _ _ _ _ _ _ _ _)
   | (with_reducible exact laws_eqByteS.mono _ _ _)
   | (with_reducible exact laws_eqCtl.mono _ _ _ _ _ _ _ _ _ _ _ _ _ _ _ _ _)
   | (with_reducible exact laws_heldByteS.mono _ _ _)
   | (with_reducible exact laws_markByteS.mono _ _ _)
   | (with_reducible exact laws_markCtl.mono _ _ _ _ _ _ _ _ _ _)
   | (with_reducible exact laws_szCtl.mono _ _ _ _ _ _ _ _ _ _)
   | (with_reducible exact laws_toCtl.mono _ _ _ _ _ _ _ _ _)
   | (with_reducible exact spec_PutCtl.mono _ _ _ _ _ _ _ _ _)
   | (with_reducible exact LeO.refl _)
   | (with_reducible exact LeO.none _)
   | (with_reducible refine LeO.ite ?_ ?_)
   | (with_reducible refine LeO.bind ?_ (fun _ => ?_))
   | exact ih0 _ _ _ _ _ _ _ _ _ _ _
   | exact impl_PutCtl.mono _ _ _ _ _ _ _ _ _
   | exact laws_eqByteS.mono _ _ _
   | exact laws_eqCtl.mono _ _ _ _ _ _ _ _ _ _ _ _ _ _ _ _ _
   | exact laws_heldByteS.mono _ _ _
   | exact laws_markByteS.mono _ _ _
   | exact laws_markCtl.mono _ _ _ _ _ _ _ _ _ _
   | exact laws_szCtl.mono _ _ _ _ _ _ _ _ _ _
   | exact laws_toCtl.mono _ _ _ _ _ _ _ _ _
   | exact spec_PutCtl.mono _ _ _ _ _ _ _ _ _
   | exact LeO.none _
   | refine LeO.ite ?_ ?_
   | refine LeO.bind ?_ (fun _ => ?_)
set_option maxHeartbeats 8000000 in
set_option maxRecDepth 100000 in
theorem laws_FnExactPutCtl.calls (k : Nat) (a0_0 : Int) (a0_1 : Int) (a0_2 : Int) (a0_3 : Int) (a0_4 : Int) (a0_5 : Bool) (a0_6 : Int) (A0_7 : Option Addr) (c0_7 : Nat) (l0_7 : List (S42)) (r : Bool) (w : World) (hr0_7 : Kd.C k42 w A0_7 l0_7.length l0_7) (hc0_7 : l0_7.length ≤ c0_7) (hr_ : Aside0 (r = true)) (h : laws_FnExactPutCtl.f k a0_0 a0_1 a0_2 a0_3 a0_4 a0_5 a0_6 l0_7 = some r) :
  Calls Try.prog 14 #[.agg #[.int .i64 a0_0, .int .i64 a0_1, .int .i64 a0_2, .int .i64 a0_3, .int .i64 a0_4, .bool a0_5, .int .i64 a0_6, .slice A0_7 l0_7.length c0_7]] w fun e w' => e = .returned (.bool r) ∧ Below w.heap.size w w' := by
 have hu81 := Try.underlying81
 have hu86 := Try.underlying86
 have HR0_7 := Aside0.mk hr0_7
 have HC0_7 := Aside0.mk hc0_7
 clear hr0_7 hc0_7
 have HB := Aside0.mk (Below.refl w.heap.size w)
 have H : ((laws_szCtl.f k a0_0 a0_1 a0_2 a0_3 a0_4 a0_5 a0_6 l0_7 1048576).bind fun t554 => (if t554 < 0 then (some true) else ((laws_toCtl.f k a0_0 a0_1 a0_2 a0_3 a0_4 a0_5 a0_6 l0_7).bind fun bt555 => ((spec_PutCtl.f k bt555.1 bt555.2.1 bt555.2.2.1 bt555.2.2.2.1 bt555.2.2.2.2.1 bt555.2.2.2.2.2.1 bt555.2.2.2.2.2.2.1 bt555.2.2.2.2.2.2.2).bind fun t565 => ((laws_toCtl.f k a0_0 a0_1 a0_2 a0_3 a0_4 a0_5 a0_6 l0_7).bind fun bt568 => ((impl_PutCtl.f k bt568.1 bt568.2.1 bt568.2.2.1 bt568.2.2.2.1 bt568.2.2.2.2.1 bt568.2.2.2.2.2.1 bt568.2.2.2.2.2.2.1 bt568.2.2.2.2.2.2.2).bind fun t579 => ((laws_eqByteS.f k t579 t565).bind fun t582 => (if t582 = true then ((laws_toCtl.f k a0_0 a0_1 a0_2 a0_3 a0_4 a0_5 a0_6 l0_7).bind fun bt583 => ((laws_eqCtl.f k bt568.1 bt568.2.1 bt568.2.2.1 bt568.2.2.2.1 bt568.2.2.2.2.1 bt568.2.2.2.2.2.1 bt568.2.2.2.2.2.2.1 bt568.2.2.2.2.2.2.2 bt583.1 bt583.2.1 bt583.2.2.1 bt583.2.2.2.1 bt583.2.2.2.2.1 bt583.2.2.2.2.2.1 bt583.2.2.2.2.2.2.1 bt583.2.2.2.2.2.2.2).bind fun t593 => (if t593 = true then ((laws_markCtl.f k bt568.1 bt568.2.1 bt568.2.2.1 bt568.2.2.2.1 bt568.2.2.2.2.1 bt568.2.2.2.2.2.1 bt568.2.2.2.2.2.2.1 bt568.2.2.2.2.2.2.2 1).bind fun bt594 => (if bt594.1 < 0 then (laws_FnExactPutCtl.j0 k t565 t579 true a0_0 a0_1 a0_2 a0_3 a0_4 a0_5 a0_6 l0_7) else ((laws_eqByteS.f k t579 t565).bind fun t596 => (laws_FnExactPutCtl.j0 k t565 t579 (!t596) a0_0 a0_1 a0_2 a0_3 a0_4 a0_5 a0_6 l0_7)))) else (some false)))) else (some false))))))))) = some r := h
 clear h
 obtain ⟨t554, A2, H⟩ := bd_ H
 have HC3 := Aside0.mk H
 clear H
 go_enter Try.func14, Try.ntmps14
 go_upto_if 15 with (first | ((with_reducible refine gate_dst (N := 1) rfl ?_); refine box_event ?hg (N := 1) ?hd (cs := #[.int .i64 a0_0, .int .i64 a0_1, .int .i64 a0_2, .int .i64 a0_3, .int .i64 a0_4, .bool a0_5, .int .i64 a0_6, .slice A0_7 l0_7.length c0_7]) (t := 81) ?hr ?_; (case hd => rfl); (case hg => rfl); (case hr => first | (go_simp; done) | (go_simp; rfl)); intro gb553 hg w4 hbox hb; have BK553 := am_ (hbox); have GW553 := am_ ((gG_ hg (qB HB))); have IGW553 := gI_ GW553; have GE553 := am_ ((gG_ hg (qB HB))); have IGE553 := gI_ GE553; replace HB := am_ (below_step (qB HB) hb); clear hb hbox hg; obtain ⟨z5_0, z5_1, z5_2, z5_3, z5_4, z5_5, z5_6, z5_7⟩ := cz8 BK553.out; obtain ⟨f5_0, f5_1, f5_2, f5_3, f5_4, f5_5, f5_6, f5_7⟩ := fz8 BK553.out) | ((with_reducible refine gate_callee (f := 46) rfl ?_); refine goesL_ (some 13) rfl rfl Try.func46 (by kernel_rfl) rfl #[.agg #[.int .i64 a0_0, .int .i64 a0_1, .int .i64 a0_2, .int .i64 a0_3, .int .i64 a0_4, .bool a0_5, .int .i64 a0_6, .slice A0_7 l0_7.length c0_7], .int .i64 1048576] rfl la_ ?_; (with_reducible refine (laws_szCtl.calls k a0_0 a0_1 a0_2 a0_3 a0_4 a0_5 a0_6 _ _ l0_7 1048576 t554 _ ?side1 ?side2 A2.out).mono ?_); (case side1 => exact qC (Kd.C_below HR0_7.out HB.out)); (case side2 => exact HC0_7.out); rintro e w6 ⟨rfl, hb⟩; refine ⟨_, rfl, ?_⟩; replace BK553 := am_ (blk_below (qK BK553) hb); replace HB := am_ (below_step (qB HB) hb); (try clear hb); (try clear hb2); (try clear hk); (try clear hi)))
 (try simp only [Act.put, List.setIfInBounds_toArray, List.set_cons_zero, List.set_cons_succ])
 have H := HC3.out
 clear HC3
 by_cases c7 : t554 < 0
 ·
  rw [if_pos c7] at H
  have c7b0 : decide (t554 < 0) = true := decide_eq_true c7
  clear c7
  (first | rw [c7b0] | (simp only [i64_w, i32_w]; rw [c7b0]) | skip)
  obtain rfl := Option.some.inj H
  go_wp2
  go_ret
  exact ⟨by first | rfl | (simp [errW_none, errW_some] <;> rfl) | (simp [*, errW_none, errW_some] <;> rfl), qB HB⟩
 ·
  rw [if_neg c7] at H
  have c7b0 : decide (t554 < 0) = false := decide_eq_false c7
  clear c7
  (first | rw [c7b0] | (simp only [i64_w, i32_w]; rw [c7b0]) | skip)
  obtain ⟨⟨t555, t556, t557, t558, t559, t560, t561, t562⟩, A8, H⟩ := bd_ H
  (try dsimp only at H)
  obtain ⟨t565, A9, H⟩ := bd_ H
  obtain ⟨⟨t568, t569, t570, t571, t572, t573, t574, t575⟩, A10, H⟩ := bd_ H
  (try dsimp only at H)
  obtain ⟨t579, A11, H⟩ := bd_ H
  obtain ⟨t582, A12, H⟩ := bd_ H
  by_cases c13 : t582 = true
  ·
   subst c13
   rw [if_pos rfl] at H
   obtain ⟨⟨t583, t584, t585, t586, t587, t588, t589, t590⟩, A14, H⟩ := bd_ H
   (try dsimp only at H)
   obtain ⟨t593, A15, H⟩ := bd_ H
   by_cases c16 : t593 = true
   ·
    subst c16
    rw [if_pos rfl] at H
    obtain ⟨⟨t594, t595⟩, A17, H⟩ := bd_ H
    (try dsimp only at H)
    have HC18 := Aside0.mk H
    clear H
    obtain ⟨z19_0, z19_1, z19_2, z19_3, z19_4, z19_5, z19_6, z19_7⟩ := cz8 BK553.out
    obtain ⟨f19_0, f19_1, f19_2, f19_3, f19_4, f19_5, f19_6, f19_7⟩ := fz8 BK553.out
    try go_wp2_with (first | ((with_reducible refine gate_callee (f := 48) rfl ?_); refine goesL_ (some 17) rfl rfl Try.func48 (by kernel_rfl) rfl #[.agg #[.int .i64 a0_0, .int .i64 a0_1, .int .i64 a0_2, .int .i64 a0_3, .int .i64 a0_4, .bool a0_5, .int .i64 a0_6, .slice A0_7 l0_7.length c0_7]] rfl la_ ?_; (with_reducible refine (laws_toCtl.calls k a0_0 a0_1 a0_2 a0_3 a0_4 a0_5 a0_6 _ _ l0_7 t555 t556 t557 t558 t559 t560 t561 t562 _ ?side1 ?side2 A8.out).mono ?_); (case side1 => exact qC (Kd.C_below HR0_7.out HB.out)); (case side2 => exact HC0_7.out); rintro e w20 ⟨v563, rfl, ho0, hb⟩; refine ⟨_, rfl, ?_⟩; have HO564 := am_ (Kd.R_lower ho0 (below_size (qB HB))); replace BK553 := am_ (blk_below (qK BK553) hb); replace HB := am_ (below_step (qB HB) hb); (try clear hb); (try clear hb2); (try clear hk); (try clear hi); (try clear ho0); obtain ⟨Ao21, co21, eo21⟩ := Kd.R_slice HO564.out; subst eo21) | ((with_reducible refine gate_callee (f := 61) rfl ?_); refine goesL_ (some 18) rfl rfl Try.func61 (by kernel_rfl) rfl #[.agg #[.int .i64 t555, .int .i64 t556, .int .i64 t557, .int .i64 t558, .int .i64 t559, .bool t560, .int .i64 t561, .slice Ao21 t562.length co21]] rfl la_ ?_; (with_reducible refine (spec_PutCtl.calls k t555 t556 t557 t558 t559 t560 t561 _ _ t562 t565 _ ?side1 ?side2 A9.out).mono ?_); (case side1 => exact qC ((Kd.R_reads' HO564.out).2.2)); (case side2 => exact (Kd.R_reads' HO564.out).2.1); rintro e w22 ⟨v566, rfl, ho0, hb⟩; refine ⟨_, rfl, ?_⟩; replace HO564 := am_ (Kd.R_below (qR HO564) hb); have HO567 := am_ (Kd.R_lower ho0 (below_size (qB HB))); replace BK553 := am_ (blk_below (qK BK553) hb); replace HB := am_ (below_step (qB HB) hb); (try clear hb); (try clear hb2); (try clear hk); (try clear hi); (try clear ho0); obtain ⟨z23_0, z23_1, z23_2, z23_3, z23_4, z23_5, z23_6, z23_7⟩ := cz8 BK553.out; obtain ⟨f23_0, f23_1, f23_2, f23_3, f23_4, f23_5, f23_6, f23_7⟩ := fz8 BK553.out) | ((with_reducible refine gate_callee (f := 48) rfl ?_); refine goesL_ (some 20) rfl rfl Try.func48 (by kernel_rfl) rfl #[.agg #[.int .i64 a0_0, .int .i64 a0_1, .int .i64 a0_2, .int .i64 a0_3, .int .i64 a0_4, .bool a0_5, .int .i64 a0_6, .slice A0_7 l0_7.length c0_7]] rfl la_ ?_; (with_reducible refine (laws_toCtl.calls k a0_0 a0_1 a0_2 a0_3 a0_4 a0_5 a0_6 _ _ l0_7 t568 t569 t570 t571 t572 t573 t574 t575 _ ?side1 ?side2 A10.out).mono ?_); (case side1 => exact qC (Kd.C_below HR0_7.out HB.out)); (case side2 => exact HC0_7.out); rintro e w24 ⟨v576, rfl, ho0, hb⟩; refine ⟨_, rfl, ?_⟩; replace HO567 := am_ (Kd.R_below (qR HO567) hb); have HO577 := am_ (Kd.R_lower (Kd.R_new' ho0 (Kd.R_lt (qR HO564))) (below_size (qB HB))); replace HO564 := am_ (eR HO564 ho0 hb); replace BK553 := am_ (blk_below (qK BK553) hb); replace HB := am_ (below_step (qB HB) hb); (try clear hb); (try clear hb2); (try clear hk); (try clear hi); (try clear ho0)) | ((with_reducible refine gate_dst (N := 5) rfl ?_); refine box_event ?hg (N := 5) ?hd (cs := #[.int .i64 0, .int .i64 0, .int .i64 0, .int .i64 0, .int .i64 0, .bool false, .int .i64 0, .slice none 0 0]) (t := 86) ?hr ?_; (case hd => rfl); (case hg => rfl); (case hr => first | (go_simp; done) | (go_simp; rfl)); intro gb578 hg w25 hbox hb; replace HO564 := am_ (Kd.R_below (qR HO564) hb); replace HO567 := am_ (Kd.R_below (qR HO567) hb); replace HO577 := am_ (Kd.R_below (qR HO577) hb); have BK578 := am_ (hbox); have GW578 := am_ ((gG_ hg (qB HB))); have IGW578 := gI_ GW578; have GE578 := am_ ((gG_ hg (qB HB))); have IGE578 := gI_ GE578; replace HB := am_ (below_step (qB HB) hb); have NB553_578 := am_ ((gN_ hg (qK BK553))); have NB578_553 := am_ ((gM_ hg (qK BK553))); replace BK553 := am_ (blk_below (qK BK553) hb); clear hb hbox hg; have hnb26 := NB578_553.out; have hnc26 := NB553_578.out; obtain ⟨z27_0, z27_1, z27_2, z27_3, z27_4, z27_5, z27_6, z27_7⟩ := cz8 BK578.out; obtain ⟨f27_0, f27_1, f27_2, f27_3, f27_4, f27_5, f27_6, f27_7⟩ := fz8 BK578.out; obtain ⟨Ao28, co28, eo28⟩ := Kd.R_slice HO577.out; subst eo28) | ((with_reducible refine gate_callee (f := 62) rfl ?_); refine goesL_ (some 22) rfl rfl Try.func62 (by kernel_rfl) rfl #[.agg #[.int .i64 t568, .int .i64 t569, .int .i64 t570, .int .i64 t571, .int .i64 t572, .bool t573, .int .i64 t574, .slice Ao28 t575.length co28]] rfl la_ ?_; (with_reducible refine (impl_PutCtl.calls k t568 t569 t570 t571 t572 t573 t574 _ _ t575 t579 _ ?side1 ?side2 A11.out).mono ?_); (case side1 => refine (Kd.R_reads' (e := 48) (base := w.heap.size) (ok := fun k_ => (True ∧ some k_ ≠ (.slice Ao21 t562.length co21 : Value).ownBlock)) (n := t575.length) (c := co28) ?_).2.2; exact (by (with_reducible repeat (first | apply Kd.R_alloc | apply Kd.R_drewN | apply Kd.R_drew)); exact (Kd.R_mono (Go.Proofs.YtahfemlfdpbkkaaV.R_far8 (g := gb578) (Kd.R_types HO577.out BK578.out (by decide)) (fun _ hk => hk.2)) (fun _ h_ => h_.1)))); (case side2 => exact (Kd.R_reads' HO577.out).2.1); rintro e w29 ⟨v580, rfl, ho0, hb⟩; refine ⟨_, rfl, ?_⟩; replace HO564 := am_ (Kd.R_below (by (with_reducible repeat (first | apply Kd.R_alloc | apply Kd.R_drewN | apply Kd.R_drew)); exact (Kd.R_mono (Go.Proofs.YtahfemlfdpbkkaaV.R_far8 (g := gb578) (Kd.R_types HO564.out BK578.out (by decide)) (fun _ hk => hk.2)) (fun _ h_ => h_.1))) hb); replace HO577 := am_ (Kd.R_below (by (with_reducible repeat (first | apply Kd.R_alloc | apply Kd.R_drewN | apply Kd.R_drew)); exact (Kd.R_mono (Go.Proofs.YtahfemlfdpbkkaaV.R_far8 (g := gb578) (Kd.R_types HO577.out BK578.out (by decide)) (fun _ hk => hk.2)) (fun _ h_ => h_.1))) hb); have HO581 := am_ (Kd.R_lower (Kd.R_new' ho0 (Kd.R_lt (by (with_reducible repeat (first | apply Kd.R_alloc | apply Kd.R_drewN | apply Kd.R_drew)); exact (Kd.R_mono (Go.Proofs.YtahfemlfdpbkkaaV.R_far8 (g := gb578) (Kd.R_types HO567.out BK578.out (by decide)) (fun _ hk => hk.2)) (fun _ h_ => h_.1))))) (below_size (qB HB))); replace HO567 := am_ (Kd.R_elder' (by (with_reducible repeat (first | apply Kd.R_alloc | apply Kd.R_drewN | apply Kd.R_drew)); exact (Kd.R_mono (Go.Proofs.YtahfemlfdpbkkaaV.R_far8 (g := gb578) (Kd.R_types HO567.out BK578.out (by decide)) (fun _ hk => hk.2)) (fun _ h_ => h_.1))) (Kd.R_base ho0) hb); replace BK553 := am_ (blk_below (g := gb553) (o := .cells #[.int .i64 a0_0, .int .i64 a0_1, .int .i64 a0_2, .int .i64 a0_3, .int .i64 a0_4, .bool a0_5, .int .i64 a0_6, .slice A0_7 l0_7.length c0_7] 81 (0, 0)) (by (with_reducible repeat (first | refine blk_drewN ?_ _ | refine blk_drew ?_ | refine blk_alloc ?_ _)); refine Go.Proofs.YtahfemlfdpbkkaaV.blk_far8 ?_ NB553_578.out; (with_reducible repeat (first | refine blk_drewN ?_ _ | refine blk_drew ?_ | refine blk_alloc ?_ _)); exact BK553.out) hb); replace BK578 := am_ (blk_below (g := gb578) (o := .cells #[.int .i64 t568, .int .i64 t569, .int .i64 t570, .int .i64 t571, .int .i64 t572, .bool t573, .int .i64 t574, .slice Ao28 t575.length co28] 86 (0, 0)) (by (with_reducible repeat (first | refine blk_drewN ?_ _ | refine blk_drew ?_ | refine blk_alloc ?_ _)); refine Go.Proofs.YtahfemlfdpbkkaaV.blk_all8 (show _ = some (Go.Obj.cells #[.int .i64 0, .int .i64 0, .int .i64 0, .int .i64 0, .int .i64 0, .bool false, .int .i64 0, .slice none 0 0] _ (0, 0)) from ?_); (with_reducible repeat (first | refine blk_drewN ?_ _ | refine blk_drew ?_ | refine blk_alloc ?_ _)); exact BK578.out) hb); replace HB := am_ (below_step (qB HB) hb); (try clear hb); (try clear hb2); (try clear hk); (try clear hi); (try clear ho0); obtain ⟨Ao30, co30, eo30⟩ := Kd.R_slice HO581.out; subst eo30; obtain ⟨Ao31, co31, eo31⟩ := Kd.R_slice HO567.out; subst eo31) | ((with_reducible refine gate_callee (f := 28) rfl ?_); refine goesL_ (some 25) rfl rfl Try.func28 (by kernel_rfl) rfl #[.slice Ao30 t579.length co30, .slice Ao31 t565.length co31] rfl la_ ?_; (with_reducible refine (laws_eqByteS.calls k _ _ t579 _ _ t565 true _ ?side1 ?side2 ?side3 ?side4 A12.out).mono ?_); (case side1 => exact qC ((Kd.R_reads' HO581.out).2.2)); (case side2 => exact (Kd.R_reads' HO581.out).2.1); (case side3 => exact qC ((Kd.R_reads' HO567.out).2.2)); (case side4 => exact (Kd.R_reads' HO567.out).2.1); rintro e w' ⟨rfl, ⟨nd, rfl⟩⟩; refine ⟨_, rfl, ?_⟩))
    (try (rw [drewN_self w29]; generalize hq_ : World.drewN w29 _ = w29; have n0_ : Aside0 (Kd.R k48 48 w29 w.heap.size (fun k_ => some k_ ≠ (.slice Ao28 t575.length co28 : Value).ownBlock) (.slice Ao21 t562.length co21) t562) := ⟨by rw [← hq_]; exact (tR (Kd.R_mono HO564.out (fun _ hk => hk.2)))⟩; have n1_ : Aside0 (Kd.R (Kd.int .u8) 5 w29 w.heap.size (fun k_ => some k_ ≠ (.slice Ao30 t579.length co30 : Value).ownBlock) (.slice Ao31 t565.length co31) t565) := ⟨by rw [← hq_]; exact (tR (Kd.R_mono HO567.out (fun _ hk => hk.2)))⟩; have n2_ : Aside0 (Kd.R k48 48 w29 w.heap.size (fun k_ => some k_ ≠ (.slice Ao21 t562.length co21 : Value).ownBlock) (.slice Ao28 t575.length co28) t575) := ⟨by rw [← hq_]; exact (tR (Kd.R_mono HO577.out (fun _ hk => hk.2)))⟩; have n3_ : Aside0 (Kd.R (Kd.int .u8) 5 w29 w.heap.size (fun k_ => some k_ ≠ (.slice Ao31 t565.length co31 : Value).ownBlock) (.slice Ao30 t579.length co30) t579) := ⟨by rw [← hq_]; exact (tR (Kd.R_mono HO581.out (fun _ hk => hk.2)))⟩; have n4_ : Aside0 (w29.heap[gb553]? = some (.cells #[.int .i64 a0_0, .int .i64 a0_1, .int .i64 a0_2, .int .i64 a0_3, .int .i64 a0_4, .bool a0_5, .int .i64 a0_6, .slice A0_7 l0_7.length c0_7] 81 (0, 0))) := ⟨by rw [← hq_]; exact (qK BK553)⟩; have n5_ : Aside0 (w29.heap[gb578]? = some (.cells #[.int .i64 t568, .int .i64 t569, .int .i64 t570, .int .i64 t571, .int .i64 t572, .bool t573, .int .i64 t574, .slice Ao28 t575.length co28] 86 (0, 0))) := ⟨by rw [← hq_]; exact (qK BK578)⟩; have n6_ : Aside0 (Below w.heap.size w w29) := ⟨by rw [← hq_]; exact (qB HB)⟩; clear HO564 HO567 HO577 HO581 BK553 BK578 HB hq_; have HO564 := n0_; have HO567 := n1_; have HO577 := n2_; have HO581 := n3_; have BK553 := n4_; have BK578 := n5_; have HB := n6_; clear n0_ n1_ n2_ n3_ n4_ n5_ n6_))
    replace HO564 := am_ (Kd.R_drew HO564.out)
    replace HO567 := am_ (Kd.R_drew HO567.out)
    replace HO577 := am_ (Kd.R_drew HO577.out)
    replace HO581 := am_ (Kd.R_drew HO581.out)
    replace BK553 := am_ (blk_drew BK553.out)
    replace BK578 := am_ (blk_drew BK578.out)
    replace HB := am_ (below_drew1 HB.out)
    refine start_ (n := 5) (S := fun w' => w'.cell? ⟨gb578, 0, none⟩ = some (.int .i64 t568) ∧ w'.cell? ⟨gb578, 1, none⟩ = some (.int .i64 t569) ∧ w'.cell? ⟨gb578, 2, none⟩ = some (.int .i64 t570) ∧ w'.cell? ⟨gb578, 3, none⟩ = some (.int .i64 t571) ∧ w'.cell? ⟨gb578, 4, none⟩ = some (.int .i64 t572) ∧ w'.cell? ⟨gb578, 5, none⟩ = some (.bool t573) ∧ w'.cell? ⟨gb578, 6, none⟩ = some (.int .i64 t574) ∧ w'.cell? ⟨gb578, 7, none⟩ = some (.slice Ao28 t575.length co28) ∧ w'.cell? ⟨gb553, 0, none⟩ = some (.int .i64 a0_0) ∧ w'.cell? ⟨gb553, 1, none⟩ = some (.int .i64 a0_1) ∧ w'.cell? ⟨gb553, 2, none⟩ = some (.int .i64 a0_2) ∧ w'.cell? ⟨gb553, 3, none⟩ = some (.int .i64 a0_3) ∧ w'.cell? ⟨gb553, 4, none⟩ = some (.int .i64 a0_4) ∧ w'.cell? ⟨gb553, 5, none⟩ = some (.bool a0_5) ∧ w'.cell? ⟨gb553, 6, none⟩ = some (.int .i64 a0_6) ∧ w'.cell? ⟨gb553, 7, none⟩ = some (.slice A0_7 l0_7.length c0_7)) (ds := []) #[oo,oo,oo,oo,oo] (by kernel_rfl) rfl rfl (cw8 BK578.out (cz8 BK553.out)) (fun hHeld => ?_)
    generalize w29.drew = w32 at HO564 HO567 HO577 HO581 BK553 BK578 HB hHeld ⊢
    refine take_ (i := 0) (N := some 27) (v := ?_) (a' := ?_) #[ii,oo,oo,oo,oo] rfl rfl (by kernel_rfl) (fun _ _ _ h => h) (Or.inl ⟨by rfl, ?_⟩) hHeld ?_ ?_
    rotate_left
    ·
     rintro w' ⟨s0, s1, s2, s3, s4, s5, s6, s7, s8, s9, s10, s11, s12, s13, s14, s15⟩
     go_simp
     with_reducible rfl
    rotate_left
    ·
     exact ap_
    refine take_ (i := 1) (N := some 28) (v := ?_) (a' := ?_) #[ii,ii,oo,oo,oo] rfl rfl (by kernel_rfl) (fun _ _ _ h => h) (Or.inl ⟨by rfl, ?_⟩) hHeld ?_ ?_
    rotate_left
    ·
     rintro w' ⟨s0, s1, s2, s3, s4, s5, s6, s7, s8, s9, s10, s11, s12, s13, s14, s15⟩
     go_simp
     with_reducible rfl
    rotate_left
    ·
     exact ap_
    refine one_ (i := 2) (N := some 29) #[ii,ii,ii,oo,oo] rfl rfl (by kernel_rfl) (by decide) (fun K hK => ?_)
    refine goes_ Try.func48 (by kernel_rfl) rfl #[.agg #[.int .i64 a0_0, .int .i64 a0_1, .int .i64 a0_2, .int .i64 a0_3, .int .i64 a0_4, .bool a0_5, .int .i64 a0_6, .slice A0_7 l0_7.length c0_7]] (by rfl) rfl rfl la_ ?_
    with_reducible refine (laws_toCtl.calls k a0_0 a0_1 a0_2 a0_3 a0_4 a0_5 a0_6 _ _ l0_7 t583 t584 t585 t586 t587 t588 t589 t590 _ ?side1 ?side2 A14.out).mono ?_
    (case side1 => exact qC (Kd.C_below HR0_7.out HB.out))
    (case side2 => exact HC0_7.out)
    rintro e w33 ⟨v591, rfl, ho0, hb⟩
    refine ⟨_, rfl, ?_⟩
    replace HO567 := am_ (Kd.R_below (qR HO567) hb)
    replace HO581 := am_ (Kd.R_below (qR HO581) hb)
    have HO592 := am_ (Kd.R_lower (Kd.R_new' (Kd.R_new' ho0 (Kd.R_lt (qR HO564))) (Kd.R_lt (qR HO577))) (below_size (qB HB)))
    replace HO564 := am_ (eR HO564 ho0 hb)
    replace HO577 := am_ (eR HO577 ho0 hb)
    replace BK553 := am_ (blk_below (qK BK553) hb)
    replace BK578 := am_ (blk_below (qK BK578) hb)
    replace HB := am_ (below_step (qB HB) hb)
    (try clear hb ho0)
    obtain ⟨Ao34, co34, eo34⟩ := Kd.R_slice HO592.out
    (first | subst eo34 | (injection eo34 with f1_ f2_ f3_; have f4_ := f1_.symm; have f5_ := f3_.symm; clear f1_ f2_ f3_; subst f4_; subst f5_))
    refine hK.out _ _ (cw8 BK578.out (cz8 BK553.out)) (fun hHeld => ?_)
    clear hK K
    refine norm_ (a' := ?_) ?_ ?_
    rotate_left
    ·
     show Act.put _ (some 29) _ = _
     exact ap_
    refine one_ (i := 3) (N := some 30) #[ii,ii,ii,ii,oo] rfl rfl (by kernel_rfl) (by decide) (fun K hK => ?_)
    refine goes_ Try.func50 (by kernel_rfl) rfl #[.agg #[.int .i64 t568, .int .i64 t569, .int .i64 t570, .int .i64 t571, .int .i64 t572, .bool t573, .int .i64 t574, .slice Ao28 t575.length co28], .agg #[.int .i64 t583, .int .i64 t584, .int .i64 t585, .int .i64 t586, .int .i64 t587, .bool t588, .int .i64 t589, .slice Ao34 t590.length co34]] (by rfl) rfl rfl la_ ?_
    with_reducible refine (laws_eqCtl.calls k t568 t569 t570 t571 t572 t573 t574 _ _ t575 t583 t584 t585 t586 t587 t588 t589 _ _ t590 true _ ?side1 ?side2 ?side3 ?side4 ⟨rfl⟩ A15.out).mono ?_
    (case side1 => exact qC ((Kd.R_reads' HO577.out).2.2))
    (case side2 => exact (Kd.R_reads' HO577.out).2.1)
    (case side3 => exact qC ((Kd.R_reads' HO592.out).2.2))
    (case side4 => exact (Kd.R_reads' HO592.out).2.1)
    rintro e w35 ⟨rfl, hb⟩
    refine ⟨_, rfl, ?_⟩
    replace HO564 := am_ (Kd.R_below (qR HO564) hb)
    replace HO567 := am_ (Kd.R_below (qR HO567) hb)
    replace HO577 := am_ (Kd.R_below (qR HO577) hb)
    replace HO581 := am_ (Kd.R_below (qR HO581) hb)
    replace HO592 := am_ (Kd.R_below (qR HO592) hb)
    replace BK553 := am_ (blk_below (qK BK553) hb)
    replace BK578 := am_ (blk_below (qK BK578) hb)
    replace HB := am_ (below_step (qB HB) hb)
    (try clear hb)
    refine hK.out _ _ (cw8 BK578.out (cz8 BK553.out)) (fun hHeld => ?_)
    clear hK K
    refine norm_ (a' := ?_) ?_ ?_
    rotate_left
    ·
     show Act.put _ (some 30) _ = _
     exact ap_
    refine pure_ (i := 4) (N := some 31) (v := ?_) (a' := ?_) #[ii,ii,ii,ii,ii] rfl rfl (by kernel_rfl) (fun _ _ _ h => h) (Or.inl ⟨by rfl, ?_⟩) ?_ ?_
    rotate_left
    ·
     intro w'
     go_simp
     with_reducible rfl
    rotate_left
    ·
     exact ap_
    refine done_ (by kernel_rfl) ?_
    obtain ⟨z36_0, z36_1, z36_2, z36_3, z36_4, z36_5, z36_6, z36_7⟩ := cz8 BK578.out
    obtain ⟨f36_0, f36_1, f36_2, f36_3, f36_4, f36_5, f36_6, f36_7⟩ := fz8 BK578.out
    go_upto_region 14 with (first | ((with_reducible refine gate_callee (f := 63) rfl ?_); refine goesL_ (some 34) rfl rfl Try.func63 (by kernel_rfl) rfl #[.agg #[.int .i64 t568, .int .i64 t569, .int .i64 t570, .int .i64 t571, .int .i64 t572, .bool t573, .int .i64 t574, .slice Ao28 t575.length co28], .int .i64 1] rfl la_ ?_; (with_reducible refine (laws_markCtl.calls k t568 t569 t570 t571 t572 t573 t574 (fun k_ => some k_ = (.slice Ao28 t575.length co28 : Value).ownBlock) (.slice Ao28 t575.length co28) t575 1 t594 t595 w _ ?side1 ?side2 A17.out).mono ?_); (case side1 => repeat (first | (with_reducible first | exact HB.out | apply below_alloc | apply pw_below_drewN | apply below_drew1 | refine below_set ?_ GE553.out | refine below_set ?_ GE578.out) | exact HB.out)); (case side2 => exact Kd.R_tight rfl HO577.out); rintro e w37 ⟨rfl, hy0, hb, hkp⟩; refine ⟨_, rfl, ?_⟩; replace BK553 := am_ (blk_kept (qK BK553) hkp (fun hs_ => (fun e_ => (Kd.R_ne HO577.out BK553.out (by decide)) e_) hs_)); replace HO564 := am_ (Kd.R_mono (ok' := fun k_ => some k_ ≠ (.slice Ao28 t575.length co28 : Value).ownBlock ∧ some k_ ≠ (.slice Ao34 t590.length co34 : Value).ownBlock) (Kd.R_keptB (HO564.out) hkp (fun k_ hk_ hs_ => (hk_.1) hs_)) (fun k_ hk_ => ⟨hk_.1.1, hk_.1.2⟩)); replace HO567 := am_ (Kd.R_mono (ok' := fun k_ => some k_ ≠ (.slice Ao30 t579.length co30 : Value).ownBlock) (Kd.R_keptB ((Kd.R_apart' HO567.out (Kd.R_typed HO577.out) (by decide))) hkp (fun k_ hk_ hs_ => (hk_.2) hs_)) (fun k_ hk_ => hk_.1.1)); replace BK578 := am_ (blk_kept (qK BK578) hkp (fun hs_ => (fun e_ => (Kd.R_ne HO577.out BK578.out (by decide)) e_) hs_)); replace HO581 := am_ (Kd.R_mono (ok' := fun k_ => some k_ ≠ (.slice Ao31 t565.length co31 : Value).ownBlock) (Kd.R_keptB ((Kd.R_apart' HO581.out (Kd.R_typed HO577.out) (by decide))) hkp (fun k_ hk_ hs_ => (hk_.2) hs_)) (fun k_ hk_ => hk_.1.1)); replace HO577 := am_ (Kd.R_reok rfl hy0 (fun k_ e_ => HO577.out.1 k_ e_)); replace HO592 := am_ (Kd.R_mono (ok' := fun k_ => some k_ ≠ (.slice Ao21 t562.length co21 : Value).ownBlock ∧ some k_ ≠ (.slice Ao28 t575.length co28 : Value).ownBlock) (Kd.R_keptB (HO592.out) hkp (fun k_ hk_ hs_ => (hk_.2) hs_)) (fun k_ hk_ => ⟨hk_.1.1.2, hk_.1.2⟩)); replace HB := am_ (hb); (try clear hb); (try clear hkp); (try clear hy0)))
    (try simp only [Act.put, List.setIfInBounds_toArray, List.set_cons_zero, List.set_cons_succ])
    go_cut [42] (fun v42 wc => ∃ (kq : Nat) (x42_17 : Bool), v42 = .bool x42_17 ∧ Aside0 (laws_FnExactPutCtl.j0 kq t565 t579 x42_17 a0_0 a0_1 a0_2 a0_3 a0_4 a0_5 a0_6 l0_7 = some r) ∧ Aside0 (kq ≤ k) ∧ Aside0 (Kd.R (Kd.int .u8) 5 wc w.heap.size (fun k_ => some k_ ≠ ((.slice Ao30 t579.length co30) : Value).ownBlock) (.slice Ao31 t565.length co31) t565) ∧ Aside0 (Kd.R (Kd.int .u8) 5 wc w.heap.size (fun k_ => some k_ ≠ ((.slice Ao31 t565.length co31) : Value).ownBlock) (.slice Ao30 t579.length co30) t579) ∧ Aside0 (Kd.R k48 48 wc w.heap.size (fun _ => True) (.slice Ao28 t575.length co28) t595) ∧ Aside0 (wc.heap[gb553]? = some (.cells #[.int .i64 a0_0, .int .i64 a0_1, .int .i64 a0_2, .int .i64 a0_3, .int .i64 a0_4, .bool a0_5, .int .i64 a0_6, (.slice A0_7 l0_7.length c0_7)] 81 (0, 0))) ∧ Aside0 (wc.heap[gb578]? = some (.cells #[.int .i64 t568, .int .i64 t569, .int .i64 t570, .int .i64 t571, .int .i64 t572, .bool t573, .int .i64 t574, (.slice Ao28 t575.length co28)] 86 (0, 0))) ∧ Aside0 (Below w.heap.size w wc))
    case first =>
     have H := HC18.out
     clear HC18
     by_cases c38 : t594 < 0
     ·
      rw [if_pos c38] at H
      have c38b0 : decide (t594 < 0) = true := decide_eq_true c38
      clear c38
      (first | rw [c38b0] | (simp only [i64_w, i32_w]; rw [c38b0]) | skip)
      have H' := Aside0.mk H
      clear H
      go_wp2
      go_meet
      case rel => exact ⟨_, (true), eqq_, H', ⟨by first | omega | exact Nat.le_refl _⟩, ⟨qR HO567⟩, ⟨qR HO581⟩, ⟨by (with_reducible repeat (first | apply Kd.R_alloc | apply Kd.R_drewN | apply Kd.R_drew)); exact Kd.R_mono HO577.out (fun _ hk => trivial)⟩, ⟨qK BK553⟩, ⟨qK BK578⟩, ⟨qB HB⟩⟩
     ·
      rw [if_neg c38] at H
      have c38b0 : decide (t594 < 0) = false := decide_eq_false c38
      clear c38
      (first | rw [c38b0] | (simp only [i64_w, i32_w]; rw [c38b0]) | skip)
      obtain ⟨t596, A39, H⟩ := bd_ H
      have H' := Aside0.mk H
      clear H
      go_wp2_with (first | (go_at_call 28; (with_reducible refine (laws_eqByteS.calls k _ _ t579 _ _ t565 t596 _ ?side1 ?side2 ?side3 ?side4 A39.out).mono ?_); (case side1 => exact qC ((Kd.R_reads' HO581.out).2.2)); (case side2 => exact (Kd.R_reads' HO581.out).2.1); (case side3 => exact qC ((Kd.R_reads' HO567.out).2.2)); (case side4 => exact (Kd.R_reads' HO567.out).2.1); rintro e w' ⟨rfl, ⟨nd, rfl⟩⟩))
      go_meet
      case rel => exact ⟨_, (!t596), eqq_, H', ⟨by first | omega | exact Nat.le_refl _⟩, ⟨qR HO567⟩, ⟨qR HO581⟩, ⟨by (with_reducible repeat (first | apply Kd.R_alloc | apply Kd.R_drewN | apply Kd.R_drew)); exact Kd.R_mono HO577.out (fun _ hk => trivial)⟩, ⟨qK BK553⟩, ⟨qK BK578⟩, ⟨qB HB⟩⟩
    case rest =>
     clear HC18
     try clear c1
     try clear c2
     try clear p2
     try clear c3
     try clear c4
     try clear c5
     try clear c6
     try clear c7
     try clear c7b0
     try clear c13
     try clear c14
     try clear c16
     try clear c26
     try clear c28
     try clear c38
     try clear c38b0
     (try clear z19_0 z19_1 z19_2 z19_3 z19_4 z19_5 z19_6 z19_7)
     (try clear z23_0 z23_1 z23_2 z23_3 z23_4 z23_5 z23_6 z23_7)
     (try clear z27_0 z27_1 z27_2 z27_3 z27_4 z27_5 z27_6 z27_7)
     (try clear z36_0 z36_1 z36_2 z36_3 z36_4 z36_5 z36_6 z36_7)
     (try clear z5_0 z5_1 z5_2 z5_3 z5_4 z5_5 z5_6 z5_7)
     (try clear f19_0 f19_1 f19_2 f19_3 f19_4 f19_5 f19_6 f19_7)
     (try clear f23_0 f23_1 f23_2 f23_3 f23_4 f23_5 f23_6 f23_7)
     (try clear f27_0 f27_1 f27_2 f27_3 f27_4 f27_5 f27_6 f27_7)
     (try clear f36_0 f36_1 f36_2 f36_3 f36_4 f36_5 f36_6 f36_7)
     (try clear f5_0 f5_1 f5_2 f5_3 f5_4 f5_5 f5_6 f5_7)
     obtain ⟨kq, x42_17, rfl, HA, HJ17, HO_4, HO_6, HO_579007, BK553, BK578, HB⟩ := hcut
     have hl579007_17 := (Kd.R_reads' HO_579007.out).1
     rw [hl579007_17] at HO_579007
     (try simp only [hl579007_17])
     (try simp only [hl579007_17] at BK553)
     (try simp only [hl579007_17] at BK578)
     (try simp only [hl579007_17] at HO_4)
     (try simp only [hl579007_17] at HO_6)
     cases kq with
     | zero => exact absurd HA.out (by simp [laws_FnExactPutCtl.j0])
     | succ kj17 =>
      have H := HA.out
      clear HA
      simp only [laws_FnExactPutCtl.j0] at H
      by_cases c40 : x42_17 = true
      ·
       subst c40
       rw [if_pos rfl] at H
       exact absurd (hr_.out ▸ H) (by simp)
      ·
       replace c40 := Bool.eq_false_iff.mpr c40
       subst c40
       rw [if_neg (show ¬ (false = true) by decide)] at H
       obtain ⟨⟨t597, t598⟩, A41, H⟩ := bd_ H
       (try dsimp only at H)
       obtain ⟨t599, A42, H⟩ := bd_ H
       by_cases c43 : t599 < 0
       ·
        rw [if_pos c43] at H
        have c43b0 : decide (t599 < 0) = true := decide_eq_true c43
        clear c43
        exact absurd (hr_.out ▸ H) (by simp)
       ·
        rw [if_neg c43] at H
        have c43b0 : decide (t599 < 0) = false := decide_eq_false c43
        clear c43
        by_cases c44 : t599 = t597
        ·
         rw [if_pos c44] at H
         have c44b0 : (t599 == t597) = true := beq_iff_eq.mpr c44
         have c44b1 : (t599 != t597) = false := bne_eq_false_iff_eq.mpr c44
         clear c44
         obtain ⟨⟨t600, t601, t602, t603, t604, t605, t606, t607⟩, A45, H⟩ := bd_ H
         (try dsimp only at H)
         obtain ⟨t610, A46, H⟩ := bd_ H
         obtain ⟨t613, A47, H⟩ := bd_ H
         by_cases c48 : t613 = true
         ·
          subst c48
          rw [if_pos rfl] at H
          obtain ⟨t614, A49, H⟩ := bd_ H
          by_cases c50 : t614 < 0
          ·
           rw [if_pos c50] at H
           have c50b0 : decide (t614 < 0) = true := decide_eq_true c50
           clear c50
           exact absurd (hr_.out ▸ H) (by simp)
          ·
           rw [if_neg c50] at H
           have c50b0 : decide (t614 < 0) = false := decide_eq_false c50
           clear c50
           by_cases c51 : t614 = t597
           ·
            rw [if_pos c51] at H
            have c51b0 : (t614 == t597) = true := beq_iff_eq.mpr c51
            have c51b1 : (t614 != t597) = false := bne_eq_false_iff_eq.mpr c51
            clear c51
            obtain rfl := Option.some.inj H
            go_wp2_with (first | ((with_reducible refine gate_callee (f := 29) rfl ?_); refine goesL_ (some 45) rfl rfl Try.func29 (by kernel_rfl) rfl #[.slice Ao30 t579.length co30, .int .i64 1] rfl la_ ?_; (with_reducible refine (laws_markByteS.calls kj17 (fun k_ => some k_ = (.slice Ao30 t579.length co30 : Value).ownBlock) (.slice Ao30 t579.length co30) t579 1 t597 t598 w _ ?side1 ?side2 A41.out).mono ?_); (case side1 => repeat (first | (with_reducible first | exact HB.out | apply below_alloc | apply pw_below_drewN | apply below_drew1 | refine below_set ?_ GE553.out | refine below_set ?_ GE578.out) | exact HB.out)); (case side2 => exact Kd.R_tight rfl HO_6.out); rintro e w52 ⟨rfl, hy0, hb, hkp⟩; refine ⟨_, rfl, ?_⟩; replace HO_4 := am_ (Kd.R_mono (ok' := fun k_ => some k_ ≠ (.slice Ao30 t579.length co30 : Value).ownBlock) (Kd.R_keptB (HO_4.out) hkp (fun k_ hk_ hs_ => (hk_) hs_)) (fun k_ hk_ => hk_.1)); replace HO_579007 := am_ (Kd.R_mono (ok' := fun k_ => True) (Kd.R_keptB ((Kd.R_apart' HO_579007.out (Kd.R_typed HO_6.out) (by decide))) hkp (fun k_ hk_ hs_ => (hk_.2) hs_)) (fun k_ hk_ => trivial)); replace BK553 := am_ (blk_kept (qK BK553) hkp (fun hs_ => (fun e_ => (Kd.R_ne HO_6.out BK553.out (by decide)) e_) hs_)); replace BK578 := am_ (blk_kept (qK BK578) hkp (fun hs_ => (fun e_ => (Kd.R_ne HO_6.out BK578.out (by decide)) e_) hs_)); replace HO_6 := am_ (Kd.R_reok rfl hy0 (fun k_ e_ => HO_6.out.1 k_ e_)); replace HB := am_ (hb); (try clear hb); (try clear hkp); (try clear hy0)) | ((with_reducible refine gate_callee (f := 30) rfl ?_); refine goesL_ (some 48) rfl rfl Try.func30 (by kernel_rfl) rfl #[.slice Ao30 t598.length co30, .int .i64 1] rfl (by (try simp only [List.map_toArray, List.map_cons, List.map_nil]); first | done | (rw [show t598.length = t579.length from (Kd.R_reads' HO_6.out).1.symm] <;> rfl) | rfl | (simp only [List.length_drop, List.length_take]; rfl)) ?_; (with_reducible refine (laws_heldByteS.calls kj17 _ _ t598 1 t599 _ ?side1 ?side2 A42.out).mono ?_); (case side1 => exact qC ((Kd.R_reads' HO_6.out).2.2)); (case side2 => rw [show t598.length = t579.length from (Kd.R_reads' HO_6.out).1.symm]; exact (Kd.R_reads' HO_6.out).2.1); rintro e w' ⟨rfl, ⟨nd, rfl⟩⟩; refine ⟨_, rfl, ?_⟩; have hnb53 := NB553_578.out; have hnc53 := NB578_553.out; obtain ⟨z54_0, z54_1, z54_2, z54_3, z54_4, z54_5, z54_6, z54_7⟩ := cz8 BK553.out; obtain ⟨f54_0, f54_1, f54_2, f54_3, f54_4, f54_5, f54_6, f54_7⟩ := fz8 BK553.out) | ((with_reducible refine gate_callee (f := 48) rfl ?_); refine goesL_ (some 55) rfl rfl Try.func48 (by kernel_rfl) rfl #[.agg #[.int .i64 a0_0, .int .i64 a0_1, .int .i64 a0_2, .int .i64 a0_3, .int .i64 a0_4, .bool a0_5, .int .i64 a0_6, .slice A0_7 l0_7.length c0_7]] rfl la_ ?_; (with_reducible refine (laws_toCtl.calls kj17 a0_0 a0_1 a0_2 a0_3 a0_4 a0_5 a0_6 _ _ l0_7 t600 t601 t602 t603 t604 t605 t606 t607 _ ?side1 ?side2 A45.out).mono ?_); (case side1 => repeat (first | exact (Kd.C_below HR0_7.out (qB HB)) | (with_reducible refine Kd.C_alloc ?_ _) | (with_reducible refine Kd.C_drewN ?_ _) | (with_reducible refine Kd.C_drew ?_))); (case side2 => exact HC0_7.out); rintro e w55 ⟨v608, rfl, ho0, hb⟩; refine ⟨_, rfl, ?_⟩; replace HO_4 := am_ (Kd.R_below (qR HO_4) hb); replace HO_6 := am_ (Kd.R_below (qR HO_6) hb); have HO609 := am_ (Kd.R_lower (Kd.R_new' ho0 (Kd.R_lt (qR HO_579007))) (below_size (qB HB))); replace HO_579007 := am_ (eR HO_579007 ho0 hb); replace BK553 := am_ (blk_below (qK BK553) hb); replace BK578 := am_ (blk_below (qK BK578) hb); replace HB := am_ (below_step (qB HB) hb); (try clear hb); (try clear hb2); (try clear hk); (try clear hi); (try clear ho0); obtain ⟨Ao56, co56, eo56⟩ := Kd.R_slice HO609.out; subst eo56) | ((with_reducible refine gate_callee (f := 62) rfl ?_); refine goesL_ (some 56) rfl rfl Try.func62 (by kernel_rfl) rfl #[.agg #[.int .i64 t600, .int .i64 t601, .int .i64 t602, .int .i64 t603, .int .i64 t604, .bool t605, .int .i64 t606, .slice Ao56 t607.length co56]] rfl la_ ?_; (with_reducible refine (impl_PutCtl.calls kj17 t600 t601 t602 t603 t604 t605 t606 _ _ t607 t610 _ ?side1 ?side2 A46.out).mono ?_); (case side1 => exact qC ((Kd.R_reads' HO609.out).2.2)); (case side2 => exact (Kd.R_reads' HO609.out).2.1); rintro e w57 ⟨v611, rfl, ho0, hb⟩; refine ⟨_, rfl, ?_⟩; replace HO_579007 := am_ (Kd.R_below (qR HO_579007) hb); replace HO609 := am_ (Kd.R_below (qR HO609) hb); have HO612 := am_ (Kd.R_lower (Kd.R_new' (Kd.R_new' ho0 (Kd.R_lt (qR HO_4))) (Kd.R_lt (qR HO_6))) (below_size (qB HB))); replace HO_4 := am_ (eR HO_4 ho0 hb); replace HO_6 := am_ (eR HO_6 ho0 hb); replace BK553 := am_ (blk_below (qK BK553) hb); replace BK578 := am_ (blk_below (qK BK578) hb); replace HB := am_ (below_step (qB HB) hb); (try clear hb); (try clear hb2); (try clear hk); (try clear hi); (try clear ho0); obtain ⟨Ao58, co58, eo58⟩ := Kd.R_slice HO612.out; subst eo58) | ((with_reducible refine gate_callee (f := 28) rfl ?_); refine goesL_ (some 59) rfl rfl Try.func28 (by kernel_rfl) rfl #[.slice Ao58 t610.length co58, .slice Ao31 t565.length co31] rfl la_ ?_; (with_reducible refine (laws_eqByteS.calls kj17 _ _ t610 _ _ t565 true _ ?side1 ?side2 ?side3 ?side4 A47.out).mono ?_); (case side1 => exact qC ((Kd.R_reads' HO612.out).2.2)); (case side2 => exact (Kd.R_reads' HO612.out).2.1); (case side3 => exact qC ((Kd.R_reads' HO_4.out).2.2)); (case side4 => exact (Kd.R_reads' HO_4.out).2.1); rintro e w' ⟨rfl, ⟨nd, rfl⟩⟩; refine ⟨_, rfl, ?_⟩) | ((with_reducible refine gate_callee (f := 30) rfl ?_); refine goesL_ (some 63) rfl rfl Try.func30 (by kernel_rfl) rfl #[.slice Ao30 t598.length co30, .int .i64 1] rfl (by (try simp only [List.map_toArray, List.map_cons, List.map_nil]); first | done | (rw [show t598.length = t579.length from (Kd.R_reads' HO_6.out).1.symm] <;> rfl) | rfl | (simp only [List.length_drop, List.length_take]; rfl)) ?_; (with_reducible refine (laws_heldByteS.calls kj17 _ _ t598 1 t614 _ ?side1 ?side2 A49.out).mono ?_); (case side1 => exact qC ((Kd.R_reads' HO_6.out).2.2)); (case side2 => rw [show t598.length = t579.length from (Kd.R_reads' HO_6.out).1.symm]; exact (Kd.R_reads' HO_6.out).2.1); rintro e w' ⟨rfl, ⟨nd, rfl⟩⟩; refine ⟨_, rfl, ?_⟩))
            go_ret
            exact ⟨by first | rfl | (simp [errW_none, errW_some] <;> rfl) | (simp [*, errW_none, errW_some] <;> rfl), qB HB⟩
           ·
            rw [if_neg c51] at H
            have c51b0 : (t614 == t597) = false := beq_eq_false_iff_ne.mpr c51
            have c51b1 : (t614 != t597) = true := bne_iff_ne.mpr c51
            exact absurd (hr_.out ▸ H) (by simp)
         ·
          replace c48 := Bool.eq_false_iff.mpr c48
          subst c48
          rw [if_neg (show ¬ (false = true) by decide)] at H
          exact absurd (hr_.out ▸ H) (by simp)
        ·
         rw [if_neg c44] at H
         have c44b0 : (t599 == t597) = false := beq_eq_false_iff_ne.mpr c44
         have c44b1 : (t599 != t597) = true := bne_iff_ne.mpr c44
         exact absurd (hr_.out ▸ H) (by simp)
   ·
    replace c16 := Bool.eq_false_iff.mpr c16
    subst c16
    rw [if_neg (show ¬ (false = true) by decide)] at H
    exact absurd (hr_.out ▸ H) (by simp)
  ·
   replace c13 := Bool.eq_false_iff.mpr c13
   subst c13
   rw [if_neg (show ¬ (false = true) by decide)] at H
   exact absurd (hr_.out ▸ H) (by simp)

end Go.Proofs.Ytahfemlfdpbkkaa.PFnExactPutCtl
