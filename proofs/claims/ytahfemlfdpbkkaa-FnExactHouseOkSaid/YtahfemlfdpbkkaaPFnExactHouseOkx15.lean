-- Written by a program of this session (myprint.py, over the kit's print): contracts of FnExactHouseOk
import Derived.Test.YtahfemlfdpbkkaaPFnExactHouseOkx0
import Derived.Test.YtahfemlfdpbkkaaPFnExactHouseOkx7
import Derived.Test.YtahfemlfdpbkkaaPFnExactHouseOkx11
import Derived.Test.YtahfemlfdpbkkaaPFnExactHouseOkx12
import Derived.Test.YtahfemlfdpbkkaaPFnExactHouseOkx14
namespace Go.Proofs.Ytahfemlfdpbkkaa.PFnExactHouseOk
open Go.RowKit Go.Proofs.YtahfemlfdpbkkaaW.PrintWords Go.Proofs.YtahfemlfdpbkkaaW.PrintLast Go.Proofs.YtahfemlfdpbkkaaW.PrintMore Go.Proofs.YtahfemlfdpbkkaaV
attribute [local go_sem] max2_int min2_int max_two min_two max_three min_three max_four min_four   -- for this text's walks alone
set_option linter.unusedVariables false
set_option linter.unusedSimpArgs false

/-! ### spec_HouseOk: function 59 -/
mutual
def spec_HouseOk.j0 : Nat → Int → Bool → Int → Int → Int → List (S125) → Bool → List (S45) → List (S46) → Int → Int → Int → Int → Int → Option (Bool)
 | 0, _, _, _, _, _, _, _, _, _, _, _, _, _, _ => none
 | k + 1, x7, x8, x262000, x262001, x262002, x262003, x262004, x262005, x262006, x262007, x262008, x262009, x262010, x262011 => if x8 = true then (if x262001 = 0 then (if x262002 = 0 then (if (x262003.length : Int) = 0 then (if x262004 = true then (some false) else (if (x262005.length : Int) = 0 then (if (x262006.length : Int) = 0 then (if x262007 = 0 then ((spec_l10NoHand.f x262008 x262009 x262010 x262011).bind fun t263 => (some t263)) else (some false)) else (some false)) else (some false))) else (some false)) else (some false)) else (some false)) else (if x7 = 4 then (if x262001 = 0 then (if x262002 = 0 then (if (x262003.length : Int) = 0 then ((spec_l1In.f x262008 1 60000).bind fun t264 => (if t264 = true then ((spec_l1In.f x262009 1 20).bind fun t265 => (if t265 = true then ((spec_l1In.f x262010 0 (wrap64 (x262009 - 1))).bind fun t266 => (if t266 = true then ((spec_l9Time.f x262011).bind fun t267 => (some t267)) else (some false))) else (some false))) else (some false))) else (some false)) else (some false)) else (some false)) else (if x7 = 2 then (spec_HouseOk.j1 k (x7 == 2) x262000 x262001 x262002 x262003 x262004 x262005 x262006 x262007 x262008 x262009 x262010 x262011) else (spec_HouseOk.j1 k (x7 == 3) x262000 x262001 x262002 x262003 x262004 x262005 x262006 x262007 x262008 x262009 x262010 x262011)))
def spec_HouseOk.j1 : Nat → Bool → Int → Int → Int → List (S125) → Bool → List (S45) → List (S46) → Int → Int → Int → Int → Int → Option (Bool)
 | 0, _, _, _, _, _, _, _, _, _, _, _, _, _ => none
 | k + 1, x96, x262000, x262001, x262002, x262003, x262004, x262005, x262006, x262007, x262008, x262009, x262010, x262011 => if x96 = true then ((spec_l1In.f x262001 1 60000).bind fun t268 => (if t268 = true then ((spec_l1In.f x262002 0 60000).bind fun t269 => (if t269 = true then (if x262002 = 0 then (if (x262003.length : Int) > 0 then (spec_HouseOk.j2 k true x262000 x262001 x262002 x262003 x262004 x262005 x262006 x262007 x262008 x262009 x262010 x262011) else (if x262002 > 0 then ((spec_ConfOk.f k x262003).bind fun t270 => (if t270 = true then ((spec_l10Pairs.f k x262000 x262001 x262002 x262003 x262004 x262005 x262006 x262007 x262008 x262009 x262010 x262011).bind fun t271 => (spec_HouseOk.j2 k (!t271) x262000 x262001 x262002 x262003 x262004 x262005 x262006 x262007 x262008 x262009 x262010 x262011)) else (spec_HouseOk.j2 k true x262000 x262001 x262002 x262003 x262004 x262005 x262006 x262007 x262008 x262009 x262010 x262011))) else ((spec_l10Pairs.f k x262000 x262001 x262002 x262003 x262004 x262005 x262006 x262007 x262008 x262009 x262010 x262011).bind fun t272 => (spec_HouseOk.j2 k (!t272) x262000 x262001 x262002 x262003 x262004 x262005 x262006 x262007 x262008 x262009 x262010 x262011)))) else (if x262002 > 0 then ((spec_ConfOk.f k x262003).bind fun t273 => (if t273 = true then ((spec_l10Pairs.f k x262000 x262001 x262002 x262003 x262004 x262005 x262006 x262007 x262008 x262009 x262010 x262011).bind fun t274 => (spec_HouseOk.j2 k (!t274) x262000 x262001 x262002 x262003 x262004 x262005 x262006 x262007 x262008 x262009 x262010 x262011)) else (spec_HouseOk.j2 k true x262000 x262001 x262002 x262003 x262004 x262005 x262006 x262007 x262008 x262009 x262010 x262011))) else ((spec_l10Pairs.f k x262000 x262001 x262002 x262003 x262004 x262005 x262006 x262007 x262008 x262009 x262010 x262011).bind fun t275 => (spec_HouseOk.j2 k (!t275) x262000 x262001 x262002 x262003 x262004 x262005 x262006 x262007 x262008 x262009 x262010 x262011)))) else (spec_HouseOk.j2 k true x262000 x262001 x262002 x262003 x262004 x262005 x262006 x262007 x262008 x262009 x262010 x262011))) else (spec_HouseOk.j2 k true x262000 x262001 x262002 x262003 x262004 x262005 x262006 x262007 x262008 x262009 x262010 x262011))) else (some false)
def spec_HouseOk.j2 : Nat → Bool → Int → Int → Int → List (S125) → Bool → List (S45) → List (S46) → Int → Int → Int → Int → Int → Option (Bool)
 | 0, _, _, _, _, _, _, _, _, _, _, _, _, _ => none
 | k + 1, x135, x262000, x262001, x262002, x262003, x262004, x262005, x262006, x262007, x262008, x262009, x262010, x262011 => if x135 = true then (some false) else (if x262000 = 2 then ((spec_l10NoHand.f x262008 x262009 x262010 x262011).bind fun t276 => (some t276)) else (if x262008 = x262001 then ((spec_l1In.f x262009 1 20).bind fun t277 => (if t277 = true then ((spec_l1In.f x262010 0 x262009).bind fun t278 => (if t278 = true then ((spec_l9Time.f x262011).bind fun t279 => (some t279)) else (some false))) else (some false))) else (some false)))
end
def spec_HouseOk.f (k : Nat) (a0_0 : Int) (a0_1 : Int) (a0_2 : Int) (l0_3 : List (S125)) (a0_4 : Bool) (l0_5 : List (S45)) (l0_6 : List (S46)) (a0_7 : Int) (a0_8 : Int) (a0_9 : Int) (a0_10 : Int) (a0_11 : Int) : Option (Bool) := (spec_l10Lists.f k a0_0 a0_1 a0_2 l0_3 a0_4 l0_5 l0_6 a0_7 a0_8 a0_9 a0_10 a0_11).bind fun t262 => (if t262 = true then (if a0_0 = 0 then (spec_HouseOk.j0 k a0_0 (a0_0 == 0) a0_0 a0_1 a0_2 l0_3 a0_4 l0_5 l0_6 a0_7 a0_8 a0_9 a0_10 a0_11) else (spec_HouseOk.j0 k a0_0 (a0_0 == 1) a0_0 a0_1 a0_2 l0_3 a0_4 l0_5 l0_6 a0_7 a0_8 a0_9 a0_10 a0_11)) else (some false))
theorem spec_HouseOk.mono_l : ∀ k, (∀ y0 y1 y2 y3 y4 y5 y6 y7 y8 y9 y10 y11 y12 y13, LeO (spec_HouseOk.j0 k y0 y1 y2 y3 y4 y5 y6 y7 y8 y9 y10 y11 y12 y13) (spec_HouseOk.j0 (k + 1) y0 y1 y2 y3 y4 y5 y6 y7 y8 y9 y10 y11 y12 y13)) ∧ (∀ y0 y1 y2 y3 y4 y5 y6 y7 y8 y9 y10 y11 y12, LeO (spec_HouseOk.j1 k y0 y1 y2 y3 y4 y5 y6 y7 y8 y9 y10 y11 y12) (spec_HouseOk.j1 (k + 1) y0 y1 y2 y3 y4 y5 y6 y7 y8 y9 y10 y11 y12)) ∧ (∀ y0 y1 y2 y3 y4 y5 y6 y7 y8 y9 y10 y11 y12, LeO (spec_HouseOk.j2 k y0 y1 y2 y3 y4 y5 y6 y7 y8 y9 y10 y11 y12) (spec_HouseOk.j2 (k + 1) y0 y1 y2 y3 y4 y5 y6 y7 y8 y9 y10 y11 y12))
 | 0 => ⟨fun _ _ _ _ _ _ _ _ _ _ _ _ _ _ r h => by simp [spec_HouseOk.j0] at h, fun _ _ _ _ _ _ _ _ _ _ _ _ _ r h => by simp [spec_HouseOk.j1] at h, fun _ _ _ _ _ _ _ _ _ _ _ _ _ r h => by simp [spec_HouseOk.j2] at h⟩
 | k + 1 => by
  obtain ⟨ih0, ih1, ih2⟩ := spec_HouseOk.mono_l k
  refine ⟨?_, ?_, ?_⟩
  ·
   intro y0 y1 y2 y3 y4 y5 y6 y7 y8 y9 y10 y11 y12 y13
   unfold spec_HouseOk.j0
   repeat' first
   | (with_reducible exact ih0 _ _ _ _ _ _ _ _ _ _ _ _ _ _)
   | (with_reducible exact ih1 _ _ _ _ _ _ _ _ _ _ _ _ _)
   | (with_reducible exact ih2 _ _ _ _ _ _ _ _ _ _ _ _ _)
   | (with_reducible exact spec_ConfOk.mono _ _)
   | (with_reducible exact spec_l10Lists.mono _ _ _ _ _ _ _ _ _ _ _ _ _)
   | (with_reducible exact spec_l10Pairs.mono _ _ _ _ _ _ _ _ _ _ _ _ _)
   | (with_reducible exact LeO.refl _)
   | (with_reducible exact LeO.none _)
   | (with_reducible refine LeO.ite ?_ ?_)
   | (with_reducible refine LeO.bind ?_ (fun _ => ?_))
   | exact ih0 _ _ _ _ _ _ _ _ _ _ _ _ _ _
   | exact ih1 _ _ _ _ _ _ _ _ _ _ _ _ _
   | exact ih2 _ _ _ _ _ _ _ _ _ _ _ _ _
   | exact spec_ConfOk.mono _ _
   | exact spec_l10Lists.mono _ _ _ _ _ _ _ _ _ _ _ _ _
   | exact spec_l10Pairs.mono _ _ _ _ _ _ _ _ _ _ _ _ _
   | exact LeO.none _
   | refine LeO.ite ?_ ?_
   | refine LeO.bind ?_ (fun _ => ?_)
  ·
   intro y0 y1 y2 y3 y4 y5 y6 y7 y8 y9 y10 y11 y12
   unfold spec_HouseOk.j1
   repeat' first
   | (with_reducible exact ih0 _ _ _ _ _ _ _ _ _ _ _ _ _ _)
   | (with_reducible exact ih1 _ _ _ _ _ _ _ _ _ _ _ _ _)
   | (with_reducible exact ih2 _ _ _ _ _ _ _ _ _ _ _ _ _)
   | (with_reducible exact spec_ConfOk.mono _ _)
   | (with_reducible exact spec_l10Lists.mono _ _ _ _ _ _ _ _ _ _ _ _ _)
   | (with_reducible exact spec_l10Pairs.mono _ _ _ _ _ _ _ _ _ _ _ _ _)
   | (with_reducible exact LeO.refl _)
   | (with_reducible exact LeO.none _)
   | (with_reducible refine LeO.ite ?_ ?_)
   | (with_reducible refine LeO.bind ?_ (fun _ => ?_))
   | exact ih0 _ _ _ _ _ _ _ _ _ _ _ _ _ _
   | exact ih1 _ _ _ _ _ _ _ _ _ _ _ _ _
   | exact ih2 _ _ _ _ _ _ _ _ _ _ _ _ _
   | exact spec_ConfOk.mono _ _
   | exact spec_l10Lists.mono _ _ _ _ _ _ _ _ _ _ _ _ _
   | exact spec_l10Pairs.mono _ _ _ _ _ _ _ _ _ _ _ _ _
   | exact LeO.none _
   | refine LeO.ite ?_ ?_
   | refine LeO.bind ?_ (fun _ => ?_)
  ·
   intro y0 y1 y2 y3 y4 y5 y6 y7 y8 y9 y10 y11 y12
   unfold spec_HouseOk.j2
   repeat' first
   | (with_reducible exact ih0 _ _ _ _ _ _ _ _ _ _ _ _ _ _)
   | (with_reducible exact ih1 _ _ _ _ _ _ _ _ _ _ _ _ _)
   | (with_reducible exact ih2 _ _ _ _ _ _ _ _ _ _ _ _ _)
   | (with_reducible exact spec_ConfOk.mono _ _)
   | (with_reducible exact spec_l10Lists.mono _ _ _ _ _ _ _ _ _ _ _ _ _)
   | (with_reducible exact spec_l10Pairs.mono _ _ _ _ _ _ _ _ _ _ _ _ _)
   | (with_reducible exact LeO.refl _)
   | (with_reducible exact LeO.none _)
   | (with_reducible refine LeO.ite ?_ ?_)
   | (with_reducible refine LeO.bind ?_ (fun _ => ?_))
   | exact ih0 _ _ _ _ _ _ _ _ _ _ _ _ _ _
   | exact ih1 _ _ _ _ _ _ _ _ _ _ _ _ _
   | exact ih2 _ _ _ _ _ _ _ _ _ _ _ _ _
   | exact spec_ConfOk.mono _ _
   | exact spec_l10Lists.mono _ _ _ _ _ _ _ _ _ _ _ _ _
   | exact spec_l10Pairs.mono _ _ _ _ _ _ _ _ _ _ _ _ _
   | exact LeO.none _
   | refine LeO.ite ?_ ?_
   | refine LeO.bind ?_ (fun _ => ?_)
theorem spec_HouseOk.mono : ∀ a0 a1 a2 a3 a4 a5 a6 a7 a8 a9 a10 a11 k, LeO (spec_HouseOk.f k a0 a1 a2 a3 a4 a5 a6 a7 a8 a9 a10 a11) (spec_HouseOk.f (k + 1) a0 a1 a2 a3 a4 a5 a6 a7 a8 a9 a10 a11) := by
 intro a0 a1 a2 a3 a4 a5 a6 a7 a8 a9 a10 a11 k
 obtain ⟨ih0, ih1, ih2⟩ := spec_HouseOk.mono_l k
 unfold spec_HouseOk.f
 repeat' first
   | (with_reducible exact ih0 _ _ _ _ _ _ _ _ _ _ _ _ _ _)
   | (with_reducible exact ih1 _ _ _ _ _ _ _ _ _ _ _ _ _)
   | (with_reducible exact ih2 _ _ _ _ _ _ _ _ _ _ _ _ _)
   | (with_reducible exact spec_ConfOk.mono _ _)
   | (with_reducible exact spec_l10Lists.mono _ _ _ _ _ _ _ _ _ _ _ _ _)
   | (with_reducible exact spec_l10Pairs.mono _ _ _ _ _ _ _ _ _ _ _ _ _)
   | (with_reducible exact LeO.refl _)
   | (with_reducible exact LeO.none _)
   | (with_reducible refine LeO.ite ?_ ?_)
   | (with_reducible refine LeO.bind ?_ (fun _ => ?_))
   | exact ih0 _ _ _ _ _ _ _ _ _ _ _ _ _ _
   | exact ih1 _ _ _ _ _ _ _ _ _ _ _ _ _
   | exact ih2 _ _ _ _ _ _ _ _ _ _ _ _ _
   | exact spec_ConfOk.mono _ _
   | exact spec_l10Lists.mono _ _ _ _ _ _ _ _ _ _ _ _ _
   | exact spec_l10Pairs.mono _ _ _ _ _ _ _ _ _ _ _ _ _
   | exact LeO.none _
   | refine LeO.ite ?_ ?_
   | refine LeO.bind ?_ (fun _ => ?_)
set_option maxHeartbeats 8000000 in
set_option maxRecDepth 100000 in
theorem spec_HouseOk.calls (k : Nat) (a0_0 : Int) (a0_1 : Int) (a0_2 : Int) (A0_3 : Option Addr) (c0_3 : Nat) (l0_3 : List (S125)) (a0_4 : Bool) (A0_5 : Option Addr) (c0_5 : Nat) (l0_5 : List (S45)) (A0_6 : Option Addr) (c0_6 : Nat) (l0_6 : List (S46)) (a0_7 : Int) (a0_8 : Int) (a0_9 : Int) (a0_10 : Int) (a0_11 : Int) (r : Bool) (w : World) (hr0_3 : Kd.C k125 w A0_3 l0_3.length l0_3) (hc0_3 : l0_3.length ≤ c0_3) (hr0_5 : Kd.C k45 w A0_5 l0_5.length l0_5) (hc0_5 : l0_5.length ≤ c0_5) (hr0_6 : Kd.C k46 w A0_6 l0_6.length l0_6) (hc0_6 : l0_6.length ≤ c0_6) (h : spec_HouseOk.f k a0_0 a0_1 a0_2 l0_3 a0_4 l0_5 l0_6 a0_7 a0_8 a0_9 a0_10 a0_11 = some r) :
  Calls Try.prog 59 #[.agg #[.int .i64 a0_0, .int .i64 a0_1, .int .i64 a0_2, .slice A0_3 l0_3.length c0_3, .bool a0_4, .slice A0_5 l0_5.length c0_5, .slice A0_6 l0_6.length c0_6, .int .i64 a0_7, .int .i64 a0_8, .int .i64 a0_9, .int .i64 a0_10, .int .i64 a0_11]] w fun e w' => e = .returned (.bool r) ∧ Below w.heap.size w w' := by
 have hu67 := Try.underlying67
 have hu65 := Try.underlying65
 have HR0_3 := Aside0.mk hr0_3
 have HC0_3 := Aside0.mk hc0_3
 clear hr0_3 hc0_3
 have HR0_5 := Aside0.mk hr0_5
 have HC0_5 := Aside0.mk hc0_5
 clear hr0_5 hc0_5
 have HR0_6 := Aside0.mk hr0_6
 have HC0_6 := Aside0.mk hc0_6
 clear hr0_6 hc0_6
 have HB := Aside0.mk (Below.refl w.heap.size w)
 have H : ((spec_l10Lists.f k a0_0 a0_1 a0_2 l0_3 a0_4 l0_5 l0_6 a0_7 a0_8 a0_9 a0_10 a0_11).bind fun t262 => (if t262 = true then (if a0_0 = 0 then (spec_HouseOk.j0 k a0_0 (a0_0 == 0) a0_0 a0_1 a0_2 l0_3 a0_4 l0_5 l0_6 a0_7 a0_8 a0_9 a0_10 a0_11) else (spec_HouseOk.j0 k a0_0 (a0_0 == 1) a0_0 a0_1 a0_2 l0_3 a0_4 l0_5 l0_6 a0_7 a0_8 a0_9 a0_10 a0_11)) else (some false))) = some r := h
 clear h
 obtain ⟨t262, A2, H⟩ := bd_ H
 have HC3 := Aside0.mk H
 clear H
 go_enter Try.func59, Try.ntmps59
 go_upto_if 5 with (first | ((with_reducible refine gate_dst (N := 1) rfl ?_); (try (refine gate_guard (by rfl) ?_; dsimp only)); refine box_event ?hg (N := 1) ?hd (cs := #[.int .i64 a0_0, .int .i64 a0_1, .int .i64 a0_2, .slice A0_3 l0_3.length c0_3, .bool a0_4, .slice A0_5 l0_5.length c0_5, .slice A0_6 l0_6.length c0_6, .int .i64 a0_7, .int .i64 a0_8, .int .i64 a0_9, .int .i64 a0_10, .int .i64 a0_11]) (t := 67) ?hr ?_; (case hd => rfl); (case hg => rfl); (case hr => first | (go_simp; done) | (go_simp; rfl)); intro gb261 hg w4 hbox hb; have BK261 := am_ (hbox); have GW261 := am_ ((gG_ hg (qB HB))); have IGW261 := gI_ GW261; have GE261 := am_ ((gG_ hg (qB HB))); have IGE261 := gI_ GE261; replace HB := am_ (below_step (qB HB) hb); clear hb hbox hg; obtain ⟨z5_0, z5_1, z5_2, z5_3, z5_4, z5_5, z5_6, z5_7, z5_8, z5_9, z5_10, z5_11⟩ := cz12 BK261.out; obtain ⟨f5_0, f5_1, f5_2, f5_3, f5_4, f5_5, f5_6, f5_7, f5_8, f5_9, f5_10, f5_11⟩ := fz12 BK261.out) | ((with_reducible refine gate_callee (f := 128) rfl ?_); refine goesL_ (some 4) rfl rfl Try.func128 (by kernel_rfl) rfl #[.agg #[.int .i64 a0_0, .int .i64 a0_1, .int .i64 a0_2, .slice A0_3 l0_3.length c0_3, .bool a0_4, .slice A0_5 l0_5.length c0_5, .slice A0_6 l0_6.length c0_6, .int .i64 a0_7, .int .i64 a0_8, .int .i64 a0_9, .int .i64 a0_10, .int .i64 a0_11]] rfl la_ ?_; (with_reducible refine (spec_l10Lists.calls k a0_0 a0_1 a0_2 _ _ l0_3 a0_4 _ _ l0_5 _ _ l0_6 a0_7 a0_8 a0_9 a0_10 a0_11 t262 _ ?side1 ?side2 ?side3 ?side4 ?side5 ?side6 A2.out).mono ?_); (case side1 => exact qC (Kd.C_below HR0_3.out HB.out)); (case side2 => exact HC0_3.out); (case side3 => exact qC (Kd.C_below HR0_5.out HB.out)); (case side4 => exact HC0_5.out); (case side5 => exact qC (Kd.C_below HR0_6.out HB.out)); (case side6 => exact HC0_6.out); rintro e w6 ⟨rfl, hb⟩; refine ⟨_, rfl, ?_⟩; replace BK261 := am_ (blk_below (qK BK261) hb); replace HB := am_ (below_step (qB HB) hb); (try clear hb); (try clear hb2); (try clear hk); (try clear hi)))
 (try simp only [Act.put, List.setIfInBounds_toArray, List.set_cons_zero, List.set_cons_succ])
 have H := HC3.out
 clear HC3
 by_cases c7 : t262 = true
 ·
  subst c7
  rw [if_pos rfl] at H
  have HC8 := Aside0.mk H
  clear H
  obtain ⟨z9_0, z9_1, z9_2, z9_3, z9_4, z9_5, z9_6, z9_7, z9_8, z9_9, z9_10, z9_11⟩ := cz12 BK261.out
  obtain ⟨f9_0, f9_1, f9_2, f9_3, f9_4, f9_5, f9_6, f9_7, f9_8, f9_9, f9_10, f9_11⟩ := fz12 BK261.out
  go_upto_if 8 with (fail)
  go_cut [8] (fun v8 wc => ∃ (kq : Nat) (x8_7 : Bool), v8 = .bool x8_7 ∧ Aside0 (spec_HouseOk.j0 kq a0_0 x8_7 a0_0 a0_1 a0_2 l0_3 a0_4 l0_5 l0_6 a0_7 a0_8 a0_9 a0_10 a0_11 = some r) ∧ Aside0 (kq ≤ k) ∧ Aside0 (wc.heap[gb261]? = some (.cells #[.int .i64 a0_0, .int .i64 a0_1, .int .i64 a0_2, (.slice A0_3 l0_3.length c0_3), .bool a0_4, (.slice A0_5 l0_5.length c0_5), (.slice A0_6 l0_6.length c0_6), .int .i64 a0_7, .int .i64 a0_8, .int .i64 a0_9, .int .i64 a0_10, .int .i64 a0_11] 67 (0, 0))) ∧ Aside0 (Below w.heap.size w wc))
  case first =>
   have H := HC8.out
   clear HC8
   by_cases c10 : a0_0 = 0
   ·
    rw [if_pos c10] at H
    have c10b0 : (a0_0 == 0) = true := beq_iff_eq.mpr c10
    have c10b1 : (a0_0 != 0) = false := bne_eq_false_iff_eq.mpr c10
    clear c10
    (first | rw [c10b0] | rw [c10b1] | (simp only [i64_w, i32_w]; rw [c10b0]) | skip)
    have H' := Aside0.mk H
    clear H
    go_wp2
    go_meet
    case rel => exact ⟨_, ((a0_0 == 0)), eqq_, H', ⟨by first | omega | exact Nat.le_refl _⟩, ⟨qK BK261⟩, ⟨qB HB⟩⟩
   ·
    rw [if_neg c10] at H
    have c10b0 : (a0_0 == 0) = false := beq_eq_false_iff_ne.mpr c10
    have c10b1 : (a0_0 != 0) = true := bne_iff_ne.mpr c10
    (first | rw [c10b0] | rw [c10b1] | (simp only [i64_w, i32_w]; rw [c10b0]) | skip)
    have H' := Aside0.mk H
    clear H
    go_wp2
    go_meet
    case rel => exact ⟨_, ((a0_0 == 1)), eqq_, H', ⟨by first | omega | exact Nat.le_refl _⟩, ⟨qK BK261⟩, ⟨qB HB⟩⟩
  case rest =>
   clear HC8
   try clear c1
   try clear p2
   try clear c5
   try clear c7
   try clear c10
   try clear c10b0
   try clear c10b1
   (try clear z5_0 z5_1 z5_10 z5_11 z5_2 z5_3 z5_4 z5_5 z5_6 z5_7 z5_8 z5_9)
   (try clear z9_0 z9_1 z9_10 z9_11 z9_2 z9_3 z9_4 z9_5 z9_6 z9_7 z9_8 z9_9)
   (try clear f5_0 f5_1 f5_10 f5_11 f5_2 f5_3 f5_4 f5_5 f5_6 f5_7 f5_8 f5_9)
   (try clear f9_0 f9_1 f9_10 f9_11 f9_2 f9_3 f9_4 f9_5 f9_6 f9_7 f9_8 f9_9)
   obtain ⟨kq, x8_7, rfl, HA, HJ7, BK261, HB⟩ := hcut
   cases kq with
   | zero => exact absurd HA.out (by simp [spec_HouseOk.j0])
   | succ kj7 =>
    have H := HA.out
    clear HA
    simp only [spec_HouseOk.j0] at H
    by_cases c11 : x8_7 = true
    ·
     subst c11
     rw [if_pos rfl] at H
     by_cases c12 : a0_1 = 0
     ·
      rw [if_pos c12] at H
      have c12b0 : (a0_1 == 0) = true := beq_iff_eq.mpr c12
      have c12b1 : (a0_1 != 0) = false := bne_eq_false_iff_eq.mpr c12
      clear c12
      by_cases c13 : a0_2 = 0
      ·
       rw [if_pos c13] at H
       have c13b0 : (a0_2 == 0) = true := beq_iff_eq.mpr c13
       have c13b1 : (a0_2 != 0) = false := bne_eq_false_iff_eq.mpr c13
       clear c13
       by_cases c14 : (l0_3.length : Int) = 0
       ·
        rw [if_pos c14] at H
        have c14b0 : ((l0_3.length : Int) == 0) = true := beq_iff_eq.mpr c14
        have c14b1 : ((l0_3.length : Int) != 0) = false := bne_eq_false_iff_eq.mpr c14
        clear c14
        by_cases c15 : a0_4 = true
        ·
         subst c15
         rw [if_pos rfl] at H
         obtain rfl := Option.some.inj H
         obtain ⟨z16_0, z16_1, z16_2, z16_3, z16_4, z16_5, z16_6, z16_7, z16_8, z16_9, z16_10, z16_11⟩ := cz12 BK261.out
         obtain ⟨f16_0, f16_1, f16_2, f16_3, f16_4, f16_5, f16_6, f16_7, f16_8, f16_9, f16_10, f16_11⟩ := fz12 BK261.out
         go_wp2
         go_ret
         exact ⟨by first | rfl | (simp [errW_none, errW_some] <;> rfl) | (simp [*, errW_none, errW_some] <;> rfl), qB HB⟩
        ·
         replace c15 := Bool.eq_false_iff.mpr c15
         subst c15
         rw [if_neg (show ¬ (false = true) by decide)] at H
         by_cases c17 : (l0_5.length : Int) = 0
         ·
          rw [if_pos c17] at H
          have c17b0 : ((l0_5.length : Int) == 0) = true := beq_iff_eq.mpr c17
          have c17b1 : ((l0_5.length : Int) != 0) = false := bne_eq_false_iff_eq.mpr c17
          clear c17
          by_cases c18 : (l0_6.length : Int) = 0
          ·
           rw [if_pos c18] at H
           have c18b0 : ((l0_6.length : Int) == 0) = true := beq_iff_eq.mpr c18
           have c18b1 : ((l0_6.length : Int) != 0) = false := bne_eq_false_iff_eq.mpr c18
           clear c18
           by_cases c19 : a0_7 = 0
           ·
            rw [if_pos c19] at H
            have c19b0 : (a0_7 == 0) = true := beq_iff_eq.mpr c19
            have c19b1 : (a0_7 != 0) = false := bne_eq_false_iff_eq.mpr c19
            clear c19
            obtain ⟨t263, A20, H⟩ := bd_ H
            obtain rfl := Option.some.inj H
            obtain ⟨z21_0, z21_1, z21_2, z21_3, z21_4, z21_5, z21_6, z21_7, z21_8, z21_9, z21_10, z21_11⟩ := cz12 BK261.out
            obtain ⟨f21_0, f21_1, f21_2, f21_3, f21_4, f21_5, f21_6, f21_7, f21_8, f21_9, f21_10, f21_11⟩ := fz12 BK261.out
            go_wp2_with (first | (go_at_call 129; (with_reducible refine (spec_l10NoHand.calls a0_8 a0_9 a0_10 a0_11 t263 _ A20.out).mono ?_); rintro e w22 ⟨rfl, hb⟩; replace BK261 := am_ (blk_below (qK BK261) hb); replace HB := am_ (below_step (qB HB) hb); (try clear hb); (try clear hb2); (try clear hk); (try clear hi)))
            go_ret
            exact ⟨by first | rfl | (simp [errW_none, errW_some] <;> rfl) | (simp [*, errW_none, errW_some] <;> rfl), qB HB⟩
           ·
            rw [if_neg c19] at H
            have c19b0 : (a0_7 == 0) = false := beq_eq_false_iff_ne.mpr c19
            have c19b1 : (a0_7 != 0) = true := bne_iff_ne.mpr c19
            obtain rfl := Option.some.inj H
            obtain ⟨z23_0, z23_1, z23_2, z23_3, z23_4, z23_5, z23_6, z23_7, z23_8, z23_9, z23_10, z23_11⟩ := cz12 BK261.out
            obtain ⟨f23_0, f23_1, f23_2, f23_3, f23_4, f23_5, f23_6, f23_7, f23_8, f23_9, f23_10, f23_11⟩ := fz12 BK261.out
            go_wp2
            go_ret
            exact ⟨by first | rfl | (simp [errW_none, errW_some] <;> rfl) | (simp [*, errW_none, errW_some] <;> rfl), qB HB⟩
          ·
           rw [if_neg c18] at H
           have c18b0 : ((l0_6.length : Int) == 0) = false := beq_eq_false_iff_ne.mpr c18
           have c18b1 : ((l0_6.length : Int) != 0) = true := bne_iff_ne.mpr c18
           have c18b2 : ¬ (l0_6 = []) := fun h_ => c18 (by rw [h_]; rfl)
           obtain rfl := Option.some.inj H
           obtain ⟨z24_0, z24_1, z24_2, z24_3, z24_4, z24_5, z24_6, z24_7, z24_8, z24_9, z24_10, z24_11⟩ := cz12 BK261.out
           obtain ⟨f24_0, f24_1, f24_2, f24_3, f24_4, f24_5, f24_6, f24_7, f24_8, f24_9, f24_10, f24_11⟩ := fz12 BK261.out
           go_wp2
           go_ret
           exact ⟨by first | rfl | (simp [errW_none, errW_some] <;> rfl) | (simp [*, errW_none, errW_some] <;> rfl), qB HB⟩
         ·
          rw [if_neg c17] at H
          have c17b0 : ((l0_5.length : Int) == 0) = false := beq_eq_false_iff_ne.mpr c17
          have c17b1 : ((l0_5.length : Int) != 0) = true := bne_iff_ne.mpr c17
          have c17b2 : ¬ (l0_5 = []) := fun h_ => c17 (by rw [h_]; rfl)
          obtain rfl := Option.some.inj H
          obtain ⟨z25_0, z25_1, z25_2, z25_3, z25_4, z25_5, z25_6, z25_7, z25_8, z25_9, z25_10, z25_11⟩ := cz12 BK261.out
          obtain ⟨f25_0, f25_1, f25_2, f25_3, f25_4, f25_5, f25_6, f25_7, f25_8, f25_9, f25_10, f25_11⟩ := fz12 BK261.out
          go_wp2
          go_ret
          exact ⟨by first | rfl | (simp [errW_none, errW_some] <;> rfl) | (simp [*, errW_none, errW_some] <;> rfl), qB HB⟩
       ·
        rw [if_neg c14] at H
        have c14b0 : ((l0_3.length : Int) == 0) = false := beq_eq_false_iff_ne.mpr c14
        have c14b1 : ((l0_3.length : Int) != 0) = true := bne_iff_ne.mpr c14
        have c14b2 : ¬ (l0_3 = []) := fun h_ => c14 (by rw [h_]; rfl)
        obtain rfl := Option.some.inj H
        obtain ⟨z26_0, z26_1, z26_2, z26_3, z26_4, z26_5, z26_6, z26_7, z26_8, z26_9, z26_10, z26_11⟩ := cz12 BK261.out
        obtain ⟨f26_0, f26_1, f26_2, f26_3, f26_4, f26_5, f26_6, f26_7, f26_8, f26_9, f26_10, f26_11⟩ := fz12 BK261.out
        go_wp2
        go_ret
        exact ⟨by first | rfl | (simp [errW_none, errW_some] <;> rfl) | (simp [*, errW_none, errW_some] <;> rfl), qB HB⟩
      ·
       rw [if_neg c13] at H
       have c13b0 : (a0_2 == 0) = false := beq_eq_false_iff_ne.mpr c13
       have c13b1 : (a0_2 != 0) = true := bne_iff_ne.mpr c13
       obtain rfl := Option.some.inj H
       obtain ⟨z27_0, z27_1, z27_2, z27_3, z27_4, z27_5, z27_6, z27_7, z27_8, z27_9, z27_10, z27_11⟩ := cz12 BK261.out
       obtain ⟨f27_0, f27_1, f27_2, f27_3, f27_4, f27_5, f27_6, f27_7, f27_8, f27_9, f27_10, f27_11⟩ := fz12 BK261.out
       go_wp2
       go_ret
       exact ⟨by first | rfl | (simp [errW_none, errW_some] <;> rfl) | (simp [*, errW_none, errW_some] <;> rfl), qB HB⟩
     ·
      rw [if_neg c12] at H
      have c12b0 : (a0_1 == 0) = false := beq_eq_false_iff_ne.mpr c12
      have c12b1 : (a0_1 != 0) = true := bne_iff_ne.mpr c12
      obtain rfl := Option.some.inj H
      obtain ⟨z28_0, z28_1, z28_2, z28_3, z28_4, z28_5, z28_6, z28_7, z28_8, z28_9, z28_10, z28_11⟩ := cz12 BK261.out
      obtain ⟨f28_0, f28_1, f28_2, f28_3, f28_4, f28_5, f28_6, f28_7, f28_8, f28_9, f28_10, f28_11⟩ := fz12 BK261.out
      go_wp2
      go_ret
      exact ⟨by first | rfl | (simp [errW_none, errW_some] <;> rfl) | (simp [*, errW_none, errW_some] <;> rfl), qB HB⟩
    ·
     replace c11 := Bool.eq_false_iff.mpr c11
     subst c11
     rw [if_neg (show ¬ (false = true) by decide)] at H
     by_cases c29 : a0_0 = 4
     ·
      rw [if_pos c29] at H
      have c29b0 : (a0_0 == 4) = true := beq_iff_eq.mpr c29
      have c29b1 : (a0_0 != 4) = false := bne_eq_false_iff_eq.mpr c29
      clear c29
      by_cases c30 : a0_1 = 0
      ·
       rw [if_pos c30] at H
       have c30b0 : (a0_1 == 0) = true := beq_iff_eq.mpr c30
       have c30b1 : (a0_1 != 0) = false := bne_eq_false_iff_eq.mpr c30
       clear c30
       by_cases c31 : a0_2 = 0
       ·
        rw [if_pos c31] at H
        have c31b0 : (a0_2 == 0) = true := beq_iff_eq.mpr c31
        have c31b1 : (a0_2 != 0) = false := bne_eq_false_iff_eq.mpr c31
        clear c31
        by_cases c32 : (l0_3.length : Int) = 0
        ·
         rw [if_pos c32] at H
         have c32b0 : ((l0_3.length : Int) == 0) = true := beq_iff_eq.mpr c32
         have c32b1 : ((l0_3.length : Int) != 0) = false := bne_eq_false_iff_eq.mpr c32
         clear c32
         obtain ⟨t264, A33, H⟩ := bd_ H
         by_cases c34 : t264 = true
         ·
          subst c34
          rw [if_pos rfl] at H
          obtain ⟨t265, A35, H⟩ := bd_ H
          by_cases c36 : t265 = true
          ·
           subst c36
           rw [if_pos rfl] at H
           obtain ⟨t266, A37, H⟩ := bd_ H
           by_cases c38 : t266 = true
           ·
            subst c38
            rw [if_pos rfl] at H
            obtain ⟨t267, A39, H⟩ := bd_ H
            obtain rfl := Option.some.inj H
            obtain ⟨z40_0, z40_1, z40_2, z40_3, z40_4, z40_5, z40_6, z40_7, z40_8, z40_9, z40_10, z40_11⟩ := cz12 BK261.out
            obtain ⟨f40_0, f40_1, f40_2, f40_3, f40_4, f40_5, f40_6, f40_7, f40_8, f40_9, f40_10, f40_11⟩ := fz12 BK261.out
            go_wp2_with (first | (go_at_call 110; (with_reducible refine (spec_l1In.calls a0_8 1 60000 true _ A33.out).mono ?_); rintro e w' ⟨rfl, ⟨nd, rfl⟩⟩) | (go_at_call 110; (with_reducible refine (spec_l1In.calls a0_9 1 20 true _ A35.out).mono ?_); rintro e w' ⟨rfl, ⟨nd, rfl⟩⟩) | (go_at_call 110; (with_reducible refine (spec_l1In.calls a0_10 0 (wrap64 (a0_9 - 1)) true _ A37.out).mono ?_); rintro e w' ⟨rfl, ⟨nd, rfl⟩⟩) | (go_at_call 130; (with_reducible refine (spec_l9Time.calls a0_11 t267 _ A39.out).mono ?_); rintro e w' ⟨rfl, ⟨nd, rfl⟩⟩))
            go_ret
            exact ⟨by first | rfl | (simp [errW_none, errW_some] <;> rfl) | (simp [*, errW_none, errW_some] <;> rfl), qB HB⟩
           ·
            replace c38 := Bool.eq_false_iff.mpr c38
            subst c38
            rw [if_neg (show ¬ (false = true) by decide)] at H
            obtain rfl := Option.some.inj H
            obtain ⟨z41_0, z41_1, z41_2, z41_3, z41_4, z41_5, z41_6, z41_7, z41_8, z41_9, z41_10, z41_11⟩ := cz12 BK261.out
            obtain ⟨f41_0, f41_1, f41_2, f41_3, f41_4, f41_5, f41_6, f41_7, f41_8, f41_9, f41_10, f41_11⟩ := fz12 BK261.out
            go_wp2_with (first | (go_at_call 110; (with_reducible refine (spec_l1In.calls a0_8 1 60000 true _ A33.out).mono ?_); rintro e w' ⟨rfl, ⟨nd, rfl⟩⟩) | (go_at_call 110; (with_reducible refine (spec_l1In.calls a0_9 1 20 true _ A35.out).mono ?_); rintro e w' ⟨rfl, ⟨nd, rfl⟩⟩) | (go_at_call 110; (with_reducible refine (spec_l1In.calls a0_10 0 (wrap64 (a0_9 - 1)) false _ A37.out).mono ?_); rintro e w' ⟨rfl, ⟨nd, rfl⟩⟩))
            go_ret
            exact ⟨by first | rfl | (simp [errW_none, errW_some] <;> rfl) | (simp [*, errW_none, errW_some] <;> rfl), qB HB⟩
          ·
           replace c36 := Bool.eq_false_iff.mpr c36
           subst c36
           rw [if_neg (show ¬ (false = true) by decide)] at H
           obtain rfl := Option.some.inj H
           obtain ⟨z42_0, z42_1, z42_2, z42_3, z42_4, z42_5, z42_6, z42_7, z42_8, z42_9, z42_10, z42_11⟩ := cz12 BK261.out
           obtain ⟨f42_0, f42_1, f42_2, f42_3, f42_4, f42_5, f42_6, f42_7, f42_8, f42_9, f42_10, f42_11⟩ := fz12 BK261.out
           go_wp2_with (first | (go_at_call 110; (with_reducible refine (spec_l1In.calls a0_8 1 60000 true _ A33.out).mono ?_); rintro e w' ⟨rfl, ⟨nd, rfl⟩⟩) | (go_at_call 110; (with_reducible refine (spec_l1In.calls a0_9 1 20 false _ A35.out).mono ?_); rintro e w' ⟨rfl, ⟨nd, rfl⟩⟩))
           go_ret
           exact ⟨by first | rfl | (simp [errW_none, errW_some] <;> rfl) | (simp [*, errW_none, errW_some] <;> rfl), qB HB⟩
         ·
          replace c34 := Bool.eq_false_iff.mpr c34
          subst c34
          rw [if_neg (show ¬ (false = true) by decide)] at H
          obtain rfl := Option.some.inj H
          obtain ⟨z43_0, z43_1, z43_2, z43_3, z43_4, z43_5, z43_6, z43_7, z43_8, z43_9, z43_10, z43_11⟩ := cz12 BK261.out
          obtain ⟨f43_0, f43_1, f43_2, f43_3, f43_4, f43_5, f43_6, f43_7, f43_8, f43_9, f43_10, f43_11⟩ := fz12 BK261.out
          go_wp2_with (first | (go_at_call 110; (with_reducible refine (spec_l1In.calls a0_8 1 60000 false _ A33.out).mono ?_); rintro e w' ⟨rfl, ⟨nd, rfl⟩⟩))
          go_ret
          exact ⟨by first | rfl | (simp [errW_none, errW_some] <;> rfl) | (simp [*, errW_none, errW_some] <;> rfl), qB HB⟩
        ·
         rw [if_neg c32] at H
         have c32b0 : ((l0_3.length : Int) == 0) = false := beq_eq_false_iff_ne.mpr c32
         have c32b1 : ((l0_3.length : Int) != 0) = true := bne_iff_ne.mpr c32
         have c32b2 : ¬ (l0_3 = []) := fun h_ => c32 (by rw [h_]; rfl)
         obtain rfl := Option.some.inj H
         obtain ⟨z44_0, z44_1, z44_2, z44_3, z44_4, z44_5, z44_6, z44_7, z44_8, z44_9, z44_10, z44_11⟩ := cz12 BK261.out
         obtain ⟨f44_0, f44_1, f44_2, f44_3, f44_4, f44_5, f44_6, f44_7, f44_8, f44_9, f44_10, f44_11⟩ := fz12 BK261.out
         go_wp2
         go_ret
         exact ⟨by first | rfl | (simp [errW_none, errW_some] <;> rfl) | (simp [*, errW_none, errW_some] <;> rfl), qB HB⟩
       ·
        rw [if_neg c31] at H
        have c31b0 : (a0_2 == 0) = false := beq_eq_false_iff_ne.mpr c31
        have c31b1 : (a0_2 != 0) = true := bne_iff_ne.mpr c31
        obtain rfl := Option.some.inj H
        obtain ⟨z45_0, z45_1, z45_2, z45_3, z45_4, z45_5, z45_6, z45_7, z45_8, z45_9, z45_10, z45_11⟩ := cz12 BK261.out
        obtain ⟨f45_0, f45_1, f45_2, f45_3, f45_4, f45_5, f45_6, f45_7, f45_8, f45_9, f45_10, f45_11⟩ := fz12 BK261.out
        go_wp2
        go_ret
        exact ⟨by first | rfl | (simp [errW_none, errW_some] <;> rfl) | (simp [*, errW_none, errW_some] <;> rfl), qB HB⟩
      ·
       rw [if_neg c30] at H
       have c30b0 : (a0_1 == 0) = false := beq_eq_false_iff_ne.mpr c30
       have c30b1 : (a0_1 != 0) = true := bne_iff_ne.mpr c30
       obtain rfl := Option.some.inj H
       obtain ⟨z46_0, z46_1, z46_2, z46_3, z46_4, z46_5, z46_6, z46_7, z46_8, z46_9, z46_10, z46_11⟩ := cz12 BK261.out
       obtain ⟨f46_0, f46_1, f46_2, f46_3, f46_4, f46_5, f46_6, f46_7, f46_8, f46_9, f46_10, f46_11⟩ := fz12 BK261.out
       go_wp2
       go_ret
       exact ⟨by first | rfl | (simp [errW_none, errW_some] <;> rfl) | (simp [*, errW_none, errW_some] <;> rfl), qB HB⟩
     ·
      rw [if_neg c29] at H
      have c29b0 : (a0_0 == 4) = false := beq_eq_false_iff_ne.mpr c29
      have c29b1 : (a0_0 != 4) = true := bne_iff_ne.mpr c29
      have HC47 := Aside0.mk H
      clear H
      go_upto_if 96 with (fail)
      go_cut [96] (fun v96 wc => ∃ (kq : Nat) (x96_46 : Bool), v96 = .bool x96_46 ∧ Aside0 (spec_HouseOk.j1 kq x96_46 a0_0 a0_1 a0_2 l0_3 a0_4 l0_5 l0_6 a0_7 a0_8 a0_9 a0_10 a0_11 = some r) ∧ Aside0 (kq ≤ kj7) ∧ Aside0 (wc.heap[gb261]? = some (.cells #[.int .i64 a0_0, .int .i64 a0_1, .int .i64 a0_2, (.slice A0_3 l0_3.length c0_3), .bool a0_4, (.slice A0_5 l0_5.length c0_5), (.slice A0_6 l0_6.length c0_6), .int .i64 a0_7, .int .i64 a0_8, .int .i64 a0_9, .int .i64 a0_10, .int .i64 a0_11] 67 (0, 0))) ∧ Aside0 (Below w.heap.size w wc))
      case first =>
       have H := HC47.out
       clear HC47
       by_cases c48 : a0_0 = 2
       ·
        rw [if_pos c48] at H
        have c48b0 : (a0_0 == 2) = true := beq_iff_eq.mpr c48
        have c48b1 : (a0_0 != 2) = false := bne_eq_false_iff_eq.mpr c48
        clear c48
        (first | rw [c48b0] | rw [c48b1] | (simp only [i64_w, i32_w]; rw [c48b0]) | skip)
        have H' := Aside0.mk H
        clear H
        go_wp2
        go_meet
        case rel => exact ⟨_, ((a0_0 == 2)), eqq_, H', ⟨by have := HJ7.out; first | omega | exact Nat.le_refl _⟩, ⟨qK BK261⟩, ⟨qB HB⟩⟩
       ·
        rw [if_neg c48] at H
        have c48b0 : (a0_0 == 2) = false := beq_eq_false_iff_ne.mpr c48
        have c48b1 : (a0_0 != 2) = true := bne_iff_ne.mpr c48
        (first | rw [c48b0] | rw [c48b1] | (simp only [i64_w, i32_w]; rw [c48b0]) | skip)
        have H' := Aside0.mk H
        clear H
        go_wp2
        go_meet
        case rel => exact ⟨_, ((a0_0 == 3)), eqq_, H', ⟨by have := HJ7.out; first | omega | exact Nat.le_refl _⟩, ⟨qK BK261⟩, ⟨qB HB⟩⟩
      case rest =>
       clear HC47
       try clear c1
       try clear c2
       try clear p2
       try clear c3
       try clear c4
       try clear p6
       try clear c11
       try clear c12
       try clear c12b0
       try clear c12b1
       try clear c13
       try clear c13b0
       try clear c13b1
       try clear c14
       try clear c14b0
       try clear c14b1
       try clear c14b2
       try clear c15
       try clear c17
       try clear c17b0
       try clear c17b1
       try clear c17b2
       try clear c18
       try clear c18b0
       try clear c18b1
       try clear c18b2
       try clear c19
       try clear c19b0
       try clear c19b1
       try clear c29
       try clear c29b0
       try clear c29b1
       try clear c30
       try clear c30b0
       try clear c30b1
       try clear c31
       try clear c31b0
       try clear c31b1
       try clear c32
       try clear c32b0
       try clear c32b1
       try clear c32b2
       try clear c34
       try clear c36
       try clear c38
       try clear c48
       try clear c48b0
       try clear c48b1
       (try clear z16_0 z16_1 z16_10 z16_11 z16_2 z16_3 z16_4 z16_5 z16_6 z16_7 z16_8 z16_9)
       (try clear z21_0 z21_1 z21_10 z21_11 z21_2 z21_3 z21_4 z21_5 z21_6 z21_7 z21_8 z21_9)
       (try clear z23_0 z23_1 z23_10 z23_11 z23_2 z23_3 z23_4 z23_5 z23_6 z23_7 z23_8 z23_9)
       (try clear z24_0 z24_1 z24_10 z24_11 z24_2 z24_3 z24_4 z24_5 z24_6 z24_7 z24_8 z24_9)
       (try clear z25_0 z25_1 z25_10 z25_11 z25_2 z25_3 z25_4 z25_5 z25_6 z25_7 z25_8 z25_9)
       (try clear z26_0 z26_1 z26_10 z26_11 z26_2 z26_3 z26_4 z26_5 z26_6 z26_7 z26_8 z26_9)
       (try clear z27_0 z27_1 z27_10 z27_11 z27_2 z27_3 z27_4 z27_5 z27_6 z27_7 z27_8 z27_9)
       (try clear z28_0 z28_1 z28_10 z28_11 z28_2 z28_3 z28_4 z28_5 z28_6 z28_7 z28_8 z28_9)
       (try clear z40_0 z40_1 z40_10 z40_11 z40_2 z40_3 z40_4 z40_5 z40_6 z40_7 z40_8 z40_9)
       (try clear z41_0 z41_1 z41_10 z41_11 z41_2 z41_3 z41_4 z41_5 z41_6 z41_7 z41_8 z41_9)
       (try clear z42_0 z42_1 z42_10 z42_11 z42_2 z42_3 z42_4 z42_5 z42_6 z42_7 z42_8 z42_9)
       (try clear z43_0 z43_1 z43_10 z43_11 z43_2 z43_3 z43_4 z43_5 z43_6 z43_7 z43_8 z43_9)
       (try clear z44_0 z44_1 z44_10 z44_11 z44_2 z44_3 z44_4 z44_5 z44_6 z44_7 z44_8 z44_9)
       (try clear z45_0 z45_1 z45_10 z45_11 z45_2 z45_3 z45_4 z45_5 z45_6 z45_7 z45_8 z45_9)
       (try clear z46_0 z46_1 z46_10 z46_11 z46_2 z46_3 z46_4 z46_5 z46_6 z46_7 z46_8 z46_9)
       (try clear f16_0 f16_1 f16_10 f16_11 f16_2 f16_3 f16_4 f16_5 f16_6 f16_7 f16_8 f16_9)
       (try clear f21_0 f21_1 f21_10 f21_11 f21_2 f21_3 f21_4 f21_5 f21_6 f21_7 f21_8 f21_9)
       (try clear f23_0 f23_1 f23_10 f23_11 f23_2 f23_3 f23_4 f23_5 f23_6 f23_7 f23_8 f23_9)
       (try clear f24_0 f24_1 f24_10 f24_11 f24_2 f24_3 f24_4 f24_5 f24_6 f24_7 f24_8 f24_9)
       (try clear f25_0 f25_1 f25_10 f25_11 f25_2 f25_3 f25_4 f25_5 f25_6 f25_7 f25_8 f25_9)
       (try clear f26_0 f26_1 f26_10 f26_11 f26_2 f26_3 f26_4 f26_5 f26_6 f26_7 f26_8 f26_9)
       (try clear f27_0 f27_1 f27_10 f27_11 f27_2 f27_3 f27_4 f27_5 f27_6 f27_7 f27_8 f27_9)
       (try clear f28_0 f28_1 f28_10 f28_11 f28_2 f28_3 f28_4 f28_5 f28_6 f28_7 f28_8 f28_9)
       (try clear f40_0 f40_1 f40_10 f40_11 f40_2 f40_3 f40_4 f40_5 f40_6 f40_7 f40_8 f40_9)
       (try clear f41_0 f41_1 f41_10 f41_11 f41_2 f41_3 f41_4 f41_5 f41_6 f41_7 f41_8 f41_9)
       (try clear f42_0 f42_1 f42_10 f42_11 f42_2 f42_3 f42_4 f42_5 f42_6 f42_7 f42_8 f42_9)
       (try clear f43_0 f43_1 f43_10 f43_11 f43_2 f43_3 f43_4 f43_5 f43_6 f43_7 f43_8 f43_9)
       (try clear f44_0 f44_1 f44_10 f44_11 f44_2 f44_3 f44_4 f44_5 f44_6 f44_7 f44_8 f44_9)
       (try clear f45_0 f45_1 f45_10 f45_11 f45_2 f45_3 f45_4 f45_5 f45_6 f45_7 f45_8 f45_9)
       (try clear f46_0 f46_1 f46_10 f46_11 f46_2 f46_3 f46_4 f46_5 f46_6 f46_7 f46_8 f46_9)
       (try clear f9_10 f9_11 f9_2 f9_3 f9_4 f9_5 f9_6 f9_7 f9_8 f9_9)
       obtain ⟨kq, x96_46, rfl, HA, HJ46, BK261, HB⟩ := hcut
       cases kq with
       | zero => exact absurd HA.out (by simp [spec_HouseOk.j1])
       | succ kj46 =>
        have H := HA.out
        clear HA
        simp only [spec_HouseOk.j1] at H
        by_cases c49 : x96_46 = true
        ·
         subst c49
         rw [if_pos rfl] at H
         have HC50 := Aside0.mk H
         clear H
         go_upto_region 11 with (fail)
         go_cut [135] (fun v135 wc => ∃ (kq : Nat) (x135_49 : Bool), v135 = .bool x135_49 ∧ Aside0 (spec_HouseOk.j2 kq x135_49 a0_0 a0_1 a0_2 l0_3 a0_4 l0_5 l0_6 a0_7 a0_8 a0_9 a0_10 a0_11 = some r) ∧ Aside0 (kq ≤ kj46) ∧ Aside0 (wc.heap[gb261]? = some (.cells #[.int .i64 a0_0, .int .i64 a0_1, .int .i64 a0_2, (.slice A0_3 l0_3.length c0_3), .bool a0_4, (.slice A0_5 l0_5.length c0_5), (.slice A0_6 l0_6.length c0_6), .int .i64 a0_7, .int .i64 a0_8, .int .i64 a0_9, .int .i64 a0_10, .int .i64 a0_11] 67 (0, 0))) ∧ Aside0 (Below w.heap.size w wc))
         case first =>
          have H := HC50.out
          clear HC50
          obtain ⟨t268, A51, H⟩ := bd_ H
          by_cases c52 : t268 = true
          ·
           subst c52
           rw [if_pos rfl] at H
           obtain ⟨t269, A53, H⟩ := bd_ H
           by_cases c54 : t269 = true
           ·
            subst c54
            rw [if_pos rfl] at H
            by_cases c55 : a0_2 = 0
            ·
             rw [if_pos c55] at H
             have c55b0 : (a0_2 == 0) = true := beq_iff_eq.mpr c55
             have c55b1 : (a0_2 != 0) = false := bne_eq_false_iff_eq.mpr c55
             clear c55
             (first | rw [c55b0] | rw [c55b1] | (simp only [i64_w, i32_w]; rw [c55b0]) | skip)
             by_cases c56 : (l0_3.length : Int) > 0
             ·
              rw [if_pos c56] at H
              have c56b0 : decide (0 < (l0_3.length : Int)) = true := decide_eq_true c56
              have c56b1 : decide (0 < l0_3.length) = true := decide_eq_true (by omega)
              clear c56
              have H' := Aside0.mk H
              clear H
              obtain ⟨z57_0, z57_1, z57_2, z57_3, z57_4, z57_5, z57_6, z57_7, z57_8, z57_9, z57_10, z57_11⟩ := cz12 BK261.out
              obtain ⟨f57_0, f57_1, f57_2, f57_3, f57_4, f57_5, f57_6, f57_7, f57_8, f57_9, f57_10, f57_11⟩ := fz12 BK261.out
              go_wp2_with (first | ((with_reducible refine gate_callee (f := 110) rfl ?_); refine goesL_ (some 101) rfl rfl Try.func110 (by kernel_rfl) rfl #[.int .i64 a0_1, .int .i64 1, .int .i64 60000] rfl la_ ?_; (with_reducible refine (spec_l1In.calls a0_1 1 60000 true _ A51.out).mono ?_); rintro e w' ⟨rfl, ⟨nd, rfl⟩⟩; refine ⟨_, rfl, ?_⟩) | (go_at_call 110; (with_reducible refine (spec_l1In.calls a0_2 0 60000 true _ A53.out).mono ?_); rintro e w' ⟨rfl, ⟨nd, rfl⟩⟩))
              go_meet
              case rel => exact ⟨_, (true), eqq_, H', ⟨by have := HJ7.out; have := HJ46.out; first | omega | exact Nat.le_refl _⟩, ⟨qK BK261⟩, ⟨qB HB⟩⟩
             ·
              rw [if_neg c56] at H
              have c56b0 : decide (0 < (l0_3.length : Int)) = false := decide_eq_false c56
              have c56b1 : decide (0 < l0_3.length) = false := decide_eq_false (by omega)
              clear c56
              by_cases c58 : a0_2 > 0
              ·
               rw [if_pos c58] at H
               have c58b0 : decide (0 < a0_2) = true := decide_eq_true c58
               clear c58
               obtain ⟨t270, A59, H⟩ := bd_ H
               by_cases c60 : t270 = true
               ·
                subst c60
                rw [if_pos rfl] at H
                obtain ⟨t271, A61, H⟩ := bd_ H
                have H' := Aside0.mk H
                clear H
                obtain ⟨z62_0, z62_1, z62_2, z62_3, z62_4, z62_5, z62_6, z62_7, z62_8, z62_9, z62_10, z62_11⟩ := cz12 BK261.out
                obtain ⟨f62_0, f62_1, f62_2, f62_3, f62_4, f62_5, f62_6, f62_7, f62_8, f62_9, f62_10, f62_11⟩ := fz12 BK261.out
                go_wp2_with (first | ((with_reducible refine gate_callee (f := 110) rfl ?_); refine goesL_ (some 101) rfl rfl Try.func110 (by kernel_rfl) rfl #[.int .i64 a0_1, .int .i64 1, .int .i64 60000] rfl la_ ?_; (with_reducible refine (spec_l1In.calls a0_1 1 60000 true _ A51.out).mono ?_); rintro e w' ⟨rfl, ⟨nd, rfl⟩⟩; refine ⟨_, rfl, ?_⟩) | (go_at_call 110; (with_reducible refine (spec_l1In.calls a0_2 0 60000 true _ A53.out).mono ?_); rintro e w' ⟨rfl, ⟨nd, rfl⟩⟩) | (go_at_call 131; (with_reducible refine (spec_ConfOk.calls kj46 _ _ l0_3 true _ ?side1 ?side2 A59.out).mono ?_); (case side1 => repeat (first | exact (Kd.C_below HR0_3.out (qB HB)) | (with_reducible refine Kd.C_alloc ?_ _) | (with_reducible refine Kd.C_drewN ?_ _) | (with_reducible refine Kd.C_drew ?_))); (case side2 => exact HC0_3.out); rintro e w63 ⟨rfl, hb⟩; replace BK261 := am_ (blk_below (qK BK261) hb); replace HB := am_ (below_step (qB HB) hb); (try clear hb); (try clear hb2); (try clear hk); (try clear hi); obtain ⟨z64_0, z64_1, z64_2, z64_3, z64_4, z64_5, z64_6, z64_7, z64_8, z64_9, z64_10, z64_11⟩ := cz12 BK261.out; obtain ⟨f64_0, f64_1, f64_2, f64_3, f64_4, f64_5, f64_6, f64_7, f64_8, f64_9, f64_10, f64_11⟩ := fz12 BK261.out) | (go_at_call 132; (with_reducible refine (spec_l10Pairs.calls kj46 a0_0 a0_1 a0_2 _ _ l0_3 a0_4 _ _ l0_5 _ _ l0_6 a0_7 a0_8 a0_9 a0_10 a0_11 t271 _ ?side1 ?side2 ?side3 ?side4 ?side5 ?side6 A61.out).mono ?_); (case side1 => exact qC (Kd.C_below HR0_3.out HB.out)); (case side2 => exact HC0_3.out); (case side3 => exact qC (Kd.C_below HR0_5.out HB.out)); (case side4 => exact HC0_5.out); (case side5 => exact qC (Kd.C_below HR0_6.out HB.out)); (case side6 => exact HC0_6.out); rintro e w65 ⟨rfl, hb⟩; replace BK261 := am_ (blk_below (qK BK261) hb); replace HB := am_ (below_step (qB HB) hb); (try clear hb); (try clear hb2); (try clear hk); (try clear hi)))
                go_meet
                case rel => exact ⟨_, (!t271), eqq_, H', ⟨by have := HJ7.out; have := HJ46.out; first | omega | exact Nat.le_refl _⟩, ⟨qK BK261⟩, ⟨qB HB⟩⟩
               ·
                replace c60 := Bool.eq_false_iff.mpr c60
                subst c60
                rw [if_neg (show ¬ (false = true) by decide)] at H
                have H' := Aside0.mk H
                clear H
                obtain ⟨z66_0, z66_1, z66_2, z66_3, z66_4, z66_5, z66_6, z66_7, z66_8, z66_9, z66_10, z66_11⟩ := cz12 BK261.out
                obtain ⟨f66_0, f66_1, f66_2, f66_3, f66_4, f66_5, f66_6, f66_7, f66_8, f66_9, f66_10, f66_11⟩ := fz12 BK261.out
                go_wp2_with (first | ((with_reducible refine gate_callee (f := 110) rfl ?_); refine goesL_ (some 101) rfl rfl Try.func110 (by kernel_rfl) rfl #[.int .i64 a0_1, .int .i64 1, .int .i64 60000] rfl la_ ?_; (with_reducible refine (spec_l1In.calls a0_1 1 60000 true _ A51.out).mono ?_); rintro e w' ⟨rfl, ⟨nd, rfl⟩⟩; refine ⟨_, rfl, ?_⟩) | (go_at_call 110; (with_reducible refine (spec_l1In.calls a0_2 0 60000 true _ A53.out).mono ?_); rintro e w' ⟨rfl, ⟨nd, rfl⟩⟩) | (go_at_call 131; (with_reducible refine (spec_ConfOk.calls kj46 _ _ l0_3 false _ ?side1 ?side2 A59.out).mono ?_); (case side1 => repeat (first | exact (Kd.C_below HR0_3.out (qB HB)) | (with_reducible refine Kd.C_alloc ?_ _) | (with_reducible refine Kd.C_drewN ?_ _) | (with_reducible refine Kd.C_drew ?_))); (case side2 => exact HC0_3.out); rintro e w67 ⟨rfl, hb⟩; replace BK261 := am_ (blk_below (qK BK261) hb); replace HB := am_ (below_step (qB HB) hb); (try clear hb); (try clear hb2); (try clear hk); (try clear hi)))
                go_meet
                case rel => exact ⟨_, (true), eqq_, H', ⟨by have := HJ7.out; have := HJ46.out; first | omega | exact Nat.le_refl _⟩, ⟨qK BK261⟩, ⟨qB HB⟩⟩
              ·
               rw [if_neg c58] at H
               have c58b0 : decide (0 < a0_2) = false := decide_eq_false c58
               clear c58
               obtain ⟨t272, A68, H⟩ := bd_ H
               have H' := Aside0.mk H
               clear H
               obtain ⟨z69_0, z69_1, z69_2, z69_3, z69_4, z69_5, z69_6, z69_7, z69_8, z69_9, z69_10, z69_11⟩ := cz12 BK261.out
               obtain ⟨f69_0, f69_1, f69_2, f69_3, f69_4, f69_5, f69_6, f69_7, f69_8, f69_9, f69_10, f69_11⟩ := fz12 BK261.out
               go_wp2_with (first | ((with_reducible refine gate_callee (f := 110) rfl ?_); refine goesL_ (some 101) rfl rfl Try.func110 (by kernel_rfl) rfl #[.int .i64 a0_1, .int .i64 1, .int .i64 60000] rfl la_ ?_; (with_reducible refine (spec_l1In.calls a0_1 1 60000 true _ A51.out).mono ?_); rintro e w' ⟨rfl, ⟨nd, rfl⟩⟩; refine ⟨_, rfl, ?_⟩) | (go_at_call 110; (with_reducible refine (spec_l1In.calls a0_2 0 60000 true _ A53.out).mono ?_); rintro e w' ⟨rfl, ⟨nd, rfl⟩⟩) | (go_at_call 132; (with_reducible refine (spec_l10Pairs.calls kj46 a0_0 a0_1 a0_2 _ _ l0_3 a0_4 _ _ l0_5 _ _ l0_6 a0_7 a0_8 a0_9 a0_10 a0_11 t272 _ ?side1 ?side2 ?side3 ?side4 ?side5 ?side6 A68.out).mono ?_); (case side1 => repeat (first | exact (Kd.C_below HR0_3.out (qB HB)) | (with_reducible refine Kd.C_alloc ?_ _) | (with_reducible refine Kd.C_drewN ?_ _) | (with_reducible refine Kd.C_drew ?_))); (case side2 => exact HC0_3.out); (case side3 => repeat (first | exact (Kd.C_below HR0_5.out (qB HB)) | (with_reducible refine Kd.C_alloc ?_ _) | (with_reducible refine Kd.C_drewN ?_ _) | (with_reducible refine Kd.C_drew ?_))); (case side4 => exact HC0_5.out); (case side5 => repeat (first | exact (Kd.C_below HR0_6.out (qB HB)) | (with_reducible refine Kd.C_alloc ?_ _) | (with_reducible refine Kd.C_drewN ?_ _) | (with_reducible refine Kd.C_drew ?_))); (case side6 => exact HC0_6.out); rintro e w70 ⟨rfl, hb⟩; replace BK261 := am_ (blk_below (qK BK261) hb); replace HB := am_ (below_step (qB HB) hb); (try clear hb); (try clear hb2); (try clear hk); (try clear hi)))
               go_meet
               case rel => exact ⟨_, (!t272), eqq_, H', ⟨by have := HJ7.out; have := HJ46.out; first | omega | exact Nat.le_refl _⟩, ⟨qK BK261⟩, ⟨qB HB⟩⟩
            ·
             rw [if_neg c55] at H
             have c55b0 : (a0_2 == 0) = false := beq_eq_false_iff_ne.mpr c55
             have c55b1 : (a0_2 != 0) = true := bne_iff_ne.mpr c55
             (first | rw [c55b0] | rw [c55b1] | (simp only [i64_w, i32_w]; rw [c55b0]) | skip)
             by_cases c71 : a0_2 > 0
             ·
              rw [if_pos c71] at H
              have c71b0 : decide (0 < a0_2) = true := decide_eq_true c71
              clear c71
              obtain ⟨t273, A72, H⟩ := bd_ H
              by_cases c73 : t273 = true
              ·
               subst c73
               rw [if_pos rfl] at H
               obtain ⟨t274, A74, H⟩ := bd_ H
               have H' := Aside0.mk H
               clear H
               obtain ⟨z75_0, z75_1, z75_2, z75_3, z75_4, z75_5, z75_6, z75_7, z75_8, z75_9, z75_10, z75_11⟩ := cz12 BK261.out
               obtain ⟨f75_0, f75_1, f75_2, f75_3, f75_4, f75_5, f75_6, f75_7, f75_8, f75_9, f75_10, f75_11⟩ := fz12 BK261.out
               go_wp2_with (first | ((with_reducible refine gate_callee (f := 110) rfl ?_); refine goesL_ (some 101) rfl rfl Try.func110 (by kernel_rfl) rfl #[.int .i64 a0_1, .int .i64 1, .int .i64 60000] rfl la_ ?_; (with_reducible refine (spec_l1In.calls a0_1 1 60000 true _ A51.out).mono ?_); rintro e w' ⟨rfl, ⟨nd, rfl⟩⟩; refine ⟨_, rfl, ?_⟩) | (go_at_call 110; (with_reducible refine (spec_l1In.calls a0_2 0 60000 true _ A53.out).mono ?_); rintro e w' ⟨rfl, ⟨nd, rfl⟩⟩) | (go_at_call 131; (with_reducible refine (spec_ConfOk.calls kj46 _ _ l0_3 true _ ?side1 ?side2 A72.out).mono ?_); (case side1 => repeat (first | exact (Kd.C_below HR0_3.out (qB HB)) | (with_reducible refine Kd.C_alloc ?_ _) | (with_reducible refine Kd.C_drewN ?_ _) | (with_reducible refine Kd.C_drew ?_))); (case side2 => exact HC0_3.out); rintro e w76 ⟨rfl, hb⟩; replace BK261 := am_ (blk_below (qK BK261) hb); replace HB := am_ (below_step (qB HB) hb); (try clear hb); (try clear hb2); (try clear hk); (try clear hi); obtain ⟨z77_0, z77_1, z77_2, z77_3, z77_4, z77_5, z77_6, z77_7, z77_8, z77_9, z77_10, z77_11⟩ := cz12 BK261.out; obtain ⟨f77_0, f77_1, f77_2, f77_3, f77_4, f77_5, f77_6, f77_7, f77_8, f77_9, f77_10, f77_11⟩ := fz12 BK261.out) | (go_at_call 132; (with_reducible refine (spec_l10Pairs.calls kj46 a0_0 a0_1 a0_2 _ _ l0_3 a0_4 _ _ l0_5 _ _ l0_6 a0_7 a0_8 a0_9 a0_10 a0_11 t274 _ ?side1 ?side2 ?side3 ?side4 ?side5 ?side6 A74.out).mono ?_); (case side1 => exact qC (Kd.C_below HR0_3.out HB.out)); (case side2 => exact HC0_3.out); (case side3 => exact qC (Kd.C_below HR0_5.out HB.out)); (case side4 => exact HC0_5.out); (case side5 => exact qC (Kd.C_below HR0_6.out HB.out)); (case side6 => exact HC0_6.out); rintro e w78 ⟨rfl, hb⟩; replace BK261 := am_ (blk_below (qK BK261) hb); replace HB := am_ (below_step (qB HB) hb); (try clear hb); (try clear hb2); (try clear hk); (try clear hi)))
               go_meet
               case rel => exact ⟨_, (!t274), eqq_, H', ⟨by have := HJ7.out; have := HJ46.out; first | omega | exact Nat.le_refl _⟩, ⟨qK BK261⟩, ⟨qB HB⟩⟩
              ·
               replace c73 := Bool.eq_false_iff.mpr c73
               subst c73
               rw [if_neg (show ¬ (false = true) by decide)] at H
               have H' := Aside0.mk H
               clear H
               obtain ⟨z79_0, z79_1, z79_2, z79_3, z79_4, z79_5, z79_6, z79_7, z79_8, z79_9, z79_10, z79_11⟩ := cz12 BK261.out
               obtain ⟨f79_0, f79_1, f79_2, f79_3, f79_4, f79_5, f79_6, f79_7, f79_8, f79_9, f79_10, f79_11⟩ := fz12 BK261.out
               go_wp2_with (first | ((with_reducible refine gate_callee (f := 110) rfl ?_); refine goesL_ (some 101) rfl rfl Try.func110 (by kernel_rfl) rfl #[.int .i64 a0_1, .int .i64 1, .int .i64 60000] rfl la_ ?_; (with_reducible refine (spec_l1In.calls a0_1 1 60000 true _ A51.out).mono ?_); rintro e w' ⟨rfl, ⟨nd, rfl⟩⟩; refine ⟨_, rfl, ?_⟩) | (go_at_call 110; (with_reducible refine (spec_l1In.calls a0_2 0 60000 true _ A53.out).mono ?_); rintro e w' ⟨rfl, ⟨nd, rfl⟩⟩) | (go_at_call 131; (with_reducible refine (spec_ConfOk.calls kj46 _ _ l0_3 false _ ?side1 ?side2 A72.out).mono ?_); (case side1 => repeat (first | exact (Kd.C_below HR0_3.out (qB HB)) | (with_reducible refine Kd.C_alloc ?_ _) | (with_reducible refine Kd.C_drewN ?_ _) | (with_reducible refine Kd.C_drew ?_))); (case side2 => exact HC0_3.out); rintro e w80 ⟨rfl, hb⟩; replace BK261 := am_ (blk_below (qK BK261) hb); replace HB := am_ (below_step (qB HB) hb); (try clear hb); (try clear hb2); (try clear hk); (try clear hi)))
               go_meet
               case rel => exact ⟨_, (true), eqq_, H', ⟨by have := HJ7.out; have := HJ46.out; first | omega | exact Nat.le_refl _⟩, ⟨qK BK261⟩, ⟨qB HB⟩⟩
             ·
              rw [if_neg c71] at H
              have c71b0 : decide (0 < a0_2) = false := decide_eq_false c71
              clear c71
              obtain ⟨t275, A81, H⟩ := bd_ H
              have H' := Aside0.mk H
              clear H
              obtain ⟨z82_0, z82_1, z82_2, z82_3, z82_4, z82_5, z82_6, z82_7, z82_8, z82_9, z82_10, z82_11⟩ := cz12 BK261.out
              obtain ⟨f82_0, f82_1, f82_2, f82_3, f82_4, f82_5, f82_6, f82_7, f82_8, f82_9, f82_10, f82_11⟩ := fz12 BK261.out
              go_wp2_with (first | ((with_reducible refine gate_callee (f := 110) rfl ?_); refine goesL_ (some 101) rfl rfl Try.func110 (by kernel_rfl) rfl #[.int .i64 a0_1, .int .i64 1, .int .i64 60000] rfl la_ ?_; (with_reducible refine (spec_l1In.calls a0_1 1 60000 true _ A51.out).mono ?_); rintro e w' ⟨rfl, ⟨nd, rfl⟩⟩; refine ⟨_, rfl, ?_⟩) | (go_at_call 110; (with_reducible refine (spec_l1In.calls a0_2 0 60000 true _ A53.out).mono ?_); rintro e w' ⟨rfl, ⟨nd, rfl⟩⟩) | (go_at_call 132; (with_reducible refine (spec_l10Pairs.calls kj46 a0_0 a0_1 a0_2 _ _ l0_3 a0_4 _ _ l0_5 _ _ l0_6 a0_7 a0_8 a0_9 a0_10 a0_11 t275 _ ?side1 ?side2 ?side3 ?side4 ?side5 ?side6 A81.out).mono ?_); (case side1 => repeat (first | exact (Kd.C_below HR0_3.out (qB HB)) | (with_reducible refine Kd.C_alloc ?_ _) | (with_reducible refine Kd.C_drewN ?_ _) | (with_reducible refine Kd.C_drew ?_))); (case side2 => exact HC0_3.out); (case side3 => repeat (first | exact (Kd.C_below HR0_5.out (qB HB)) | (with_reducible refine Kd.C_alloc ?_ _) | (with_reducible refine Kd.C_drewN ?_ _) | (with_reducible refine Kd.C_drew ?_))); (case side4 => exact HC0_5.out); (case side5 => repeat (first | exact (Kd.C_below HR0_6.out (qB HB)) | (with_reducible refine Kd.C_alloc ?_ _) | (with_reducible refine Kd.C_drewN ?_ _) | (with_reducible refine Kd.C_drew ?_))); (case side6 => exact HC0_6.out); rintro e w83 ⟨rfl, hb⟩; replace BK261 := am_ (blk_below (qK BK261) hb); replace HB := am_ (below_step (qB HB) hb); (try clear hb); (try clear hb2); (try clear hk); (try clear hi)))
              go_meet
              case rel => exact ⟨_, (!t275), eqq_, H', ⟨by have := HJ7.out; have := HJ46.out; first | omega | exact Nat.le_refl _⟩, ⟨qK BK261⟩, ⟨qB HB⟩⟩
           ·
            replace c54 := Bool.eq_false_iff.mpr c54
            subst c54
            rw [if_neg (show ¬ (false = true) by decide)] at H
            have H' := Aside0.mk H
            clear H
            obtain ⟨z84_0, z84_1, z84_2, z84_3, z84_4, z84_5, z84_6, z84_7, z84_8, z84_9, z84_10, z84_11⟩ := cz12 BK261.out
            obtain ⟨f84_0, f84_1, f84_2, f84_3, f84_4, f84_5, f84_6, f84_7, f84_8, f84_9, f84_10, f84_11⟩ := fz12 BK261.out
            go_wp2_with (first | ((with_reducible refine gate_callee (f := 110) rfl ?_); refine goesL_ (some 101) rfl rfl Try.func110 (by kernel_rfl) rfl #[.int .i64 a0_1, .int .i64 1, .int .i64 60000] rfl la_ ?_; (with_reducible refine (spec_l1In.calls a0_1 1 60000 true _ A51.out).mono ?_); rintro e w' ⟨rfl, ⟨nd, rfl⟩⟩; refine ⟨_, rfl, ?_⟩) | (go_at_call 110; (with_reducible refine (spec_l1In.calls a0_2 0 60000 false _ A53.out).mono ?_); rintro e w' ⟨rfl, ⟨nd, rfl⟩⟩))
            go_meet
            case rel => exact ⟨_, (true), eqq_, H', ⟨by have := HJ7.out; have := HJ46.out; first | omega | exact Nat.le_refl _⟩, ⟨qK BK261⟩, ⟨qB HB⟩⟩
          ·
           replace c52 := Bool.eq_false_iff.mpr c52
           subst c52
           rw [if_neg (show ¬ (false = true) by decide)] at H
           have H' := Aside0.mk H
           clear H
           obtain ⟨z85_0, z85_1, z85_2, z85_3, z85_4, z85_5, z85_6, z85_7, z85_8, z85_9, z85_10, z85_11⟩ := cz12 BK261.out
           obtain ⟨f85_0, f85_1, f85_2, f85_3, f85_4, f85_5, f85_6, f85_7, f85_8, f85_9, f85_10, f85_11⟩ := fz12 BK261.out
           go_wp2_with (first | ((with_reducible refine gate_callee (f := 110) rfl ?_); refine goesL_ (some 101) rfl rfl Try.func110 (by kernel_rfl) rfl #[.int .i64 a0_1, .int .i64 1, .int .i64 60000] rfl la_ ?_; (with_reducible refine (spec_l1In.calls a0_1 1 60000 false _ A51.out).mono ?_); rintro e w' ⟨rfl, ⟨nd, rfl⟩⟩; refine ⟨_, rfl, ?_⟩))
           go_meet
           case rel => exact ⟨_, (true), eqq_, H', ⟨by have := HJ7.out; have := HJ46.out; first | omega | exact Nat.le_refl _⟩, ⟨qK BK261⟩, ⟨qB HB⟩⟩
         case rest =>
          clear HC50
          try clear c1
          try clear p2
          try clear c4
          try clear c5
          try clear c6
          try clear c7
          try clear c11
          try clear c49
          try clear c52
          try clear c54
          try clear c55
          try clear c55b0
          try clear c55b1
          try clear c56
          try clear c56b0
          try clear c56b1
          try clear c58
          try clear c58b0
          try clear c60
          try clear c71
          try clear c71b0
          try clear c73
          (try clear z43_5 z43_6 z43_7 z43_8 z43_9)
          (try clear z44_0 z44_1 z44_10 z44_11 z44_2 z44_3 z44_4 z44_5 z44_6 z44_7 z44_8 z44_9)
          (try clear z45_0 z45_1 z45_10 z45_11 z45_2 z45_3 z45_4 z45_5 z45_6 z45_7 z45_8 z45_9)
          (try clear z46_0 z46_1 z46_10 z46_11 z46_2 z46_3 z46_4 z46_5 z46_6 z46_7 z46_8 z46_9)
          (try clear z57_0 z57_1 z57_10 z57_11 z57_2 z57_3 z57_4 z57_5 z57_6 z57_7 z57_8 z57_9)
          (try clear z62_0 z62_1 z62_10 z62_11 z62_2 z62_3 z62_4 z62_5 z62_6 z62_7 z62_8 z62_9)
          (try clear z64_0 z64_1 z64_10 z64_11 z64_2 z64_3 z64_4 z64_5 z64_6 z64_7 z64_8 z64_9)
          (try clear z66_0 z66_1 z66_10 z66_11 z66_2 z66_3 z66_4 z66_5 z66_6 z66_7 z66_8 z66_9)
          (try clear z69_0 z69_1 z69_10 z69_11 z69_2 z69_3 z69_4 z69_5 z69_6 z69_7 z69_8 z69_9)
          (try clear z75_0 z75_1 z75_10 z75_11 z75_2 z75_3 z75_4 z75_5 z75_6 z75_7 z75_8 z75_9)
          (try clear z77_0 z77_1 z77_10 z77_11 z77_2 z77_3 z77_4 z77_5 z77_6 z77_7 z77_8 z77_9)
          (try clear z79_0 z79_1 z79_10 z79_11 z79_2 z79_3 z79_4 z79_5 z79_6 z79_7 z79_8 z79_9)
          (try clear z82_0 z82_1 z82_10 z82_11 z82_2 z82_3 z82_4 z82_5 z82_6 z82_7 z82_8 z82_9)
          (try clear z84_0 z84_1 z84_10 z84_11 z84_2 z84_3 z84_4 z84_5 z84_6 z84_7 z84_8 z84_9)
          (try clear z85_0 z85_1 z85_10 z85_11 z85_2 z85_3 z85_4 z85_5 z85_6 z85_7 z85_8 z85_9)
          (try clear f16_0 f16_1 f16_10 f16_11 f16_2 f16_3 f16_4 f16_5 f16_6 f16_7 f16_8 f16_9)
          (try clear f21_0 f21_1 f21_10 f21_11 f21_2 f21_3 f21_4 f21_5 f21_6 f21_7 f21_8 f21_9)
          (try clear f23_0 f23_1 f23_10 f23_11 f23_2 f23_3 f23_4 f23_5 f23_6 f23_7 f23_8 f23_9)
          (try clear f24_0 f24_1 f24_10 f24_11 f24_2 f24_3 f24_4 f24_5 f24_6 f24_7 f24_8 f24_9)
          (try clear f25_0 f25_1 f25_10 f25_11 f25_2 f25_3 f25_4 f25_5 f25_6 f25_7 f25_8 f25_9)
          (try clear f26_0 f26_1 f26_10 f26_11 f26_2 f26_3 f26_4 f26_5 f26_6 f26_7 f26_8 f26_9)
          (try clear f27_0 f27_1 f27_10 f27_11 f27_2 f27_3 f27_4 f27_5 f27_6 f27_7 f27_8 f27_9)
          (try clear f28_0 f28_1 f28_10 f28_11 f28_2 f28_3 f28_4 f28_5 f28_6 f28_7 f28_8 f28_9)
          (try clear f40_0 f40_1 f40_10 f40_11 f40_2 f40_3 f40_4 f40_5 f40_6 f40_7 f40_8 f40_9)
          (try clear f41_0 f41_1 f41_10 f41_11 f41_2 f41_3 f41_4 f41_5 f41_6 f41_7 f41_8 f41_9)
          (try clear f42_0 f42_1 f42_10 f42_11 f42_2 f42_3 f42_4 f42_5 f42_6 f42_7 f42_8 f42_9)
          (try clear f43_0 f43_1 f43_10 f43_11 f43_2 f43_3 f43_4 f43_5 f43_6 f43_7 f43_8 f43_9)
          (try clear f44_0 f44_1 f44_10 f44_11 f44_2 f44_3 f44_4 f44_5 f44_6 f44_7 f44_8 f44_9)
          (try clear f45_0 f45_1 f45_10 f45_11 f45_2 f45_3 f45_4 f45_5 f45_6 f45_7 f45_8 f45_9)
          (try clear f46_0 f46_1 f46_10 f46_11 f46_2 f46_3 f46_4 f46_5 f46_6 f46_7 f46_8 f46_9)
          (try clear f57_0 f57_1 f57_10 f57_11 f57_2 f57_3 f57_4 f57_5 f57_6 f57_7 f57_8 f57_9)
          (try clear f62_0 f62_1 f62_10 f62_11 f62_2 f62_3 f62_4 f62_5 f62_6 f62_7 f62_8 f62_9)
          (try clear f64_0 f64_1 f64_10 f64_11 f64_2 f64_3 f64_4 f64_5 f64_6 f64_7 f64_8 f64_9)
          (try clear f66_0 f66_1 f66_10 f66_11 f66_2 f66_3 f66_4 f66_5 f66_6 f66_7 f66_8 f66_9)
          (try clear f69_0 f69_1 f69_10 f69_11 f69_2 f69_3 f69_4 f69_5 f69_6 f69_7 f69_8 f69_9)
          (try clear f75_0 f75_1 f75_10 f75_11 f75_2 f75_3 f75_4 f75_5 f75_6 f75_7 f75_8 f75_9)
          (try clear f77_0 f77_1 f77_10 f77_11 f77_2 f77_3 f77_4 f77_5 f77_6 f77_7 f77_8 f77_9)
          (try clear f79_0 f79_1 f79_10 f79_11 f79_2 f79_3 f79_4 f79_5 f79_6 f79_7 f79_8 f79_9)
          (try clear f82_0 f82_1 f82_10 f82_11 f82_2 f82_3 f82_4 f82_5 f82_6 f82_7 f82_8 f82_9)
          (try clear f84_0 f84_1 f84_10 f84_11 f84_2 f84_3 f84_4 f84_5 f84_6 f84_7 f84_8 f84_9)
          (try clear f85_0 f85_1 f85_10 f85_11 f85_2 f85_3 f85_4 f85_5 f85_6 f85_7 f85_8 f85_9)
          (try clear f9_10 f9_11 f9_2 f9_3 f9_4 f9_5 f9_6 f9_7 f9_8 f9_9)
          obtain ⟨kq, x135_49, rfl, HA, HJ49, BK261, HB⟩ := hcut
          cases kq with
          | zero => exact absurd HA.out (by simp [spec_HouseOk.j2])
          | succ kj49 =>
           have H := HA.out
           clear HA
           simp only [spec_HouseOk.j2] at H
           by_cases c86 : x135_49 = true
           ·
            subst c86
            rw [if_pos rfl] at H
            obtain rfl := Option.some.inj H
            go_wp2
            go_ret
            exact ⟨by first | rfl | (simp [errW_none, errW_some] <;> rfl) | (simp [*, errW_none, errW_some] <;> rfl), qB HB⟩
           ·
            replace c86 := Bool.eq_false_iff.mpr c86
            subst c86
            rw [if_neg (show ¬ (false = true) by decide)] at H
            by_cases c87 : a0_0 = 2
            ·
             rw [if_pos c87] at H
             have c87b0 : (a0_0 == 2) = true := beq_iff_eq.mpr c87
             have c87b1 : (a0_0 != 2) = false := bne_eq_false_iff_eq.mpr c87
             clear c87
             obtain ⟨t276, A88, H⟩ := bd_ H
             obtain rfl := Option.some.inj H
             obtain ⟨z89_0, z89_1, z89_2, z89_3, z89_4, z89_5, z89_6, z89_7, z89_8, z89_9, z89_10, z89_11⟩ := cz12 BK261.out
             obtain ⟨f89_0, f89_1, f89_2, f89_3, f89_4, f89_5, f89_6, f89_7, f89_8, f89_9, f89_10, f89_11⟩ := fz12 BK261.out
             go_wp2_with (first | ((with_reducible refine gate_callee (f := 129) rfl ?_); refine goesL_ (some 141) rfl rfl Try.func129 (by kernel_rfl) rfl #[.agg #[.int .i64 a0_8, .int .i64 a0_9, .int .i64 a0_10, .int .i64 a0_11]] rfl la_ ?_; (with_reducible refine (spec_l10NoHand.calls a0_8 a0_9 a0_10 a0_11 t276 _ A88.out).mono ?_); rintro e w90 ⟨rfl, hb⟩; refine ⟨_, rfl, ?_⟩; replace BK261 := am_ (blk_below (qK BK261) hb); replace HB := am_ (below_step (qB HB) hb); (try clear hb); (try clear hb2); (try clear hk); (try clear hi)))
             go_ret
             exact ⟨by first | rfl | (simp [errW_none, errW_some] <;> rfl) | (simp [*, errW_none, errW_some] <;> rfl), qB HB⟩
            ·
             rw [if_neg c87] at H
             have c87b0 : (a0_0 == 2) = false := beq_eq_false_iff_ne.mpr c87
             have c87b1 : (a0_0 != 2) = true := bne_iff_ne.mpr c87
             by_cases c91 : a0_8 = a0_1
             ·
              rw [if_pos c91] at H
              have c91b0 : (a0_8 == a0_1) = true := beq_iff_eq.mpr c91
              have c91b1 : (a0_8 != a0_1) = false := bne_eq_false_iff_eq.mpr c91
              clear c91
              obtain ⟨t277, A92, H⟩ := bd_ H
              by_cases c93 : t277 = true
              ·
               subst c93
               rw [if_pos rfl] at H
               obtain ⟨t278, A94, H⟩ := bd_ H
               by_cases c95 : t278 = true
               ·
                subst c95
                rw [if_pos rfl] at H
                obtain ⟨t279, A96, H⟩ := bd_ H
                obtain rfl := Option.some.inj H
                obtain ⟨z97_0, z97_1, z97_2, z97_3, z97_4, z97_5, z97_6, z97_7, z97_8, z97_9, z97_10, z97_11⟩ := cz12 BK261.out
                obtain ⟨f97_0, f97_1, f97_2, f97_3, f97_4, f97_5, f97_6, f97_7, f97_8, f97_9, f97_10, f97_11⟩ := fz12 BK261.out
                go_wp2_with (first | (go_at_call 110; (with_reducible refine (spec_l1In.calls a0_9 1 20 true _ A92.out).mono ?_); rintro e w' ⟨rfl, ⟨nd, rfl⟩⟩) | (go_at_call 110; (with_reducible refine (spec_l1In.calls a0_10 0 a0_9 true _ A94.out).mono ?_); rintro e w' ⟨rfl, ⟨nd, rfl⟩⟩) | (go_at_call 130; (with_reducible refine (spec_l9Time.calls a0_11 t279 _ A96.out).mono ?_); rintro e w' ⟨rfl, ⟨nd, rfl⟩⟩))
                go_ret
                exact ⟨by first | rfl | (simp [errW_none, errW_some] <;> rfl) | (simp [*, errW_none, errW_some] <;> rfl), qB HB⟩
               ·
                replace c95 := Bool.eq_false_iff.mpr c95
                subst c95
                rw [if_neg (show ¬ (false = true) by decide)] at H
                obtain rfl := Option.some.inj H
                obtain ⟨z98_0, z98_1, z98_2, z98_3, z98_4, z98_5, z98_6, z98_7, z98_8, z98_9, z98_10, z98_11⟩ := cz12 BK261.out
                obtain ⟨f98_0, f98_1, f98_2, f98_3, f98_4, f98_5, f98_6, f98_7, f98_8, f98_9, f98_10, f98_11⟩ := fz12 BK261.out
                go_wp2_with (first | (go_at_call 110; (with_reducible refine (spec_l1In.calls a0_9 1 20 true _ A92.out).mono ?_); rintro e w' ⟨rfl, ⟨nd, rfl⟩⟩) | (go_at_call 110; (with_reducible refine (spec_l1In.calls a0_10 0 a0_9 false _ A94.out).mono ?_); rintro e w' ⟨rfl, ⟨nd, rfl⟩⟩))
                go_ret
                exact ⟨by first | rfl | (simp [errW_none, errW_some] <;> rfl) | (simp [*, errW_none, errW_some] <;> rfl), qB HB⟩
              ·
               replace c93 := Bool.eq_false_iff.mpr c93
               subst c93
               rw [if_neg (show ¬ (false = true) by decide)] at H
               obtain rfl := Option.some.inj H
               obtain ⟨z99_0, z99_1, z99_2, z99_3, z99_4, z99_5, z99_6, z99_7, z99_8, z99_9, z99_10, z99_11⟩ := cz12 BK261.out
               obtain ⟨f99_0, f99_1, f99_2, f99_3, f99_4, f99_5, f99_6, f99_7, f99_8, f99_9, f99_10, f99_11⟩ := fz12 BK261.out
               go_wp2_with (first | (go_at_call 110; (with_reducible refine (spec_l1In.calls a0_9 1 20 false _ A92.out).mono ?_); rintro e w' ⟨rfl, ⟨nd, rfl⟩⟩))
               go_ret
               exact ⟨by first | rfl | (simp [errW_none, errW_some] <;> rfl) | (simp [*, errW_none, errW_some] <;> rfl), qB HB⟩
             ·
              rw [if_neg c91] at H
              have c91b0 : (a0_8 == a0_1) = false := beq_eq_false_iff_ne.mpr c91
              have c91b1 : (a0_8 != a0_1) = true := bne_iff_ne.mpr c91
              obtain rfl := Option.some.inj H
              obtain ⟨z100_0, z100_1, z100_2, z100_3, z100_4, z100_5, z100_6, z100_7, z100_8, z100_9, z100_10, z100_11⟩ := cz12 BK261.out
              obtain ⟨f100_0, f100_1, f100_2, f100_3, f100_4, f100_5, f100_6, f100_7, f100_8, f100_9, f100_10, f100_11⟩ := fz12 BK261.out
              go_wp2
              go_ret
              exact ⟨by first | rfl | (simp [errW_none, errW_some] <;> rfl) | (simp [*, errW_none, errW_some] <;> rfl), qB HB⟩
        ·
         replace c49 := Bool.eq_false_iff.mpr c49
         subst c49
         rw [if_neg (show ¬ (false = true) by decide)] at H
         obtain rfl := Option.some.inj H
         go_wp2
         go_ret
         exact ⟨by first | rfl | (simp [errW_none, errW_some] <;> rfl) | (simp [*, errW_none, errW_some] <;> rfl), qB HB⟩
 ·
  replace c7 := Bool.eq_false_iff.mpr c7
  subst c7
  rw [if_neg (show ¬ (false = true) by decide)] at H
  obtain rfl := Option.some.inj H
  go_wp2
  go_ret
  exact ⟨by first | rfl | (simp [errW_none, errW_some] <;> rfl) | (simp [*, errW_none, errW_some] <;> rfl), qB HB⟩

end Go.Proofs.Ytahfemlfdpbkkaa.PFnExactHouseOk
