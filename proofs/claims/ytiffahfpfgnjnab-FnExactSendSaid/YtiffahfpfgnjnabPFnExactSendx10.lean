-- Written by a program of this session (myprint.py, over the kit's print): contracts of FnExactSend
import Derived.Test.YtiffahfpfgnjnabPFnExactSendx0
import Derived.Test.YtiffahfpfgnjnabPFnExactSendx3
import Derived.Test.YtiffahfpfgnjnabPFnExactSendx4
import Derived.Test.YtiffahfpfgnjnabPFnExactSendx8
import Derived.Test.YtiffahfpfgnjnabPFnExactSendx9
namespace Go.Proofs.Ytiffahfpfgnjnab.PFnExactSend
open Go.RowKit Go.Proofs.YtiffahfpfgnjnabW.PrintWords Go.Proofs.YtiffahfpfgnjnabW.PrintLast Go.Proofs.YtiffahfpfgnjnabW.PrintMore Go.Proofs.YtiffahfpfgnjnabV
attribute [local go_sem] max2_int min2_int max_two min_two max_three min_three max_four min_four   -- for this text's walks alone
set_option linter.unusedVariables false
set_option linter.unusedSimpArgs false

/-! ### spec_Send: function 25 -/
def spec_Send.f (k : Nat) (l0 : List (S113)) (a1_0 : Int) (a1_1 : Int) (a1_2 : Int) (a1_3 : Int) (a1_4 : Int) (a1_5 : Bool) (a1_6 : Int) (l1_7 : List (S126)) : Option ((List (S113))) := (spec_l12Copy.f k l0).bind fun t315 => ((spec_WayOk.f k l0).bind fun t318 => (if t318 = true then ((spec_CtlOk.f k a1_0 a1_1 a1_2 a1_3 a1_4 a1_5 a1_6 l1_7).bind fun t319 => (if t319 = true then (if (l0.length : Int) = 12 then (some t315) else ((spec_PutCtl.f k a1_0 a1_1 a1_2 a1_3 a1_4 a1_5 a1_6 l1_7).bind fun t320 => (if t315.length < 4398046511104 then (some (t315 ++ [(⟨a1_1, t320⟩ : S113)])) else (none)))) else (some t315))) else (some t315)))
theorem spec_Send.mono : ∀ a0 a1 a2 a3 a4 a5 a6 a7 a8 k, LeO (spec_Send.f k a0 a1 a2 a3 a4 a5 a6 a7 a8) (spec_Send.f (k + 1) a0 a1 a2 a3 a4 a5 a6 a7 a8) := by
 intro a0 a1 a2 a3 a4 a5 a6 a7 a8 k
 unfold spec_Send.f
 repeat' first
   | (with_reducible exact spec_CtlOk.mono _ _ _ _ _ _ _ _ _)
   | (with_reducible exact spec_PutCtl.mono _ _ _ _ _ _ _ _ _)
   | (with_reducible exact spec_WayOk.mono _ _)
   | (with_reducible exact spec_l12Copy.mono _ _)
   | (with_reducible exact LeO.refl _)
   | (with_reducible exact LeO.none _)
   | (with_reducible refine LeO.ite ?_ ?_)
   | (with_reducible refine LeO.bind ?_ (fun _ => ?_))
def spec_Send.T4 : Bool × List (List Nat × List Nat) := (true, [([], []), ([], []), ([1], [1]), ([], []), ([3], [3]), ([2, 4], [2, 4]), ([5], [5]), ([0, 6, 4], [0, 6]), ([7, 7, 0, 1, 2, 3, 4, 5, 6, 7], [7])])
def spec_Send.B4 : List Nat := [0, 0, 2, 0, 8, 30, 62, 127, 255]
theorem spec_Send.tab4 : rtab .any (opsOf Try.f25 4) = spec_Send.T4 := by kernel_rfl
theorem spec_Send.bits4 : waitsOk spec_Send.T4.2 spec_Send.B4 = true := by kernel_rfl
set_option maxHeartbeats 8000000 in
set_option maxRecDepth 100000 in
theorem spec_Send.calls (k : Nat) (A0 : Option Addr) (c0 : Nat) (l0 : List (S113)) (a1_0 : Int) (a1_1 : Int) (a1_2 : Int) (a1_3 : Int) (a1_4 : Int) (a1_5 : Bool) (a1_6 : Int) (A1_7 : Option Addr) (c1_7 : Nat) (l1_7 : List (S126)) (r : List (S113)) (w : World) (hr0 : Kd.C k113 w A0 l0.length l0) (hc0 : l0.length ≤ c0) (hr1_7 : Kd.C k126 w A1_7 l1_7.length l1_7) (hc1_7 : l1_7.length ≤ c1_7) (h : spec_Send.f k l0 a1_0 a1_1 a1_2 a1_3 a1_4 a1_5 a1_6 l1_7 = some r) :
  Calls Try.prog 25 #[.slice A0 l0.length c0, .agg #[.int .i64 a1_0, .int .i64 a1_1, .int .i64 a1_2, .int .i64 a1_3, .int .i64 a1_4, .bool a1_5, .int .i64 a1_6, .slice A1_7 l1_7.length c1_7]] w fun e w' => ∃ v0_ : Value, e = .returned (v0_) ∧ Kd.S k113 113 w' w.heap.size (fun _ => True) v0_ r ∧ Below w.heap.size w w' := by
 have hu63 := Try.underlying63
 have hu113 := Try.underlying113
 have HR0 := Aside0.mk hr0
 have HC0 := Aside0.mk hc0
 clear hr0 hc0
 have HR1_7 := Aside0.mk hr1_7
 have HC1_7 := Aside0.mk hc1_7
 clear hr1_7 hc1_7
 have HB := Aside0.mk (Below.refl w.heap.size w)
 have H := h
 unfold spec_Send.f at H
 clear h
 replace H := bd_ H
 obtain ⟨t315, A3, H⟩ := H
 have HC4 := Aside0.mk H
 clear H
 go_enter Try.func25, Try.ntmps25
 go_upto_region 2 with (first | ((with_reducible refine gate_dst (N := 3) rfl ?_); (try (refine gate_guard (by rfl) ?_; dsimp only)); refine box_event ?hg (N := 3) ?hd (cs := #[.int .i64 a1_0, .int .i64 a1_1, .int .i64 a1_2, .int .i64 a1_3, .int .i64 a1_4, .bool a1_5, .int .i64 a1_6, .slice A1_7 l1_7.length c1_7]) (t := 63) ?hr ?_; (case hd => rfl); (case hg => rfl); (case hr => first | (go_simp; done) | (go_simp; rfl)); intro gb314 hg w5 hbox hb; have BK314 := am_ (hbox); have GW314 := gA_ hg HB; have GE314 := GW314; have IGE314 := gI_ GE314; replace HB := bS_ HB hb; clear hb hbox hg) | ((with_reducible refine gate_callee (f := 67) rfl ?_); refine goesL_ (some 7) rfl rfl Try.func67 (by kernel_rfl) rfl #[.slice A0 l0.length c0] rfl la_ ?_; (with_reducible refine (spec_l12Copy.calls k _ _ l0 t315 _ ?side1 ?side2 A3.out).mono ?_); (case side1 => exact qC (Kd.C_below HR0.out HB.out)); (case side2 => exact HC0.out); rintro e w6 ⟨v316, rfl, ho0, hb⟩; refine ⟨_, rfl, ?_⟩; have HO317 := am_ (Kd.S_lower ho0 (below_size (qB HB))); replace BK314 := bK_ BK314 hb; replace HB := bS_ HB hb; (try clear hb); (try clear ho0)))
 (try simp only [Act.put, List.setIfInBounds_toArray, List.set_cons_zero, List.set_cons_succ])
 have H := HC4.out
 clear HC4
 replace H := bd_ H
 obtain ⟨t318, A7, H⟩ := H
 by_cases c8 : t318 = true
 rotate_left
 ·
  replace c8 := Bool.eq_false_iff.mpr c8
  subst c8
  rw [if_neg (show ¬ (false = true) by decide)] at H
  obtain rfl := Option.some.inj H
  go_wp2_with (first | ((with_reducible refine gate_callee (f := 68) rfl ?_); refine goesL_ (some 9) rfl rfl Try.func68 (by kernel_rfl) rfl #[.slice A0 l0.length c0] rfl la_ ?_; (with_reducible refine (spec_WayOk.calls k _ _ l0 false _ ?side1 ?side2 A7.out).mono ?_); (case side1 => exact qC (Kd.C_below HR0.out HB.out)); (case side2 => exact HC0.out); rintro e w' ⟨rfl, ⟨nd, rfl⟩⟩; refine ⟨_, rfl, ?_⟩))
  go_ret
  exact ⟨_, er_, qS HO317, qB HB⟩
 subst c8
 rw [if_pos rfl] at H
 replace H := bd_ H
 obtain ⟨t319, A9, H⟩ := H
 by_cases c10 : t319 = true
 rotate_left
 ·
  replace c10 := Bool.eq_false_iff.mpr c10
  subst c10
  rw [if_neg (show ¬ (false = true) by decide)] at H
  obtain rfl := Option.some.inj H
  go_wp2_with (first | ((with_reducible refine gate_callee (f := 68) rfl ?_); refine goesL_ (some 9) rfl rfl Try.func68 (by kernel_rfl) rfl #[.slice A0 l0.length c0] rfl la_ ?_; (with_reducible refine (spec_WayOk.calls k _ _ l0 true _ ?side1 ?side2 A7.out).mono ?_); (case side1 => exact qC (Kd.C_below HR0.out HB.out)); (case side2 => exact HC0.out); rintro e w' ⟨rfl, ⟨nd, rfl⟩⟩; refine ⟨_, rfl, ?_⟩; have z21 := cz8 BK314.out; have f21 := fz8 BK314.out) | (go_at_call 69; (with_reducible refine (spec_CtlOk.calls k a1_0 a1_1 a1_2 a1_3 a1_4 a1_5 a1_6 _ _ l1_7 false _ ?side1 ?side2 A9.out).mono ?_); (case side1 => repeat (first | exact (Kd.C_below HR1_7.out (qB HB)) | (with_reducible refine Kd.C_alloc ?_ _) | (with_reducible refine Kd.C_drewN ?_ _) | (with_reducible refine Kd.C_drew ?_))); (case side2 => exact HC1_7.out); rintro e w22 ⟨rfl, hb⟩; replace HO317 := am_ (Kd.S_below (qS HO317) hb); replace BK314 := bK_ BK314 hb; replace HB := bS_ HB hb; (try clear hb)))
  go_ret
  exact ⟨_, er_, qS HO317, qB HB⟩
 subst c10
 rw [if_pos rfl] at H
 have HC11 := Aside0.mk H
 clear H
 go_upto_if 20 with (first | ((with_reducible refine gate_callee (f := 68) rfl ?_); refine goesL_ (some 9) rfl rfl Try.func68 (by kernel_rfl) rfl #[.slice A0 l0.length c0] rfl la_ ?_; (with_reducible refine (spec_WayOk.calls k _ _ l0 true _ ?side1 ?side2 A7.out).mono ?_); (case side1 => exact qC (Kd.C_below HR0.out HB.out)); (case side2 => exact HC0.out); rintro e w' ⟨rfl, ⟨nd, rfl⟩⟩; refine ⟨_, rfl, ?_⟩; have z12 := cz8 BK314.out; have f12 := fz8 BK314.out) | (go_at_call 69; (with_reducible refine (spec_CtlOk.calls k a1_0 a1_1 a1_2 a1_3 a1_4 a1_5 a1_6 _ _ l1_7 true _ ?side1 ?side2 A9.out).mono ?_); (case side1 => repeat (first | exact (Kd.C_below HR1_7.out (qB HB)) | (with_reducible refine Kd.C_alloc ?_ _) | (with_reducible refine Kd.C_drewN ?_ _) | (with_reducible refine Kd.C_drew ?_))); (case side2 => exact HC1_7.out); rintro e w13 ⟨rfl, hb⟩; replace HO317 := am_ (Kd.S_below (qS HO317) hb); replace BK314 := bK_ BK314 hb; replace HB := bS_ HB hb; (try clear hb)))
 (try simp only [Act.put, List.setIfInBounds_toArray, List.set_cons_zero, List.set_cons_succ])
 have H := HC11.out
 clear HC11
 by_cases c14 : (l0.length : Int) = 12
 ·
  rw [if_pos c14] at H
  have c14b0 : ((l0.length : Int) == 12) = true := beq_iff_eq.mpr c14
  have c14b1 : ((l0.length : Int) != 12) = false := bne_eq_false_iff_eq.mpr c14
  clear c14
  (first | rw [c14b0] | rw [c14b1] | (simp only [i64_w, i32_w]; rw [c14b0]) | skip)
  obtain rfl := Option.some.inj H
  go_wp2
  go_ret
  exact ⟨_, er_, qS HO317, qB HB⟩
 rw [if_neg c14] at H
 have c14b0 : ((l0.length : Int) == 12) = false := beq_eq_false_iff_ne.mpr c14
 have c14b1 : ((l0.length : Int) != 12) = true := bne_iff_ne.mpr c14
 (first | rw [c14b0] | rw [c14b1] | (simp only [i64_w, i32_w]; rw [c14b0]) | skip)
 replace H := bd_ H
 obtain ⟨t320, A15, H⟩ := H
 by_cases c16 : t315.length < 4398046511104
 case neg => exact nn_ c16 H
 rw [if_pos c16] at H
 have LMc16 := Aside0.mk c16
 clear c16
 obtain ⟨y323, hy323⟩ : ∃ y_ : List (S113), y_ = (t315 ++ [(⟨a1_1, t320⟩ : S113)]) := ⟨_, rfl⟩
 rw [← hy323] at H
 have Ny323 := Aside0.mk hy323
 clear hy323
 obtain rfl := Option.some.inj H
 try go_wp2
 replace HO317 := am_ (Kd.S_drew HO317.out)
 replace BK314 := am_ (blk_drew BK314.out)
 replace HB := am_ (below_drew1 HB.out)
 refine start_ (n := 9) (S := fun w' => w'.cell? ⟨gb314, 0, none⟩ = some (.int .i64 a1_0) ∧ w'.cell? ⟨gb314, 1, none⟩ = some (.int .i64 a1_1) ∧ w'.cell? ⟨gb314, 2, none⟩ = some (.int .i64 a1_2) ∧ w'.cell? ⟨gb314, 3, none⟩ = some (.int .i64 a1_3) ∧ w'.cell? ⟨gb314, 4, none⟩ = some (.int .i64 a1_4) ∧ w'.cell? ⟨gb314, 5, none⟩ = some (.bool a1_5) ∧ w'.cell? ⟨gb314, 6, none⟩ = some (.int .i64 a1_6) ∧ w'.cell? ⟨gb314, 7, none⟩ = some (.slice A1_7 l1_7.length c1_7)) (ds := []) #[oo,oo,oo,oo,oo,oo,oo,oo,oo] (by kernel_rfl) rfl rfl (cz8 BK314.out) (fun hHeld => ?_); refine with_tabW spec_Send.tab4 spec_Send.bits4 (fun HT_ HW_ => ?_)
 generalize w13.drew = w17 at HO317 BK314 HB hHeld ⊢
 refine pz_ (i := 0) (N := some 22) HT_ #[ii,oo,oo,oo,oo,oo,oo,oo,oo] rfl rfl ?_
 refine pz_ (i := 1) (N := some 23) HT_ #[ii,ii,oo,oo,oo,oo,oo,oo,oo] rfl rfl ?_
 refine take_ (i := 2) (N := some 24) (v := ?_) (a' := ?_) #[ii,ii,ii,oo,oo,oo,oo,oo,oo] rfl rfl (take_ofW HT_.out HW_.out (by kernel_rfl)) (fun _ _ _ h => h) (Or.inl ⟨by rfl, ?_⟩) hHeld ?_ ?_
 rotate_left
 ·
  rintro w' ⟨s0, s1, s2, s3, s4, s5, s6, s7⟩
  go_simp
  with_reducible rfl
 rotate_left
 ·
  exact ap_
 refine take_ (i := 3) (N := some 25) (v := ?_) (a' := ?_) #[ii,ii,ii,ii,oo,oo,oo,oo,oo] rfl rfl (take_ofW HT_.out HW_.out (by kernel_rfl)) (fun _ _ _ h => h) (Or.inl ⟨by rfl, ?_⟩) hHeld ?_ ?_
 rotate_left
 ·
  rintro w' ⟨s0, s1, s2, s3, s4, s5, s6, s7⟩
  go_simp
  with_reducible rfl
 rotate_left
 ·
  exact ap_
 refine one_ (i := 4) (N := some 26) #[ii,ii,ii,ii,ii,oo,oo,oo,oo] rfl rfl (one_of HT_.out (by kernel_rfl)) (by decide) (fun K hK => ?_)
 refine goes_ Try.func70 (by kernel_rfl) rfl #[.agg #[.int .i64 a1_0, .int .i64 a1_1, .int .i64 a1_2, .int .i64 a1_3, .int .i64 a1_4, .bool a1_5, .int .i64 a1_6, .slice A1_7 l1_7.length c1_7]] (by rfl) rfl rfl la_ ?_
 with_reducible refine (spec_PutCtl.calls k a1_0 a1_1 a1_2 a1_3 a1_4 a1_5 a1_6 _ _ l1_7 t320 _ ?side1 ?side2 A15.out).mono ?_
 (case side1 => exact qC (Kd.C_below HR1_7.out HB.out))
 (case side2 => exact HC1_7.out)
 rintro e w18 ⟨v321, rfl, ho0, hb⟩
 refine ⟨_, rfl, ?_⟩
 replace HO317 := am_ (Kd.S_elder' (qS HO317) (Kd.R_base ho0) hb)
 have HO322 := am_ (Kd.R_lower ho0 (below_size (qB HB)))
 replace BK314 := bK_ BK314 hb
 replace HB := bS_ HB hb
 (try clear hb ho0)
 obtain ⟨Ao19, co19, eo19⟩ := Kd.R_slice HO322.out
 (first | subst eo19 | (injection eo19 with f1_ f2_ f3_; have f4_ := f1_.symm; have f5_ := f3_.symm; clear f1_ f2_ f3_; subst f4_; subst f5_))
 refine hK.out _ _ (cz8 BK314.out) (fun hHeld => ?_)
 clear hK K
 refine norm_ (a' := ?_) ?_ ?_
 rotate_left
 ·
  show Act.put _ (some 26) _ = _
  exact ap_
 refine pz_ (i := 5) (N := some 27) HT_ #[ii,ii,ii,ii,ii,ii,oo,oo,oo] rfl rfl ?_
 refine one_ (i := 6) (N := some 28) #[ii,ii,ii,ii,ii,ii,ii,oo,oo] rfl rfl (one_of HT_.out (by kernel_rfl)) (by decide) (fun K hK => ?_)
 refine value_ (w1 := ?_) (v := ?_) (by rfl) rfl ?_ ?_
 rotate_left 2
 ·
  go_simp
  constructor
  ·
   rfl
  ·
   rfl
 refine hK.out _ _ ⟨(blk_cell (blk_alloc BK314.out _) 0).trans rfl, (blk_cell (blk_alloc BK314.out _) 1).trans rfl, (blk_cell (blk_alloc BK314.out _) 2).trans rfl, (blk_cell (blk_alloc BK314.out _) 3).trans rfl, (blk_cell (blk_alloc BK314.out _) 4).trans rfl, (blk_cell (blk_alloc BK314.out _) 5).trans rfl, (blk_cell (blk_alloc BK314.out _) 6).trans rfl, (blk_cell (blk_alloc BK314.out _) 7).trans rfl⟩ (fun hHeld => ?_)
 clear hK K
 refine norm_ (a' := ?_) ?_ ?_
 rotate_left
 ·
  show Act.put _ (some 28) _ = _
  exact ap_
 refine one_ (i := 7) (N := some 29) #[ii,ii,ii,ii,ii,ii,ii,ii,oo] rfl rfl (one_of HT_.out (by kernel_rfl)) (by decide) (fun K hK => ?_)
 refine Kd.S_append_step k113 (w0 := w) w.heap.size (by rfl) (.tmp 22) (.tmp 28) 58 113 (.agg #[(.int .i64 0), (.slice none 0 0)]) 32 rfl Try.underlying58 info113 rfl (by decide) (by omega) v316 t315 (⟨a1_1, t320⟩ : S113) [.int .i64 a1_1, .slice Ao19 t320.length co19] (fun _ => True) (fun k_ => some k_ = (.slice Ao19 t320.length co19 : Value).ownBlock) rfl rfl ?aP (fun k_ hk_ => ((Kd.R_mono (ok' := fun k_ => ((fun _ => True)) k_ ∧ some k_ ≠ (v316 : Value).ownBlock) (Kd.R_apart' (HO322.out) (Kd.S_typed HO317.out) (by decide)) (fun k_ hk => ⟨trivial, hk.2⟩))).1 k_ hk_.symm) ?aF ?aO ?aB ?aS ?aL ?_
 (case aP => exact k113_mkM _ _ _ (⟨a1_1, t320⟩ : S113) (Kd.R_mono (Kd.R_tight rfl (Kd.R_mono (ok' := fun k_ => ((fun _ => True)) k_ ∧ some k_ ≠ (v316 : Value).ownBlock) (Kd.R_apart' (HO322.out) (Kd.S_typed HO317.out) (by decide)) (fun k_ hk => ⟨trivial, hk.2⟩))) (fun _ h_ => h_)))
 (case aB => exact (qB HB))
 (case aF => exact (fun _ _ => trivial))
 (case aO => exact (tS (Kd.S_mono HO317.out (fun k_ hk => ⟨trivial, fun e_ => hk.2 e_⟩))))
 (case aS => exact (below_size (qB HB)))
 (case aL => have := LMc16.out; omega)
 intro v324 w20 ho hb hg hat
 rw [← Ny323.out] at ho
 replace BK314 := am_ (blk_grown (qK BK314) hg (Kd.S_ne HO317.out BK314.out (by decide)))
 replace HB := am_ (hb)
 have HO325 := am_ (ho)
 clear HO317 HO322
 clear ho hb hg hat
 refine hK.out _ _ (cz8 BK314.out) (fun hHeld => ?_)
 clear hK K
 refine norm_ (a' := ?_) ?_ ?_
 rotate_left
 ·
  show Act.put _ (some 29) _ = _
  exact ap_
 refine pz_ (i := 8) (N := some 4) HT_ #[ii,ii,ii,ii,ii,ii,ii,ii,ii] rfl rfl ?_
 refine done_ (done_of HT_.out (by kernel_rfl)) ?_
 try go_wp2
 go_ret
 exact ⟨_, er_, qS HO325, qB HB⟩

/-! ### laws_toByteS: function 35 -/
def laws_toByteS.l0 : Nat → List Int → List Int → Int → Option (List Int)
 | 0, _, _, _ => none
 | k + 1, x0, x3, x4 => if x4 < (x0.length : Int) then (if 0 ≤ x4 then (if x4 < (x3.length : Int) then (laws_toByteS.l0 k x0 (x3.set (x4 : Int).toNat (rd x0 x4)) (wrap64 (x4 + 1))) else (none)) else (none)) else (some x3)
def laws_toByteS.f (k : Nat) (l0 : List Int) : Option (List Int) := if 0 ≤ (l0.length : Int) then (if ((l0.length : Int) : Int).toNat ≤ 281474976710656 then (laws_toByteS.l0 k l0 (List.replicate ((l0.length : Int) : Int).toNat 0) 0) else (none)) else (none)
theorem laws_toByteS.mono_l : ∀ k, (∀ y0 y1 y2, LeO (laws_toByteS.l0 k y0 y1 y2) (laws_toByteS.l0 (k + 1) y0 y1 y2))
 | 0 => fun _ _ _ r h => by simp [laws_toByteS.l0] at h
 | k + 1 => by
  have ih0 := laws_toByteS.mono_l k
  ·
   intro y0 y1 y2
   unfold laws_toByteS.l0
   repeat' first
   | (with_reducible exact ih0 _ _ _)
   | (with_reducible exact LeO.refl _)
   | (with_reducible exact LeO.none _)
   | (with_reducible refine LeO.ite ?_ ?_)
   | (with_reducible refine LeO.bind ?_ (fun _ => ?_))
theorem laws_toByteS.mono : ∀ a0 k, LeO (laws_toByteS.f k a0) (laws_toByteS.f (k + 1) a0) := by
 intro a0 k
 have ih0 := laws_toByteS.mono_l k
 unfold laws_toByteS.f
 repeat' first
   | (with_reducible exact ih0 _ _ _)
   | (with_reducible exact LeO.refl _)
   | (with_reducible exact LeO.none _)
   | (with_reducible refine LeO.ite ?_ ?_)
   | (with_reducible refine LeO.bind ?_ (fun _ => ?_))
set_option maxHeartbeats 8000000 in
set_option maxRecDepth 100000 in
theorem laws_toByteS.calls (k : Nat) (A0 : Option Addr) (c0 : Nat) (l0 : List Int) (r : List Int) (w : World) (hr0 : Kd.C (Kd.int .u8) w A0 l0.length l0) (hc0 : l0.length ≤ c0) (h : laws_toByteS.f k l0 = some r) :
  Calls Try.prog 35 #[.slice A0 l0.length c0] w fun e w' => ∃ v0_ : Value, e = .returned (v0_) ∧ Kd.R (Kd.int .u8) 5 w' w.heap.size (fun _ => True) v0_ r ∧ Below w.heap.size w w' := by
 have HR0 := Aside0.mk hr0
 have HC0 := Aside0.mk hc0
 clear hr0 hc0
 have HB := Aside0.mk (Below.refl w.heap.size w)
 have H := h
 unfold laws_toByteS.f at H
 clear h
 by_cases c2 : 0 ≤ (l0.length : Int)
 case neg => exact nn_ c2 H
 rw [if_pos c2] at H
 have c2b0 := eq_true c2
 have c2b1 : decide (0 ≤ (l0.length : Int)) = true := decide_eq_true c2
 clear c2
 by_cases c3 : ((l0.length : Int) : Int).toNat ≤ 281474976710656
 case neg => exact nn_ c3 H
 rw [if_pos c3] at H
 have c3b0 := eq_true c3
 have c3b1 : decide (((l0.length : Int) : Int).toNat ≤ 281474976710656) = true := decide_eq_true c3
 clear c3
 obtain ⟨y326, hy326⟩ : ∃ y_ : List Int, y_ = (List.replicate ((l0.length : Int) : Int).toNat 0) := ⟨_, rfl⟩
 rw [← hy326] at H
 have Ny326 := Aside0.mk hy326
 clear hy326
 have H' := Aside0.mk H
 clear H
 go_enter Try.func35, Try.ntmps35
 go_wp2_with (first | ((with_reducible refine gate_dst (N := 7) rfl ?_); refine Kd.R_make (Kd.int .u8) _ 5 rfl (N := 7) rfl 70 _ _ rfl (l0.length : Int) rfl rfl Try.underlying70 (.int .u8 0) 1 info5 rfl (by decide) (by omega) 0 (ok := fun _ => True) (okp := fun _ => True) rfl (fun _ hk => hk) trivial od_ (Nat.le_trans (Nat.mul_le_mul_right _ (od_ : (l0.length : Int).toNat ≤ 281474976710656)) (by omega)) (Below.refl _ _) (Nat.le_refl _) ?_; intro v327 w4 ho5 hb hg_ hnew_; clear hg_ hnew_; (first | rw [← Ny326.out] at ho5 | (simp only [Int.reduceToNat] at ho5; rw [← Ny326.out] at ho5)); have HO328 := am_ (Kd.R_lower ho5 (below_size (qB HB))); replace HB := bS_ HB hb; clear hb ho5))
 go_loopg [4] k (fun kq v4 w' => ∃ (x3_1 : List Int) (x4_1 : Int), v4 = .int .i64 x4_1 ∧ Aside0 (laws_toByteS.l0 kq l0 x3_1 x4_1 = some r) ∧ Aside0 (kq ≤ k) ∧ Aside0 (Kd.R (Kd.int .u8) 5 w' w.heap.size (fun _ => True) v327 x3_1) ∧ Aside0 (Below w.heap.size w w'))
 case atStart => exact ⟨(y326), (0), eqq_, H', ⟨Nat.le_refl _⟩, ⟨qR HO328⟩, ⟨qB HB⟩⟩
 case round =>
  clear H'
  try clear c2
  try clear c2b0
  try clear c2b1
  try clear p2
  try clear c3
  try clear c3b0
  try clear c3b1
  obtain ⟨x3_1, x4_1, rfl, HA, HK1, HO_3, HB⟩ := hrel
  cases gk with
  | zero => exact absurd HA.out (by simp [laws_toByteS.l0])
  | succ k1 =>
   have H := HA.out
   clear HA
   simp only [laws_toByteS.l0] at H
   by_cases c6 : x4_1 < (l0.length : Int)
   rotate_left
   ·
    rw [if_neg c6] at H
    have c6b0 : decide (x4_1 < (l0.length : Int)) = false := decide_eq_false c6
    clear c6
    obtain rfl := Option.some.inj H
    go_wp2
    go_ret
    exact ⟨_, er_, qR HO_3, qB HB⟩
   rw [if_pos c6] at H
   have c6b0 : decide (x4_1 < (l0.length : Int)) = true := decide_eq_true c6
   clear c6
   by_cases c7 : 0 ≤ x4_1
   case neg => exact nn_ c7 H
   rw [if_pos c7] at H
   have c7b0 : decide (0 ≤ x4_1) = true := decide_eq_true c7
   clear c7
   by_cases c8 : x4_1 < (x3_1.length : Int)
   case neg => exact nn_ c8 H
   rw [if_pos c8] at H
   have c8b0 : decide (x4_1 < (x3_1.length : Int)) = true := decide_eq_true c8
   clear c8
   obtain ⟨y330, hy330⟩ : ∃ y_ : List Int, y_ = (x3_1.set (x4_1 : Int).toNat (rd l0 x4_1)) := ⟨_, rfl⟩
   rw [← hy330] at H
   have Ny330 := Aside0.mk hy330
   clear hy330
   have H' := Aside0.mk H
   clear H
   have p329 : 0 ≤ (x4_1 : Int) := od_
   have q329 : x4_1 < (l0.length : Int) := od_
   obtain ⟨ad329, e329, hx329_0⟩ := Kd.at_int HR0.out x4_1 p329 q329
   cases e329
   replace hx329_0 := lb_ HB hx329_0
   replace p329 := eq_true p329
   replace q329 := eq_true q329
   have p9 : 0 ≤ (x4_1 : Int) := od_
   have q9 : (x4_1 : Int) < ((x3_1.length : Int) : Int) := od_
   obtain ⟨go9, co9, eo9, gb9, gl9, cl9, HG9⟩ := Kd.R_form HO_3.out (by omega)
   (first | cases eo9 | (injection eo9 with ea_ en_ ec_; (first | subst ea_ | (injection ea_ with ea_; subst ea_)); subst ec_; clear en_))
   have GB9 := Aside0.mk gb9
   have GG9 := Aside0.mk HG9
   clear gb9 gl9 HG9
   obtain ⟨hx9_0, hf9_0⟩ := Kd.R_celln 0 HO_3.out (x4_1 : Int) p9 q9
   replace p9 := eq_true p9
   replace q9 := eq_true q9
   have HP10 := Kd.R_putg HO_3.out (x4_1 : Int) (rd l0 x4_1)
   go_wp2_with (first | ((with_reducible refine gate_store (t := 5) (p := 20) rfl ?_); refine store_event (t := 5) (p := 20) (v := ?vo_w11) (w1 := (wr.setCell ⟨go9, (x4_1 : Int).toNat, none⟩ (.int .u8 (rd l0 x4_1)))) ?hg ?ho ?hn ?hr ?_; (case ho => rfl); (case hg => rfl); (case hn => rfl); (case hr => first | (go_simp; done) | (go_simp; rfl)); intro w11 hw; have hg : wr.grownBy w11 (some go9) := (by rw [hw]; exact HP10.2); have hp_ : Kd.R (Kd.int .u8) 5 w11 w.heap.size (fun _ => True) (.slice (some ⟨go9, 0, none⟩) x3_1.length co9) y330 := (by rw [hw, Ny330.out]; exact HP10.1); clear HP10; replace HO_3 := am_ (hp_); replace HB := am_ ((by rw [hw]; exact below_set (HB.out) GB9.out : Below w.heap.size w w11)); clear hg hw hp_))
   go_roundg k1
   case measure => have := HK1.out; omega
   case rel => exact ⟨(y330), (wrap64 (x4_1 + 1)), eqq_, H', ⟨by have := HK1.out; omega⟩, ⟨qR HO_3⟩, ⟨qB HB⟩⟩

/-! ### laws_toPack: function 71 -/
def laws_toPack.f (k : Nat) (a0_0 : Int) (l0_1 : List Int) : Option (Int × List Int) := (laws_toByteS.f k l0_1).bind fun t334 => (some (a0_0, t334))
theorem laws_toPack.mono : ∀ a0 a1 k, LeO (laws_toPack.f k a0 a1) (laws_toPack.f (k + 1) a0 a1) := by
 intro a0 a1 k
 unfold laws_toPack.f
 repeat' first
   | (with_reducible exact laws_toByteS.mono _ _)
   | (with_reducible exact LeO.refl _)
   | (with_reducible exact LeO.none _)
   | (with_reducible refine LeO.ite ?_ ?_)
   | (with_reducible refine LeO.bind ?_ (fun _ => ?_))
set_option maxHeartbeats 8000000 in
set_option maxRecDepth 100000 in
theorem laws_toPack.calls (k : Nat) (a0_0 : Int) (A0_1 : Option Addr) (c0_1 : Nat) (l0_1 : List Int) (r1 : Int) (r2 : List Int) (w : World) (hr0_1 : Kd.C (Kd.int .u8) w A0_1 l0_1.length l0_1) (hc0_1 : l0_1.length ≤ c0_1) (h : laws_toPack.f k a0_0 l0_1 = some (r1, r2)) :
  Calls Try.prog 71 #[.agg #[.int .i64 a0_0, .slice A0_1 l0_1.length c0_1]] w fun e w' => ∃ v1_ : Value, e = .returned (.agg #[.int .i64 r1, v1_]) ∧ Kd.R (Kd.int .u8) 5 w' w.heap.size (fun _ => True) v1_ r2 ∧ Below w.heap.size w w' := by
 have hu107 := Try.underlying107
 have hu113 := Try.underlying113
 have HR0_1 := Aside0.mk hr0_1
 have HC0_1 := Aside0.mk hc0_1
 clear hr0_1 hc0_1
 have HB := Aside0.mk (Below.refl w.heap.size w)
 have H := h
 unfold laws_toPack.f at H
 clear h
 replace H := bd_ H
 obtain ⟨t334, A2, H⟩ := H
 simp only [Option.some.injEq, Prod.mk.injEq] at H
 obtain ⟨rfl, rfl⟩ := H
 go_enter Try.func71, Try.ntmps71
 go_wp2_with (first | ((with_reducible refine gate_dst (N := 1) rfl ?_); refine box_event ?hg (N := 1) ?hd (cs := #[.int .i64 a0_0, .slice A0_1 l0_1.length c0_1]) (t := 107) ?hr ?_; (case hd => rfl); (case hg => rfl); (case hr => first | (go_simp; done) | (go_simp; rfl)); intro gb331 hg w3 hbox hb; have BK331 := am_ (hbox); have GW331 := gA_ hg HB; have GE331 := GW331; have IGE331 := gI_ GE331; replace HB := bS_ HB hb; clear hb hbox hg) | ((with_reducible refine gate_dst (N := 2) rfl ?_); refine box_event ?hg (N := 2) ?hd (cs := #[.int .i64 0, .slice none 0 0]) (t := 113) ?hr ?_; (case hd => rfl); (case hg => rfl); (case hr => first | (go_simp; done) | (go_simp; rfl)); intro gb332 hg w4 hbox hb; have BK332 := am_ (hbox); have GW332 := gA_ hg HB; have GE332 := GW332; have IGE332 := gI_ GE332; replace HB := bS_ HB hb; have NB331_332 := am_ ((gN_ hg (qK BK331))); have NB332_331 := am_ ((gM_ hg (qK BK331))); replace BK331 := bK_ BK331 hb; clear hb hbox hg) | ((with_reducible refine gate_dst (N := 3) rfl ?_); refine box_event ?hg (N := 3) ?hd (cs := #[.int .i64 0, .slice none 0 0]) (t := 113) ?hr ?_; (case hd => rfl); (case hg => rfl); (case hr => first | (go_simp; done) | (go_simp; rfl)); intro gb333 hg w5 hbox hb; have BK333 := am_ (hbox); have GW333 := gA_ hg HB; have GE333 := GW333; have IGE333 := gI_ GE333; replace HB := bS_ HB hb; have NB331_333 := am_ ((gN_ hg (qK BK331))); have NB333_331 := am_ ((gM_ hg (qK BK331))); replace BK331 := bK_ BK331 hb; have NB332_333 := am_ ((gN_ hg (qK BK332))); have NB333_332 := am_ ((gM_ hg (qK BK332))); replace BK332 := bK_ BK332 hb; clear hb hbox hg; have hnb6 := NB331_332.out; have hnc6 := NB332_331.out; have hnb7 := NB331_333.out; have hnc7 := NB333_331.out; have z8 := cz2 BK331.out; have f8 := fz2 BK331.out; have hnb9 := NB333_332.out; have hnc9 := NB332_333.out; have z10 := cz2 BK333.out; have f10 := fz2 BK333.out) | ((with_reducible refine gate_callee (f := 35) rfl ?_); refine goesL_ (some 9) rfl rfl Try.func35 (by kernel_rfl) rfl #[.slice A0_1 l0_1.length c0_1] rfl la_ ?_; (with_reducible refine (laws_toByteS.calls k _ _ l0_1 t334 _ ?side1 ?side2 A2.out).mono ?_); (case side1 => exact Kd.C_below HR0_1.out (qB HB)); (case side2 => exact HC0_1.out); rintro e w11 ⟨v335, rfl, ho0, hb⟩; refine ⟨_, rfl, ?_⟩; have HO336 := am_ (Kd.R_lower ho0 (below_size (qB HB))); replace BK331 := am_ (blk_below (g := gb331) (o := .cells #[.int .i64 a0_0, .slice A0_1 l0_1.length c0_1] 107 (0, 0)) (by (with_reducible repeat (first | refine blk_drewN ?_ _ | refine blk_drew ?_ | refine blk_alloc ?_ _)); refine blk_far ?_ NB331_333.out _; exact qK BK331) hb); replace BK332 := am_ (blk_below (g := gb332) (o := .cells #[.int .i64 0, .slice none 0 0] 113 (0, 0)) (by (with_reducible repeat (first | refine blk_drewN ?_ _ | refine blk_drew ?_ | refine blk_alloc ?_ _)); refine blk_far ?_ NB332_333.out _; exact qK BK332) hb); replace BK333 := am_ (blk_below (g := gb333) (o := .cells #[.int .i64 a0_0, .slice none 0 0] 113 (0, 0)) (by (with_reducible repeat (first | refine blk_drewN ?_ _ | refine blk_drew ?_ | refine blk_alloc ?_ _)); refine blk_put (cs := #[.int .i64 0, .slice none 0 0]) ?_ 0 _ rfl; exact qK BK333) hb); replace HB := bS_ HB hb; (try clear hb); (try clear ho0); obtain ⟨Ao12, co12, eo12⟩ := Kd.R_slice HO336.out; subst eo12; have z13 := cz2 BK333.out; have f13 := fz2 BK333.out; have z14 := cz2 BK332.out; have f14 := fz2 BK332.out))
 refine bodyPost_ret (results_cell_row rfl _ _ gb332 113 #[.int .i64 a0_0, .slice Ao12 t334.length co12] (0, 0) _ rfl (by exact blk_all2 (blk_far1 (qK BK332) NB332_333.out)) Try.underlying113 rfl (by kernel_rfl)) rfl ?_
 exact ⟨_, er_, by (with_reducible repeat (first | apply Kd.R_alloc | apply Kd.R_drewN | apply Kd.R_drew)); exact Kd.R_mono (R_far2 (g := gb332) (Kd.R_far (p := ⟨gb333, 1, none⟩) (Kd.R_types (Kd.R_types HO336.out BK333.out (by decide)) BK332.out (by decide)) (fun _ hk => hk.1.2) (.slice Ao12 t334.length co12)) (fun _ hk => hk.2)) (fun _ hk => trivial), qB HB⟩

/-! ### laws_toPackS: function 26 -/
def laws_toPackS.l0 : Nat → List (S107) → List (S113) → Int → Option ((List (S113)))
 | 0, _, _, _ => none
 | k + 1, x0, x3, x4 => if x4 < (x0.length : Int) then (if 0 ≤ x4 then ((laws_toPack.f k ((rd_T107 x0 x4).f0) ((rd_T107 x0 x4).f1)).bind fun bt341 => (if x4 < (x3.length : Int) then (laws_toPackS.l0 k x0 (x3.set (x4 : Int).toNat (⟨bt341.1, bt341.2⟩ : S113)) (wrap64 (x4 + 1))) else (none))) else (none)) else (some x3)
def laws_toPackS.f (k : Nat) (l0 : List (S107)) : Option ((List (S113))) := if 0 ≤ (l0.length : Int) then (if ((l0.length : Int) : Int).toNat ≤ 8796093022208 then (laws_toPackS.l0 k l0 (List.replicate ((l0.length : Int) : Int).toNat z113) 0) else (none)) else (none)
theorem laws_toPackS.mono_l : ∀ k, (∀ y0 y1 y2, LeO (laws_toPackS.l0 k y0 y1 y2) (laws_toPackS.l0 (k + 1) y0 y1 y2))
 | 0 => fun _ _ _ r h => by simp [laws_toPackS.l0] at h
 | k + 1 => by
  have ih0 := laws_toPackS.mono_l k
  ·
   intro y0 y1 y2
   unfold laws_toPackS.l0
   repeat' first
   | (with_reducible exact ih0 _ _ _)
   | (with_reducible exact laws_toPack.mono _ _ _)
   | (with_reducible exact LeO.refl _)
   | (with_reducible exact LeO.none _)
   | (with_reducible refine LeO.ite ?_ ?_)
   | (with_reducible refine LeO.bind ?_ (fun _ => ?_))
theorem laws_toPackS.mono : ∀ a0 k, LeO (laws_toPackS.f k a0) (laws_toPackS.f (k + 1) a0) := by
 intro a0 k
 have ih0 := laws_toPackS.mono_l k
 unfold laws_toPackS.f
 repeat' first
   | (with_reducible exact ih0 _ _ _)
   | (with_reducible exact laws_toPack.mono _ _ _)
   | (with_reducible exact LeO.refl _)
   | (with_reducible exact LeO.none _)
   | (with_reducible refine LeO.ite ?_ ?_)
   | (with_reducible refine LeO.bind ?_ (fun _ => ?_))
set_option maxHeartbeats 8000000 in
set_option maxRecDepth 100000 in
theorem laws_toPackS.calls (k : Nat) (A0 : Option Addr) (c0 : Nat) (l0 : List (S107)) (r : List (S113)) (w : World) (hr0 : Kd.C k107 w A0 l0.length l0) (hc0 : l0.length ≤ c0) (h : laws_toPackS.f k l0 = some r) :
  Calls Try.prog 26 #[.slice A0 l0.length c0] w fun e w' => ∃ v0_ : Value, e = .returned (v0_) ∧ Kd.S k113 113 w' w.heap.size (fun _ => True) v0_ r ∧ Below w.heap.size w w' := by
 have hu107 := Try.underlying107
 have hu113 := Try.underlying113
 have HR0 := Aside0.mk hr0
 have HC0 := Aside0.mk hc0
 clear hr0 hc0
 have HB := Aside0.mk (Below.refl w.heap.size w)
 have H := h
 unfold laws_toPackS.f at H
 clear h
 by_cases c2 : 0 ≤ (l0.length : Int)
 case neg => exact nn_ c2 H
 rw [if_pos c2] at H
 have c2b0 := eq_true c2
 have c2b1 : decide (0 ≤ (l0.length : Int)) = true := decide_eq_true c2
 clear c2
 by_cases c3 : ((l0.length : Int) : Int).toNat ≤ 8796093022208
 case neg => exact nn_ c3 H
 rw [if_pos c3] at H
 have c3b0 := eq_true c3
 have c3b1 : decide (((l0.length : Int) : Int).toNat ≤ 8796093022208) = true := decide_eq_true c3
 clear c3
 obtain ⟨y337, hy337⟩ : ∃ y_ : List (S113), y_ = (List.replicate ((l0.length : Int) : Int).toNat z113) := ⟨_, rfl⟩
 rw [← hy337] at H
 have Ny337 := Aside0.mk hy337
 clear hy337
 have H' := Aside0.mk H
 clear H
 go_enter Try.func26, Try.ntmps26
 go_wp2_with (first | ((with_reducible refine gate_dst (N := 7) rfl ?_); refine Kd.S_make k113 _ 113 rfl (N := 7) rfl 58 _ _ rfl (l0.length : Int) rfl rfl Try.underlying58 (.agg #[(.int .i64 0), (.slice none 0 0)]) 32 info113 rfl (by decide) (by omega) z113 (ok := fun _ => True) (okp := fun _ => True) (k113_mkM _ _ _ z113 (Kd.R_nil _ _ _ _ _)) (fun _ hk => hk) trivial od_ (Nat.le_trans (Nat.mul_le_mul_right _ (od_ : (l0.length : Int).toNat ≤ 8796093022208)) (by omega)) (Below.refl _ _) (Nat.le_refl _) ?_; intro v338 w4 ho5 hb hg_ hnew_; clear hg_ hnew_; (first | rw [← Ny337.out] at ho5 | (simp only [Int.reduceToNat] at ho5; rw [← Ny337.out] at ho5)); have HO339 := am_ (Kd.S_lower ho5 (below_size (qB HB))); replace HB := bS_ HB hb; clear hb ho5))
 go_loopg [4] k (fun kq v4 w' => ∃ (x3_1 : List (S113)) (x4_1 : Int), v4 = .int .i64 x4_1 ∧ Aside0 (laws_toPackS.l0 kq l0 x3_1 x4_1 = some r) ∧ Aside0 (kq ≤ k) ∧ Aside0 (Kd.S k113 113 w' w.heap.size (fun _ => True) v338 x3_1) ∧ Aside0 (Below w.heap.size w w'))
 case atStart => exact ⟨(y337), (0), eqq_, H', ⟨Nat.le_refl _⟩, ⟨qS HO339⟩, ⟨qB HB⟩⟩
 case round =>
  clear H'
  try clear c2
  try clear c2b0
  try clear c2b1
  try clear p2
  try clear c3
  try clear c3b0
  try clear c3b1
  obtain ⟨x3_1, x4_1, rfl, HA, HK1, HO_3, HB⟩ := hrel
  cases gk with
  | zero => exact absurd HA.out (by simp [laws_toPackS.l0])
  | succ k1 =>
   have H := HA.out
   clear HA
   simp only [laws_toPackS.l0] at H
   by_cases c6 : x4_1 < (l0.length : Int)
   rotate_left
   ·
    rw [if_neg c6] at H
    have c6b0 : decide (x4_1 < (l0.length : Int)) = false := decide_eq_false c6
    clear c6
    obtain rfl := Option.some.inj H
    go_wp2
    go_ret
    exact ⟨_, er_, qS HO_3, qB HB⟩
   rw [if_pos c6] at H
   have c6b0 : decide (x4_1 < (l0.length : Int)) = true := decide_eq_true c6
   clear c6
   by_cases c7 : 0 ≤ x4_1
   case neg => exact nn_ c7 H
   rw [if_pos c7] at H
   have c7b0 : decide (0 ≤ x4_1) = true := decide_eq_true c7
   clear c7
   replace H := bd_ H
   obtain ⟨⟨t341, t342⟩, A8, H⟩ := H
   (try dsimp only at H)
   by_cases c9 : x4_1 < (x3_1.length : Int)
   case neg => exact nn_ c9 H
   rw [if_pos c9] at H
   have c9b0 : decide (x4_1 < (x3_1.length : Int)) = true := decide_eq_true c9
   clear c9
   obtain ⟨y345, hy345⟩ : ∃ y_ : List (S113), y_ = (x3_1.set (x4_1 : Int).toNat (⟨t341, t342⟩ : S113)) := ⟨_, rfl⟩
   rw [← hy345] at H
   have Ny345 := Aside0.mk hy345
   clear hy345
   have H' := Aside0.mk H
   clear H
   have p340 : 0 ≤ (x4_1 : Int) := od_
   have q340 : x4_1 < (l0.length : Int) := od_
   obtain ⟨ad340, A340_1, c340_1, e340, hx340_0, hx340_1, hl340_1, hi340_1⟩ := at_T107 HR0.out x4_1 p340 q340
   cases e340
   replace hx340_0 := lb_ HB hx340_0
   replace hx340_1 := lb_ HB hx340_1
   have HR340_1 := Aside0.mk hi340_1
   have HC340_1 := Aside0.mk hl340_1
   clear hi340_1 hl340_1
   replace p340 := eq_true p340
   replace q340 := eq_true q340
   go_wp2_with (first | ((with_reducible refine gate_callee (f := 71) rfl ?_); refine goesL_ (some 20) rfl rfl Try.func71 (by kernel_rfl) rfl #[.agg #[.int .i64 ((rd_T107 l0 x4_1).f0), .slice A340_1 ((rd_T107 l0 x4_1).f1).length c340_1]] rfl la_ ?_; (with_reducible refine (laws_toPack.calls k1 ((rd_T107 l0 x4_1).f0) _ _ ((rd_T107 l0 x4_1).f1) t341 t342 _ ?side1 ?side2 A8.out).mono ?_); (case side1 => exact qC (Kd.C_below HR340_1.out HB.out)); (case side2 => exact HC340_1.out); rintro e w11 ⟨v343, rfl, ho0, hb⟩; refine ⟨_, rfl, ?_⟩; replace HO_3 := am_ (Kd.S_elder' (qS HO_3) (Kd.R_base ho0) hb); have HO344 := am_ (Kd.R_lower ho0 (below_size (qB HB))); replace HB := bS_ HB hb; (try clear hb); (try clear ho0); have p10 : 0 ≤ (x4_1 : Int) := od_; have q10 : (x4_1 : Int) < ((x3_1.length : Int) : Int) := od_; obtain ⟨go10, co10, eo10, gb10, gl10, cl10, HG10⟩ := Kd.S_form HO_3.out (by omega); (first | cases eo10 | (injection eo10 with ea_ en_ ec_; (first | subst ea_ | (injection ea_ with ea_; subst ea_)); subst ec_; clear en_)); have GB10 := Aside0.mk gb10; have GG10 := Aside0.mk HG10; clear gb10 gl10 HG10; obtain ⟨_, ce10, hcl10, hM10, hcc10, hfr10, _, _⟩ := Kd.S_elem HO_3.out z113 (x4_1 : Int) p10 q10; obtain ⟨ve10_1, rfl, ge10_1⟩ := k113_openM hM10; have hx10_0 : w11.cell? ⟨go10, (x4_1 : Int).toNat * 2, none⟩ = some (.int .i64 ((rd_T113 x3_1 x4_1).f0)) := hcc10 0 _ rfl; have hx10_1 : w11.cell? ⟨go10, (x4_1 : Int).toNat * 2 + 1, none⟩ = some (ve10_1) := hcc10 1 _ rfl; have hf10_0 : w11.frozen? ⟨go10, (x4_1 : Int).toNat * 2, none⟩ = false := hfr10 0; have hf10_1 : w11.frozen? ⟨go10, (x4_1 : Int).toNat * 2 + 1, none⟩ = false := hfr10 1; clear hcl10 hcc10 hfr10 hM10; replace p10 := eq_true p10; replace q10 := eq_true q10; have n_ := Aside0.mk (Kd.S_mono (ok' := (fun k_ => some k_ ≠ (v343 : Value).ownBlock)) HO_3.out (fun k_ hk => hk.2)); clear HO_3; have HO_3 := n_; clear n_; have HX12 := Aside0.mk (show Kd.S k113 113 w11 w.heap.size (fun k_ => ((fun _ => True)) k_ ∧ ¬ ((fun k_ => some k_ = (v343 : Value).ownBlock)) k_) (.slice (some ⟨go10, 0, none⟩) x3_1.length co10) x3_1 from (tS (Kd.S_mono HO_3.out (fun k_ hk => ⟨trivial, fun e_ => hk e_⟩)))); obtain ⟨oki12, ce12, hcl12, hM12, hcc12, hfr12, hoki12, hH12⟩ := Kd.S_elem HX12.out z113 (x4_1 : Int) od_ (by have h_ : (x4_1 : Int) < ((x3_1.length : Int) : Int) := od_; first | exact h_ | (have e_ := (Kd.S_reads' HO_3.out).1; omega) | simpa using h_); obtain ⟨ve12_1, rfl, ge12_1⟩ := k113_openM hM12; have HP12 := Kd.S_seg hH12 od_ (by have h_ : (x4_1 : Int) < ((x3_1.length : Int) : Int) := od_; first | exact h_ | (have e_ := (Kd.S_reads' HO_3.out).1; omega) | simpa using h_) (seg := [.int .i64 t341, v343]) (j := 0) (show 2 ≤ 2 from by decide) (x' := (⟨t341, t342⟩ : S113)) (k113_mkM _ _ _ (⟨t341, t342⟩ : S113) (Kd.R_mono (Kd.R_tight rfl (Kd.R_mono (ok' := fun k_ => ((fun _ => True)) k_ ∧ k_ ≠ go10) (Kd.R_apart' (HO344.out) (Kd.S_typed HO_3.out) (by decide)) (fun k_ hk => ⟨trivial, fun e_ => (hk.2) (by rw [e_]; rfl)⟩))) (fun _ h_ => Or.inr (h_)))) (fun _ hk => hk) (fun k_ hk_ => ((Kd.R_mono (ok' := fun k_ => ((fun _ => True)) k_ ∧ k_ ≠ go10) (Kd.R_apart' (HO344.out) (Kd.S_typed HO_3.out) (by decide)) (fun k_ hk => ⟨trivial, fun e_ => (hk.2) (by rw [e_]; rfl)⟩))).1 k_ hk_.symm); have hx12_0 := hcc12 0 _ rfl; (try simp only [show (k113).sz = 2 from rfl, Nat.mul_one, Nat.add_zero] at hx12_0); have hf12_0 := hfr12 0; (try simp only [show (k113).sz = 2 from rfl, Nat.mul_one, Nat.add_zero] at hf12_0); have hx12_1 := hcc12 1 _ rfl; (try simp only [show (k113).sz = 2 from rfl, Nat.mul_one, Nat.add_zero] at hx12_1); have hf12_1 := hfr12 1; (try simp only [show (k113).sz = 2 from rfl, Nat.mul_one, Nat.add_zero] at hf12_1); clear hcl12 hcc12 hfr12 hM12 hoki12 hH12) | ((with_reducible refine gate_store (t := 113) (p := 21) rfl ?_); refine store_event (t := 113) (p := 21) (v := ?vo_w13) (w1 := ((w11.setCell ⟨go10, (x4_1 : Int).toNat * 2, none⟩ (.int .i64 t341)).setCell ⟨go10, (x4_1 : Int).toNat * 2 + 1, none⟩ (v343))) ?hg ?ho ?hn ?hr ?_; (case ho => rfl); (case hg => rfl); (case hn => rfl); (case hr => first | (go_simp; done) | (go_simp; rfl) | ((try (obtain ⟨_, _, rfl⟩ := Kd.R_slice HO344.out)); first | (go_simp; done) | (go_simp; rfl))); intro w13 hw; have hg : w11.grownBy w13 (some go10) := (by rw [hw]; exact HP12.2); have hp_ : Kd.S k113 113 w13 w.heap.size (fun _ => True) (.slice (some ⟨go10, 0, none⟩) x3_1.length co10) y345 := (by rw [hw, Ny345.out]; exact HP12.1); clear HP12; replace HO_3 := am_ (hp_); replace HB := am_ ((by rw [hw]; exact below_set (below_set (HB.out) GB10.out) GB10.out : Below w.heap.size w w13)); clear HO344; clear hg hw hp_))
   go_roundg k1
   case measure => have := HK1.out; omega
   case rel => exact ⟨(y345), (wrap64 (x4_1 + 1)), eqq_, H', ⟨by have := HK1.out; omega⟩, ⟨qS HO_3⟩, ⟨qB HB⟩⟩

/-! ### laws_toAsker: function 95 -/
def laws_toAsker.f (a0_0 : Int) (a0_1 : ByteArray) (a0_2 : Int) (a0_3 : Int) (a0_4 : Int) (a0_5 : ByteArray) (a0_6 : Int) (a0_7 : Int) : Option (Int × ByteArray × Int × Int × Int × ByteArray × Int × Int) := some (a0_0, a0_1, a0_2, a0_3, a0_4, a0_5, a0_6, a0_7)
set_option maxHeartbeats 8000000 in
set_option maxRecDepth 100000 in
theorem laws_toAsker.calls (a0_0 : Int) (a0_1 : ByteArray) (a0_2 : Int) (a0_3 : Int) (a0_4 : Int) (a0_5 : ByteArray) (a0_6 : Int) (a0_7 : Int) (r1 : Int) (r2 : ByteArray) (r3 : Int) (r4 : Int) (r5 : Int) (r6 : ByteArray) (r7 : Int) (r8 : Int) (w : World) (h : laws_toAsker.f a0_0 a0_1 a0_2 a0_3 a0_4 a0_5 a0_6 a0_7 = some (r1, r2, r3, r4, r5, r6, r7, r8)) :
  Calls Try.prog 95 #[.agg #[.int .i64 a0_0, .string a0_1, .int .i64 a0_2, .int .i64 a0_3, .int .i64 a0_4, .string a0_5, .int .i64 a0_6, .int .i64 a0_7]] w fun e w' => e = .returned (.agg #[.int .i64 r1, .string r2, .int .i64 r3, .int .i64 r4, .int .i64 r5, .string r6, .int .i64 r7, .int .i64 r8]) ∧ Below w.heap.size w w' := by
 have hu137 := Try.underlying137
 have hu90 := Try.underlying90
 have HB := Aside0.mk (Below.refl w.heap.size w)
 have H := h
 unfold laws_toAsker.f at H
 clear h
 simp only [Option.some.injEq, Prod.mk.injEq] at H
 obtain ⟨rfl, rfl, rfl, rfl, rfl, rfl, rfl, rfl⟩ := H
 go_enter Try.func95, Try.ntmps95
 go_wp2_with (first | ((with_reducible refine gate_dst (N := 1) rfl ?_); refine box_event ?hg (N := 1) ?hd (cs := #[.int .i64 a0_0, .string a0_1, .int .i64 a0_2, .int .i64 a0_3, .int .i64 a0_4, .string a0_5, .int .i64 a0_6, .int .i64 a0_7]) (t := 137) ?hr ?_; (case hd => rfl); (case hg => rfl); (case hr => first | (go_simp; done) | (go_simp; rfl)); intro gb346 hg w2 hbox hb; have BK346 := am_ (hbox); have GW346 := gA_ hg HB; have GE346 := GW346; have IGE346 := gI_ GE346; replace HB := bS_ HB hb; clear hb hbox hg) | ((with_reducible refine gate_dst (N := 2) rfl ?_); refine box_event ?hg (N := 2) ?hd (cs := #[.int .i64 0, .string (⟨#[]⟩ : ByteArray), .int .i64 0, .int .i64 0, .int .i64 0, .string (⟨#[]⟩ : ByteArray), .int .i64 0, .int .i64 0]) (t := 90) ?hr ?_; (case hd => rfl); (case hg => rfl); (case hr => first | (go_simp; done) | (go_simp; rfl)); intro gb347 hg w3 hbox hb; have BK347 := am_ (hbox); have GW347 := gA_ hg HB; have GE347 := GW347; have IGE347 := gI_ GE347; replace HB := bS_ HB hb; have NB346_347 := am_ ((gN_ hg (qK BK346))); have NB347_346 := am_ ((gM_ hg (qK BK346))); replace BK346 := bK_ BK346 hb; clear hb hbox hg) | ((with_reducible refine gate_dst (N := 3) rfl ?_); refine box_event ?hg (N := 3) ?hd (cs := #[.int .i64 0, .string (⟨#[]⟩ : ByteArray), .int .i64 0, .int .i64 0, .int .i64 0, .string (⟨#[]⟩ : ByteArray), .int .i64 0, .int .i64 0]) (t := 90) ?hr ?_; (case hd => rfl); (case hg => rfl); (case hr => first | (go_simp; done) | (go_simp; rfl)); intro gb348 hg w4 hbox hb; have BK348 := am_ (hbox); have GW348 := gA_ hg HB; have GE348 := GW348; have IGE348 := gI_ GE348; replace HB := bS_ HB hb; have NB346_348 := am_ ((gN_ hg (qK BK346))); have NB348_346 := am_ ((gM_ hg (qK BK346))); replace BK346 := bK_ BK346 hb; have NB347_348 := am_ ((gN_ hg (qK BK347))); have NB348_347 := am_ ((gM_ hg (qK BK347))); replace BK347 := bK_ BK347 hb; clear hb hbox hg; have hnb5 := NB346_347.out; have hnc5 := NB347_346.out; have hnb6 := NB346_348.out; have hnc6 := NB348_346.out; have z7 := cz8 BK346.out; have f7 := fz8 BK346.out; have hnb8 := NB348_347.out; have hnc8 := NB347_348.out; have z9 := cz8 BK348.out; have f9 := fz8 BK348.out; have z10 := cz8 BK347.out; have f10 := fz8 BK347.out) | ((with_reducible refine gate_store (t := 90) (p := 2) rfl ?_); refine store_event (t := 90) (p := 2) (v := ?vo_w11) (w1 := ((((((((((((((((w4.setCell ⟨gb348, 0, none⟩ (.int .i64 a0_0)).setCell ⟨gb348, 1, none⟩ (.string a0_1)).setCell ⟨gb348, 2, none⟩ (.int .i64 a0_2)).setCell ⟨gb348, 3, none⟩ (.int .i64 a0_3)).setCell ⟨gb348, 4, none⟩ (.int .i64 a0_4)).setCell ⟨gb348, 5, none⟩ (.string a0_5)).setCell ⟨gb348, 6, none⟩ (.int .i64 a0_6)).setCell ⟨gb348, 7, none⟩ (.int .i64 a0_7)).setCell ⟨gb347, 0, none⟩ (.int .i64 a0_0)).setCell ⟨gb347, 1, none⟩ (.string a0_1)).setCell ⟨gb347, 2, none⟩ (.int .i64 a0_2)).setCell ⟨gb347, 3, none⟩ (.int .i64 a0_3)).setCell ⟨gb347, 4, none⟩ (.int .i64 a0_4)).setCell ⟨gb347, 5, none⟩ (.string a0_5)).setCell ⟨gb347, 6, none⟩ (.int .i64 a0_6)).setCell ⟨gb347, 7, none⟩ (.int .i64 a0_7))) ?hg ?ho ?hn ?hr ?_; (case ho => rfl); (case hg => rfl); (case hn => rfl); (case hr => first | (go_simp; done) | (go_simp; rfl)); intro w11 hw; have n0_ : Aside0 (w11.heap[gb346]? = some (.cells #[.int .i64 a0_0, .string a0_1, .int .i64 a0_2, .int .i64 a0_3, .int .i64 a0_4, .string a0_5, .int .i64 a0_6, .int .i64 a0_7] 137 (0, 0))) := ⟨(by rw [hw]; exact (by (with_reducible repeat (first | refine blk_drewN ?_ _ | refine blk_drew ?_ | refine blk_alloc ?_ _)); refine blk_far8 ?_ NB346_347.out; (with_reducible repeat (first | refine blk_drewN ?_ _ | refine blk_drew ?_ | refine blk_alloc ?_ _)); refine blk_far8 ?_ NB346_348.out; exact qK BK346))⟩; have n1_ : Aside0 (w11.heap[gb347]? = some (.cells #[.int .i64 a0_0, .string a0_1, .int .i64 a0_2, .int .i64 a0_3, .int .i64 a0_4, .string a0_5, .int .i64 a0_6, .int .i64 a0_7] 90 (0, 0))) := ⟨(by rw [hw]; exact (by exact blk_all8 (blk_far8 (qK BK347) NB347_348.out)))⟩; have n2_ : Aside0 (w11.heap[gb348]? = some (.cells #[.int .i64 a0_0, .string a0_1, .int .i64 a0_2, .int .i64 a0_3, .int .i64 a0_4, .string a0_5, .int .i64 a0_6, .int .i64 a0_7] 90 (0, 0))) := ⟨(by rw [hw]; exact (by (with_reducible repeat (first | refine blk_drewN ?_ _ | refine blk_drew ?_ | refine blk_alloc ?_ _)); refine blk_far8 ?_ NB348_347.out; (with_reducible repeat (first | refine blk_drewN ?_ _ | refine blk_drew ?_ | refine blk_alloc ?_ _)); refine blk_all8 (show _ = some (Go.Obj.cells #[.int .i64 0, .string (⟨#[]⟩ : ByteArray), .int .i64 0, .int .i64 0, .int .i64 0, .string (⟨#[]⟩ : ByteArray), .int .i64 0, .int .i64 0] _ (0, 0)) from ?_); exact qK BK348))⟩; have n3_ : Aside0 (Below w.heap.size w w11) := ⟨(by rw [hw]; exact (qB HB))⟩; clear hw; clear BK346; clear BK347; clear BK348; clear HB; have BK346 := n0_; have BK347 := n1_; have BK348 := n2_; have HB := n3_; clear n0_ n1_ n2_ n3_))
 refine bodyPost_ret (results_cell_row rfl _ _ gb347 90 #[.int .i64 a0_0, .string a0_1, .int .i64 a0_2, .int .i64 a0_3, .int .i64 a0_4, .string a0_5, .int .i64 a0_6, .int .i64 a0_7] (0, 0) _ rfl (qK BK347) Try.underlying90 rfl (by kernel_rfl)) rfl ?_
 exact ⟨er_, qB HB⟩

/-! ### laws_toLine: function 96 -/
def laws_toLine.f (a0_0 : Int) (a0_1 : ByteArray) (a0_2 : Int) (a0_3 : Int) (a0_4 : Int) (a0_5 : Int) (a0_6 : Int) : Option (Int × ByteArray × Int × Int × Int × Int × Int) := some (a0_0, a0_1, a0_2, a0_3, a0_4, a0_5, a0_6)
set_option maxHeartbeats 8000000 in
set_option maxRecDepth 100000 in
theorem laws_toLine.calls (a0_0 : Int) (a0_1 : ByteArray) (a0_2 : Int) (a0_3 : Int) (a0_4 : Int) (a0_5 : Int) (a0_6 : Int) (r1 : Int) (r2 : ByteArray) (r3 : Int) (r4 : Int) (r5 : Int) (r6 : Int) (r7 : Int) (w : World) (h : laws_toLine.f a0_0 a0_1 a0_2 a0_3 a0_4 a0_5 a0_6 = some (r1, r2, r3, r4, r5, r6, r7)) :
  Calls Try.prog 96 #[.agg #[.int .i64 a0_0, .string a0_1, .int .i64 a0_2, .int .i64 a0_3, .int .i64 a0_4, .int .i64 a0_5, .int .i64 a0_6]] w fun e w' => e = .returned (.agg #[.int .i64 r1, .string r2, .int .i64 r3, .int .i64 r4, .int .i64 r5, .int .i64 r6, .int .i64 r7]) ∧ Below w.heap.size w w' := by
 have hu139 := Try.underlying139
 have hu124 := Try.underlying124
 have HB := Aside0.mk (Below.refl w.heap.size w)
 have H := h
 unfold laws_toLine.f at H
 clear h
 simp only [Option.some.injEq, Prod.mk.injEq] at H
 obtain ⟨rfl, rfl, rfl, rfl, rfl, rfl, rfl⟩ := H
 go_enter Try.func96, Try.ntmps96
 go_wp2_with (first | ((with_reducible refine gate_dst (N := 1) rfl ?_); refine box_event ?hg (N := 1) ?hd (cs := #[.int .i64 a0_0, .string a0_1, .int .i64 a0_2, .int .i64 a0_3, .int .i64 a0_4, .int .i64 a0_5, .int .i64 a0_6]) (t := 139) ?hr ?_; (case hd => rfl); (case hg => rfl); (case hr => first | (go_simp; done) | (go_simp; rfl)); intro gb349 hg w2 hbox hb; have BK349 := am_ (hbox); have GW349 := gA_ hg HB; have GE349 := GW349; have IGE349 := gI_ GE349; replace HB := bS_ HB hb; clear hb hbox hg) | ((with_reducible refine gate_dst (N := 2) rfl ?_); refine box_event ?hg (N := 2) ?hd (cs := #[.int .i64 0, .string (⟨#[]⟩ : ByteArray), .int .i64 0, .int .i64 0, .int .i64 0, .int .i64 0, .int .i64 0]) (t := 124) ?hr ?_; (case hd => rfl); (case hg => rfl); (case hr => first | (go_simp; done) | (go_simp; rfl)); intro gb350 hg w3 hbox hb; have BK350 := am_ (hbox); have GW350 := gA_ hg HB; have GE350 := GW350; have IGE350 := gI_ GE350; replace HB := bS_ HB hb; have NB349_350 := am_ ((gN_ hg (qK BK349))); have NB350_349 := am_ ((gM_ hg (qK BK349))); replace BK349 := bK_ BK349 hb; clear hb hbox hg) | ((with_reducible refine gate_dst (N := 3) rfl ?_); refine box_event ?hg (N := 3) ?hd (cs := #[.int .i64 0, .string (⟨#[]⟩ : ByteArray), .int .i64 0, .int .i64 0, .int .i64 0, .int .i64 0, .int .i64 0]) (t := 124) ?hr ?_; (case hd => rfl); (case hg => rfl); (case hr => first | (go_simp; done) | (go_simp; rfl)); intro gb351 hg w4 hbox hb; have BK351 := am_ (hbox); have GW351 := gA_ hg HB; have GE351 := GW351; have IGE351 := gI_ GE351; replace HB := bS_ HB hb; have NB349_351 := am_ ((gN_ hg (qK BK349))); have NB351_349 := am_ ((gM_ hg (qK BK349))); replace BK349 := bK_ BK349 hb; have NB350_351 := am_ ((gN_ hg (qK BK350))); have NB351_350 := am_ ((gM_ hg (qK BK350))); replace BK350 := bK_ BK350 hb; clear hb hbox hg; have hnb5 := NB349_350.out; have hnc5 := NB350_349.out; have hnb6 := NB349_351.out; have hnc6 := NB351_349.out; have z7 := cz7 BK349.out; have f7 := fz7 BK349.out; have hnb8 := NB351_350.out; have hnc8 := NB350_351.out; have z9 := cz7 BK351.out; have f9 := fz7 BK351.out; have z10 := cz7 BK350.out; have f10 := fz7 BK350.out))
 refine bodyPost_ret (results_cell_row rfl _ _ gb350 124 #[.int .i64 a0_0, .string a0_1, .int .i64 a0_2, .int .i64 a0_3, .int .i64 a0_4, .int .i64 a0_5, .int .i64 a0_6] (0, 0) _ rfl (by (with_reducible repeat (first | refine blk_drewN ?_ _ | refine blk_drew ?_ | refine blk_alloc ?_ _)); refine blk_put (cs := #[.int .i64 a0_0, .string a0_1, .int .i64 a0_2, .int .i64 a0_3, .int .i64 a0_4, .int .i64 a0_5, .int .i64 0]) ?_ 6 _ rfl; (with_reducible repeat (first | refine blk_drewN ?_ _ | refine blk_drew ?_ | refine blk_alloc ?_ _)); refine blk_put (cs := #[.int .i64 a0_0, .string a0_1, .int .i64 a0_2, .int .i64 a0_3, .int .i64 a0_4, .int .i64 0, .int .i64 0]) ?_ 5 _ rfl; (with_reducible repeat (first | refine blk_drewN ?_ _ | refine blk_drew ?_ | refine blk_alloc ?_ _)); refine blk_put (cs := #[.int .i64 a0_0, .string a0_1, .int .i64 a0_2, .int .i64 a0_3, .int .i64 0, .int .i64 0, .int .i64 0]) ?_ 4 _ rfl; (with_reducible repeat (first | refine blk_drewN ?_ _ | refine blk_drew ?_ | refine blk_alloc ?_ _)); refine blk_put (cs := #[.int .i64 a0_0, .string a0_1, .int .i64 a0_2, .int .i64 0, .int .i64 0, .int .i64 0, .int .i64 0]) ?_ 3 _ rfl; (with_reducible repeat (first | refine blk_drewN ?_ _ | refine blk_drew ?_ | refine blk_alloc ?_ _)); refine blk_put (cs := #[.int .i64 a0_0, .string a0_1, .int .i64 0, .int .i64 0, .int .i64 0, .int .i64 0, .int .i64 0]) ?_ 2 _ rfl; (with_reducible repeat (first | refine blk_drewN ?_ _ | refine blk_drew ?_ | refine blk_alloc ?_ _)); refine blk_put (cs := #[.int .i64 a0_0, .string (⟨#[]⟩ : ByteArray), .int .i64 0, .int .i64 0, .int .i64 0, .int .i64 0, .int .i64 0]) ?_ 1 _ rfl; (with_reducible repeat (first | refine blk_drewN ?_ _ | refine blk_drew ?_ | refine blk_alloc ?_ _)); refine blk_put (cs := #[.int .i64 0, .string (⟨#[]⟩ : ByteArray), .int .i64 0, .int .i64 0, .int .i64 0, .int .i64 0, .int .i64 0]) ?_ 0 _ rfl; (with_reducible repeat (first | refine blk_drewN ?_ _ | refine blk_drew ?_ | refine blk_alloc ?_ _)); refine blk_far ?_ NB350_351.out _; (with_reducible repeat (first | refine blk_drewN ?_ _ | refine blk_drew ?_ | refine blk_alloc ?_ _)); refine blk_far ?_ NB350_351.out _; (with_reducible repeat (first | refine blk_drewN ?_ _ | refine blk_drew ?_ | refine blk_alloc ?_ _)); refine blk_far ?_ NB350_351.out _; (with_reducible repeat (first | refine blk_drewN ?_ _ | refine blk_drew ?_ | refine blk_alloc ?_ _)); refine blk_far ?_ NB350_351.out _; (with_reducible repeat (first | refine blk_drewN ?_ _ | refine blk_drew ?_ | refine blk_alloc ?_ _)); refine blk_far ?_ NB350_351.out _; (with_reducible repeat (first | refine blk_drewN ?_ _ | refine blk_drew ?_ | refine blk_alloc ?_ _)); refine blk_far ?_ NB350_351.out _; (with_reducible repeat (first | refine blk_drewN ?_ _ | refine blk_drew ?_ | refine blk_alloc ?_ _)); refine blk_far ?_ NB350_351.out _; (with_reducible repeat (first | refine blk_drewN ?_ _ | refine blk_drew ?_ | refine blk_alloc ?_ _)); exact BK350.out) Try.underlying124 rfl (by kernel_rfl)) rfl ?_
 exact ⟨by first | rfl | (simp [errW_none, errW_some] <;> rfl) | (simp [*, errW_none, errW_some] <;> rfl), qB HB⟩

/-! ### laws_toItem: function 108 -/
def laws_toItem.f (a0_0 : Int) (a0_1 : Int) (a0_2 : ByteArray) (a0_3 : Int) (a0_4 : Int) (a0_5 : Int) (a0_6 : ByteArray) (a0_7 : Int) (a0_8 : Int) (a0_9 : Int) (a0_10 : ByteArray) (a0_11 : Int) (a0_12 : Int) (a0_13 : Int) (a0_14 : Int) (a0_15 : Int) : Option (Int × Int × ByteArray × Int × Int × Int × ByteArray × Int × Int × Int × ByteArray × Int × Int × Int × Int × Int) := (laws_toAsker.f a0_1 a0_2 a0_3 a0_4 a0_5 a0_6 a0_7 a0_8).bind fun bt355 => ((laws_toLine.f a0_9 a0_10 a0_11 a0_12 a0_13 a0_14 a0_15).bind fun bt363 => (some (a0_0, bt355.1, bt355.2.1, bt355.2.2.1, bt355.2.2.2.1, bt355.2.2.2.2.1, bt355.2.2.2.2.2.1, bt355.2.2.2.2.2.2.1, bt355.2.2.2.2.2.2.2, bt363.1, bt363.2.1, bt363.2.2.1, bt363.2.2.2.1, bt363.2.2.2.2.1, bt363.2.2.2.2.2.1, bt363.2.2.2.2.2.2)))
set_option maxHeartbeats 8000000 in
set_option maxRecDepth 100000 in
theorem laws_toItem.calls (a0_0 : Int) (a0_1 : Int) (a0_2 : ByteArray) (a0_3 : Int) (a0_4 : Int) (a0_5 : Int) (a0_6 : ByteArray) (a0_7 : Int) (a0_8 : Int) (a0_9 : Int) (a0_10 : ByteArray) (a0_11 : Int) (a0_12 : Int) (a0_13 : Int) (a0_14 : Int) (a0_15 : Int) (r1 : Int) (r2 : Int) (r3 : ByteArray) (r4 : Int) (r5 : Int) (r6 : Int) (r7 : ByteArray) (r8 : Int) (r9 : Int) (r10 : Int) (r11 : ByteArray) (r12 : Int) (r13 : Int) (r14 : Int) (r15 : Int) (r16 : Int) (w : World) (h : laws_toItem.f a0_0 a0_1 a0_2 a0_3 a0_4 a0_5 a0_6 a0_7 a0_8 a0_9 a0_10 a0_11 a0_12 a0_13 a0_14 a0_15 = some (r1, r2, r3, r4, r5, r6, r7, r8, r9, r10, r11, r12, r13, r14, r15, r16)) :
  Calls Try.prog 108 #[.agg #[.int .i64 a0_0, .int .i64 a0_1, .string a0_2, .int .i64 a0_3, .int .i64 a0_4, .int .i64 a0_5, .string a0_6, .int .i64 a0_7, .int .i64 a0_8, .int .i64 a0_9, .string a0_10, .int .i64 a0_11, .int .i64 a0_12, .int .i64 a0_13, .int .i64 a0_14, .int .i64 a0_15]] w fun e w' => e = .returned (.agg #[.int .i64 r1, .int .i64 r2, .string r3, .int .i64 r4, .int .i64 r5, .int .i64 r6, .string r7, .int .i64 r8, .int .i64 r9, .int .i64 r10, .string r11, .int .i64 r12, .int .i64 r13, .int .i64 r14, .int .i64 r15, .int .i64 r16]) ∧ Below w.heap.size w w' := by
 have hu152 := Try.underlying152
 have hu126 := Try.underlying126
 have hu137 := Try.underlying137
 have hu90 := Try.underlying90
 have hu139 := Try.underlying139
 have hu124 := Try.underlying124
 have HB := Aside0.mk (Below.refl w.heap.size w)
 have H := h
 unfold laws_toItem.f at H
 clear h
 replace H := bf_ H
 obtain ⟨f_, hf_, ⟨t355, t356, t357, t358, t359, t360, t361, t362⟩, A2, H⟩ := H
 subst hf_
 (try dsimp only at H)
 replace H := bf_ H
 obtain ⟨f_, hf_, ⟨t363, t364, t365, t366, t367, t368, t369⟩, A3, H⟩ := H
 subst hf_
 (try dsimp only at H)
 simp only [Option.some.injEq, Prod.mk.injEq] at H
 obtain ⟨rfl, rfl, rfl, rfl, rfl, rfl, rfl, rfl, rfl, rfl, rfl, rfl, rfl, rfl, rfl, rfl⟩ := H
 go_enter Try.func108, Try.ntmps108
 go_wp2_with (first | ((with_reducible refine gate_dst (N := 1) rfl ?_); refine box_event ?hg (N := 1) ?hd (cs := #[.int .i64 a0_0, .int .i64 a0_1, .string a0_2, .int .i64 a0_3, .int .i64 a0_4, .int .i64 a0_5, .string a0_6, .int .i64 a0_7, .int .i64 a0_8, .int .i64 a0_9, .string a0_10, .int .i64 a0_11, .int .i64 a0_12, .int .i64 a0_13, .int .i64 a0_14, .int .i64 a0_15]) (t := 152) ?hr ?_; (case hd => rfl); (case hg => rfl); (case hr => first | (go_simp; done) | (go_simp; rfl)); intro gb352 hg w4 hbox hb; have BK352 := am_ (hbox); have GW352 := gA_ hg HB; have GE352 := GW352; have IGE352 := gI_ GE352; replace HB := bS_ HB hb; clear hb hbox hg) | ((with_reducible refine gate_dst (N := 2) rfl ?_); refine box_event ?hg (N := 2) ?hd (cs := #[.int .i64 0, .int .i64 0, .string (⟨#[]⟩ : ByteArray), .int .i64 0, .int .i64 0, .int .i64 0, .string (⟨#[]⟩ : ByteArray), .int .i64 0, .int .i64 0, .int .i64 0, .string (⟨#[]⟩ : ByteArray), .int .i64 0, .int .i64 0, .int .i64 0, .int .i64 0, .int .i64 0]) (t := 126) ?hr ?_; (case hd => rfl); (case hg => rfl); (case hr => first | (go_simp; done) | (go_simp; rfl)); intro gb353 hg w5 hbox hb; have BK353 := am_ (hbox); have GW353 := gA_ hg HB; have GE353 := GW353; have IGE353 := gI_ GE353; replace HB := bS_ HB hb; have NB352_353 := am_ ((gN_ hg (qK BK352))); have NB353_352 := am_ ((gM_ hg (qK BK352))); replace BK352 := bK_ BK352 hb; clear hb hbox hg) | ((with_reducible refine gate_dst (N := 3) rfl ?_); refine box_event ?hg (N := 3) ?hd (cs := #[.int .i64 0, .int .i64 0, .string (⟨#[]⟩ : ByteArray), .int .i64 0, .int .i64 0, .int .i64 0, .string (⟨#[]⟩ : ByteArray), .int .i64 0, .int .i64 0, .int .i64 0, .string (⟨#[]⟩ : ByteArray), .int .i64 0, .int .i64 0, .int .i64 0, .int .i64 0, .int .i64 0]) (t := 126) ?hr ?_; (case hd => rfl); (case hg => rfl); (case hr => first | (go_simp; done) | (go_simp; rfl)); intro gb354 hg w6 hbox hb; have BK354 := am_ (hbox); have GW354 := gA_ hg HB; have GE354 := GW354; have IGE354 := gI_ GE354; replace HB := bS_ HB hb; have NB352_354 := am_ ((gN_ hg (qK BK352))); have NB354_352 := am_ ((gM_ hg (qK BK352))); replace BK352 := bK_ BK352 hb; have NB353_354 := am_ ((gN_ hg (qK BK353))); have NB354_353 := am_ ((gM_ hg (qK BK353))); replace BK353 := bK_ BK353 hb; clear hb hbox hg; have hnb7 := NB352_353.out; have hnc7 := NB353_352.out; have hnb8 := NB352_354.out; have hnc8 := NB354_352.out; have z9 := cz16 BK352.out; have f9 := fz16 BK352.out; have hnb10 := NB354_353.out; have hnc10 := NB353_354.out; have z11 := cz16 BK354.out; have f11 := fz16 BK354.out) | ((with_reducible refine gate_callee (f := 95) rfl ?_); refine goesL_ (some 9) rfl rfl Try.func95 (by kernel_rfl) rfl #[.agg #[.int .i64 a0_1, .string a0_2, .int .i64 a0_3, .int .i64 a0_4, .int .i64 a0_5, .string a0_6, .int .i64 a0_7, .int .i64 a0_8]] rfl la_ ?_; (with_reducible refine (laws_toAsker.calls a0_1 a0_2 a0_3 a0_4 a0_5 a0_6 a0_7 a0_8 t355 t356 t357 t358 t359 t360 t361 t362 _ A2.out).mono ?_); rintro e w12 ⟨rfl, hb⟩; refine ⟨_, rfl, ?_⟩; replace BK352 := am_ (blk_below (g := gb352) (o := .cells #[.int .i64 a0_0, .int .i64 a0_1, .string a0_2, .int .i64 a0_3, .int .i64 a0_4, .int .i64 a0_5, .string a0_6, .int .i64 a0_7, .int .i64 a0_8, .int .i64 a0_9, .string a0_10, .int .i64 a0_11, .int .i64 a0_12, .int .i64 a0_13, .int .i64 a0_14, .int .i64 a0_15] 152 (0, 0)) (by (with_reducible repeat (first | refine blk_drewN ?_ _ | refine blk_drew ?_ | refine blk_alloc ?_ _)); refine blk_far ?_ NB352_354.out _; exact qK BK352) hb); replace BK353 := am_ (blk_below (g := gb353) (o := .cells #[.int .i64 0, .int .i64 0, .string (⟨#[]⟩ : ByteArray), .int .i64 0, .int .i64 0, .int .i64 0, .string (⟨#[]⟩ : ByteArray), .int .i64 0, .int .i64 0, .int .i64 0, .string (⟨#[]⟩ : ByteArray), .int .i64 0, .int .i64 0, .int .i64 0, .int .i64 0, .int .i64 0] 126 (0, 0)) (by (with_reducible repeat (first | refine blk_drewN ?_ _ | refine blk_drew ?_ | refine blk_alloc ?_ _)); refine blk_far ?_ NB353_354.out _; exact qK BK353) hb); replace BK354 := am_ (blk_below (g := gb354) (o := .cells #[.int .i64 a0_0, .int .i64 0, .string (⟨#[]⟩ : ByteArray), .int .i64 0, .int .i64 0, .int .i64 0, .string (⟨#[]⟩ : ByteArray), .int .i64 0, .int .i64 0, .int .i64 0, .string (⟨#[]⟩ : ByteArray), .int .i64 0, .int .i64 0, .int .i64 0, .int .i64 0, .int .i64 0] 126 (0, 0)) (by (with_reducible repeat (first | refine blk_drewN ?_ _ | refine blk_drew ?_ | refine blk_alloc ?_ _)); refine blk_put (cs := #[.int .i64 0, .int .i64 0, .string (⟨#[]⟩ : ByteArray), .int .i64 0, .int .i64 0, .int .i64 0, .string (⟨#[]⟩ : ByteArray), .int .i64 0, .int .i64 0, .int .i64 0, .string (⟨#[]⟩ : ByteArray), .int .i64 0, .int .i64 0, .int .i64 0, .int .i64 0, .int .i64 0]) ?_ 0 _ rfl; exact qK BK354) hb); replace HB := bS_ HB hb; (try clear hb); have z13 := cz16 BK354.out; have f13 := fz16 BK354.out; have z14 := cz16 BK352.out; have f14 := fz16 BK352.out) | ((with_reducible refine gate_callee (f := 96) rfl ?_); refine goesL_ (some 13) rfl rfl Try.func96 (by kernel_rfl) rfl #[.agg #[.int .i64 a0_9, .string a0_10, .int .i64 a0_11, .int .i64 a0_12, .int .i64 a0_13, .int .i64 a0_14, .int .i64 a0_15]] rfl la_ ?_; (with_reducible refine (laws_toLine.calls a0_9 a0_10 a0_11 a0_12 a0_13 a0_14 a0_15 t363 t364 t365 t366 t367 t368 t369 _ A3.out).mono ?_); rintro e w15 ⟨rfl, hb⟩; refine ⟨_, rfl, ?_⟩; replace BK352 := am_ (blk_below (g := gb352) (o := .cells #[.int .i64 a0_0, .int .i64 a0_1, .string a0_2, .int .i64 a0_3, .int .i64 a0_4, .int .i64 a0_5, .string a0_6, .int .i64 a0_7, .int .i64 a0_8, .int .i64 a0_9, .string a0_10, .int .i64 a0_11, .int .i64 a0_12, .int .i64 a0_13, .int .i64 a0_14, .int .i64 a0_15] 152 (0, 0)) (by (with_reducible repeat (first | refine blk_drewN ?_ _ | refine blk_drew ?_ | refine blk_alloc ?_ _)); refine blk_far8 ?_ NB352_354.out; exact qK BK352) hb); replace BK353 := am_ (blk_below (g := gb353) (o := .cells #[.int .i64 0, .int .i64 0, .string (⟨#[]⟩ : ByteArray), .int .i64 0, .int .i64 0, .int .i64 0, .string (⟨#[]⟩ : ByteArray), .int .i64 0, .int .i64 0, .int .i64 0, .string (⟨#[]⟩ : ByteArray), .int .i64 0, .int .i64 0, .int .i64 0, .int .i64 0, .int .i64 0] 126 (0, 0)) (by (with_reducible repeat (first | refine blk_drewN ?_ _ | refine blk_drew ?_ | refine blk_alloc ?_ _)); refine blk_far8 ?_ NB353_354.out; exact qK BK353) hb); replace BK354 := am_ (blk_below (g := gb354) (o := .cells #[.int .i64 a0_0, .int .i64 t355, .string t356, .int .i64 t357, .int .i64 t358, .int .i64 t359, .string t360, .int .i64 t361, .int .i64 t362, .int .i64 0, .string (⟨#[]⟩ : ByteArray), .int .i64 0, .int .i64 0, .int .i64 0, .int .i64 0, .int .i64 0] 126 (0, 0)) (by (with_reducible repeat (first | refine blk_drewN ?_ _ | refine blk_drew ?_ | refine blk_alloc ?_ _)); refine blk_put (cs := #[.int .i64 a0_0, .int .i64 t355, .string t356, .int .i64 t357, .int .i64 t358, .int .i64 t359, .string t360, .int .i64 t361, .int .i64 0, .int .i64 0, .string (⟨#[]⟩ : ByteArray), .int .i64 0, .int .i64 0, .int .i64 0, .int .i64 0, .int .i64 0]) ?_ 8 _ rfl; (with_reducible repeat (first | refine blk_drewN ?_ _ | refine blk_drew ?_ | refine blk_alloc ?_ _)); refine blk_put (cs := #[.int .i64 a0_0, .int .i64 t355, .string t356, .int .i64 t357, .int .i64 t358, .int .i64 t359, .string t360, .int .i64 0, .int .i64 0, .int .i64 0, .string (⟨#[]⟩ : ByteArray), .int .i64 0, .int .i64 0, .int .i64 0, .int .i64 0, .int .i64 0]) ?_ 7 _ rfl; (with_reducible repeat (first | refine blk_drewN ?_ _ | refine blk_drew ?_ | refine blk_alloc ?_ _)); refine blk_put (cs := #[.int .i64 a0_0, .int .i64 t355, .string t356, .int .i64 t357, .int .i64 t358, .int .i64 t359, .string (⟨#[]⟩ : ByteArray), .int .i64 0, .int .i64 0, .int .i64 0, .string (⟨#[]⟩ : ByteArray), .int .i64 0, .int .i64 0, .int .i64 0, .int .i64 0, .int .i64 0]) ?_ 6 _ rfl; (with_reducible repeat (first | refine blk_drewN ?_ _ | refine blk_drew ?_ | refine blk_alloc ?_ _)); refine blk_put (cs := #[.int .i64 a0_0, .int .i64 t355, .string t356, .int .i64 t357, .int .i64 t358, .int .i64 0, .string (⟨#[]⟩ : ByteArray), .int .i64 0, .int .i64 0, .int .i64 0, .string (⟨#[]⟩ : ByteArray), .int .i64 0, .int .i64 0, .int .i64 0, .int .i64 0, .int .i64 0]) ?_ 5 _ rfl; (with_reducible repeat (first | refine blk_drewN ?_ _ | refine blk_drew ?_ | refine blk_alloc ?_ _)); refine blk_put (cs := #[.int .i64 a0_0, .int .i64 t355, .string t356, .int .i64 t357, .int .i64 0, .int .i64 0, .string (⟨#[]⟩ : ByteArray), .int .i64 0, .int .i64 0, .int .i64 0, .string (⟨#[]⟩ : ByteArray), .int .i64 0, .int .i64 0, .int .i64 0, .int .i64 0, .int .i64 0]) ?_ 4 _ rfl; (with_reducible repeat (first | refine blk_drewN ?_ _ | refine blk_drew ?_ | refine blk_alloc ?_ _)); refine blk_put (cs := #[.int .i64 a0_0, .int .i64 t355, .string t356, .int .i64 0, .int .i64 0, .int .i64 0, .string (⟨#[]⟩ : ByteArray), .int .i64 0, .int .i64 0, .int .i64 0, .string (⟨#[]⟩ : ByteArray), .int .i64 0, .int .i64 0, .int .i64 0, .int .i64 0, .int .i64 0]) ?_ 3 _ rfl; (with_reducible repeat (first | refine blk_drewN ?_ _ | refine blk_drew ?_ | refine blk_alloc ?_ _)); refine blk_put (cs := #[.int .i64 a0_0, .int .i64 t355, .string (⟨#[]⟩ : ByteArray), .int .i64 0, .int .i64 0, .int .i64 0, .string (⟨#[]⟩ : ByteArray), .int .i64 0, .int .i64 0, .int .i64 0, .string (⟨#[]⟩ : ByteArray), .int .i64 0, .int .i64 0, .int .i64 0, .int .i64 0, .int .i64 0]) ?_ 2 _ rfl; (with_reducible repeat (first | refine blk_drewN ?_ _ | refine blk_drew ?_ | refine blk_alloc ?_ _)); refine blk_put (cs := #[.int .i64 a0_0, .int .i64 0, .string (⟨#[]⟩ : ByteArray), .int .i64 0, .int .i64 0, .int .i64 0, .string (⟨#[]⟩ : ByteArray), .int .i64 0, .int .i64 0, .int .i64 0, .string (⟨#[]⟩ : ByteArray), .int .i64 0, .int .i64 0, .int .i64 0, .int .i64 0, .int .i64 0]) ?_ 1 _ rfl; exact qK BK354) hb); replace HB := bS_ HB hb; (try clear hb); have z16 := cz16 BK354.out; have f16 := fz16 BK354.out; have z17 := cz16 BK353.out; have f17 := fz16 BK353.out) | ((with_reducible refine gate_store (t := 126) (p := 2) rfl ?_); refine store_event (t := 126) (p := 2) (v := ?vo_w18) (w1 := (((((((((((((((((((((((w15.setCell ⟨gb354, 9, none⟩ (.int .i64 t363)).setCell ⟨gb354, 10, none⟩ (.string t364)).setCell ⟨gb354, 11, none⟩ (.int .i64 t365)).setCell ⟨gb354, 12, none⟩ (.int .i64 t366)).setCell ⟨gb354, 13, none⟩ (.int .i64 t367)).setCell ⟨gb354, 14, none⟩ (.int .i64 t368)).setCell ⟨gb354, 15, none⟩ (.int .i64 t369)).setCell ⟨gb353, 0, none⟩ (.int .i64 a0_0)).setCell ⟨gb353, 1, none⟩ (.int .i64 t355)).setCell ⟨gb353, 2, none⟩ (.string t356)).setCell ⟨gb353, 3, none⟩ (.int .i64 t357)).setCell ⟨gb353, 4, none⟩ (.int .i64 t358)).setCell ⟨gb353, 5, none⟩ (.int .i64 t359)).setCell ⟨gb353, 6, none⟩ (.string t360)).setCell ⟨gb353, 7, none⟩ (.int .i64 t361)).setCell ⟨gb353, 8, none⟩ (.int .i64 t362)).setCell ⟨gb353, 9, none⟩ (.int .i64 t363)).setCell ⟨gb353, 10, none⟩ (.string t364)).setCell ⟨gb353, 11, none⟩ (.int .i64 t365)).setCell ⟨gb353, 12, none⟩ (.int .i64 t366)).setCell ⟨gb353, 13, none⟩ (.int .i64 t367)).setCell ⟨gb353, 14, none⟩ (.int .i64 t368)).setCell ⟨gb353, 15, none⟩ (.int .i64 t369))) ?hg ?ho ?hn ?hr ?_; (case ho => rfl); (case hg => rfl); (case hn => rfl); (case hr => first | (go_simp; done) | (go_simp; rfl)); intro w18 hw; have n0_ : Aside0 (w18.heap[gb352]? = some (.cells #[.int .i64 a0_0, .int .i64 a0_1, .string a0_2, .int .i64 a0_3, .int .i64 a0_4, .int .i64 a0_5, .string a0_6, .int .i64 a0_7, .int .i64 a0_8, .int .i64 a0_9, .string a0_10, .int .i64 a0_11, .int .i64 a0_12, .int .i64 a0_13, .int .i64 a0_14, .int .i64 a0_15] 152 (0, 0))) := ⟨(by rw [hw]; exact (by (with_reducible repeat (first | refine blk_drewN ?_ _ | refine blk_drew ?_ | refine blk_alloc ?_ _)); refine blk_far16 ?_ NB352_353.out; (with_reducible repeat (first | refine blk_drewN ?_ _ | refine blk_drew ?_ | refine blk_alloc ?_ _)); refine blk_far7 ?_ NB352_354.out; exact qK BK352))⟩; have n1_ : Aside0 (w18.heap[gb353]? = some (.cells #[.int .i64 a0_0, .int .i64 t355, .string t356, .int .i64 t357, .int .i64 t358, .int .i64 t359, .string t360, .int .i64 t361, .int .i64 t362, .int .i64 t363, .string t364, .int .i64 t365, .int .i64 t366, .int .i64 t367, .int .i64 t368, .int .i64 t369] 126 (0, 0))) := ⟨(by rw [hw]; exact (by exact blk_all16 (blk_far7 (qK BK353) NB353_354.out)))⟩; have n2_ : Aside0 (w18.heap[gb354]? = some (.cells #[.int .i64 a0_0, .int .i64 t355, .string t356, .int .i64 t357, .int .i64 t358, .int .i64 t359, .string t360, .int .i64 t361, .int .i64 t362, .int .i64 t363, .string t364, .int .i64 t365, .int .i64 t366, .int .i64 t367, .int .i64 t368, .int .i64 t369] 126 (0, 0))) := ⟨(by rw [hw]; exact (by (with_reducible repeat (first | refine blk_drewN ?_ _ | refine blk_drew ?_ | refine blk_alloc ?_ _)); refine blk_far16 ?_ NB354_353.out; (with_reducible repeat (first | refine blk_drewN ?_ _ | refine blk_drew ?_ | refine blk_alloc ?_ _)); refine blk_put (cs := #[.int .i64 a0_0, .int .i64 t355, .string t356, .int .i64 t357, .int .i64 t358, .int .i64 t359, .string t360, .int .i64 t361, .int .i64 t362, .int .i64 t363, .string t364, .int .i64 t365, .int .i64 t366, .int .i64 t367, .int .i64 t368, .int .i64 0]) ?_ 15 _ rfl; (with_reducible repeat (first | refine blk_drewN ?_ _ | refine blk_drew ?_ | refine blk_alloc ?_ _)); refine blk_put (cs := #[.int .i64 a0_0, .int .i64 t355, .string t356, .int .i64 t357, .int .i64 t358, .int .i64 t359, .string t360, .int .i64 t361, .int .i64 t362, .int .i64 t363, .string t364, .int .i64 t365, .int .i64 t366, .int .i64 t367, .int .i64 0, .int .i64 0]) ?_ 14 _ rfl; (with_reducible repeat (first | refine blk_drewN ?_ _ | refine blk_drew ?_ | refine blk_alloc ?_ _)); refine blk_put (cs := #[.int .i64 a0_0, .int .i64 t355, .string t356, .int .i64 t357, .int .i64 t358, .int .i64 t359, .string t360, .int .i64 t361, .int .i64 t362, .int .i64 t363, .string t364, .int .i64 t365, .int .i64 t366, .int .i64 0, .int .i64 0, .int .i64 0]) ?_ 13 _ rfl; (with_reducible repeat (first | refine blk_drewN ?_ _ | refine blk_drew ?_ | refine blk_alloc ?_ _)); refine blk_put (cs := #[.int .i64 a0_0, .int .i64 t355, .string t356, .int .i64 t357, .int .i64 t358, .int .i64 t359, .string t360, .int .i64 t361, .int .i64 t362, .int .i64 t363, .string t364, .int .i64 t365, .int .i64 0, .int .i64 0, .int .i64 0, .int .i64 0]) ?_ 12 _ rfl; (with_reducible repeat (first | refine blk_drewN ?_ _ | refine blk_drew ?_ | refine blk_alloc ?_ _)); refine blk_put (cs := #[.int .i64 a0_0, .int .i64 t355, .string t356, .int .i64 t357, .int .i64 t358, .int .i64 t359, .string t360, .int .i64 t361, .int .i64 t362, .int .i64 t363, .string t364, .int .i64 0, .int .i64 0, .int .i64 0, .int .i64 0, .int .i64 0]) ?_ 11 _ rfl; (with_reducible repeat (first | refine blk_drewN ?_ _ | refine blk_drew ?_ | refine blk_alloc ?_ _)); refine blk_put (cs := #[.int .i64 a0_0, .int .i64 t355, .string t356, .int .i64 t357, .int .i64 t358, .int .i64 t359, .string t360, .int .i64 t361, .int .i64 t362, .int .i64 t363, .string (⟨#[]⟩ : ByteArray), .int .i64 0, .int .i64 0, .int .i64 0, .int .i64 0, .int .i64 0]) ?_ 10 _ rfl; (with_reducible repeat (first | refine blk_drewN ?_ _ | refine blk_drew ?_ | refine blk_alloc ?_ _)); refine blk_put (cs := #[.int .i64 a0_0, .int .i64 t355, .string t356, .int .i64 t357, .int .i64 t358, .int .i64 t359, .string t360, .int .i64 t361, .int .i64 t362, .int .i64 0, .string (⟨#[]⟩ : ByteArray), .int .i64 0, .int .i64 0, .int .i64 0, .int .i64 0, .int .i64 0]) ?_ 9 _ rfl; exact qK BK354))⟩; have n3_ : Aside0 (Below w.heap.size w w18) := ⟨(by rw [hw]; exact (qB HB))⟩; clear hw; clear BK352; clear BK353; clear BK354; clear HB; have BK352 := n0_; have BK353 := n1_; have BK354 := n2_; have HB := n3_; clear n0_ n1_ n2_ n3_))
 refine bodyPost_ret (results_cell_row rfl _ _ gb353 126 #[.int .i64 a0_0, .int .i64 t355, .string t356, .int .i64 t357, .int .i64 t358, .int .i64 t359, .string t360, .int .i64 t361, .int .i64 t362, .int .i64 t363, .string t364, .int .i64 t365, .int .i64 t366, .int .i64 t367, .int .i64 t368, .int .i64 t369] (0, 0) _ rfl (qK BK353) Try.underlying126 rfl (by kernel_rfl)) rfl ?_
 exact ⟨er_, qB HB⟩

/-! ### laws_toItemS: function 72 -/
def laws_toItemS.l0 : Nat → List (S152) → List (S126) → Int → Option ((List (S126)))
 | 0, _, _, _ => none
 | k + 1, x0, x3, x4 => if x4 < (x0.length : Int) then (if 0 ≤ x4 then ((laws_toItem.f ((rd_T152 x0 x4).f0) ((rd_T152 x0 x4).f1.f0) ((rd_T152 x0 x4).f1.f1) ((rd_T152 x0 x4).f1.f2) ((rd_T152 x0 x4).f1.f3) ((rd_T152 x0 x4).f1.f4) ((rd_T152 x0 x4).f1.f5) ((rd_T152 x0 x4).f1.f6) ((rd_T152 x0 x4).f1.f7) ((rd_T152 x0 x4).f2.f0) ((rd_T152 x0 x4).f2.f1) ((rd_T152 x0 x4).f2.f2) ((rd_T152 x0 x4).f2.f3) ((rd_T152 x0 x4).f2.f4) ((rd_T152 x0 x4).f2.f5) ((rd_T152 x0 x4).f2.f6)).bind fun bt374 => (if x4 < (x3.length : Int) then (laws_toItemS.l0 k x0 (x3.set (x4 : Int).toNat (⟨bt374.1, (⟨bt374.2.1, bt374.2.2.1, bt374.2.2.2.1, bt374.2.2.2.2.1, bt374.2.2.2.2.2.1, bt374.2.2.2.2.2.2.1, bt374.2.2.2.2.2.2.2.1, bt374.2.2.2.2.2.2.2.2.1⟩ : S90), (⟨bt374.2.2.2.2.2.2.2.2.2.1, bt374.2.2.2.2.2.2.2.2.2.2.1, bt374.2.2.2.2.2.2.2.2.2.2.2.1, bt374.2.2.2.2.2.2.2.2.2.2.2.2.1, bt374.2.2.2.2.2.2.2.2.2.2.2.2.2.1, bt374.2.2.2.2.2.2.2.2.2.2.2.2.2.2.1, bt374.2.2.2.2.2.2.2.2.2.2.2.2.2.2.2⟩ : S124)⟩ : S126)) (wrap64 (x4 + 1))) else (none))) else (none)) else (some x3)
def laws_toItemS.f (k : Nat) (l0 : List (S152)) : Option ((List (S126))) := if 0 ≤ (l0.length : Int) then (if ((l0.length : Int) : Int).toNat ≤ 1851809057306 then (laws_toItemS.l0 k l0 (List.replicate ((l0.length : Int) : Int).toNat z126) 0) else (none)) else (none)
theorem laws_toItemS.mono_l : ∀ k, (∀ y0 y1 y2, LeO (laws_toItemS.l0 k y0 y1 y2) (laws_toItemS.l0 (k + 1) y0 y1 y2))
 | 0 => fun _ _ _ r h => by simp [laws_toItemS.l0] at h
 | k + 1 => by
  have ih0 := laws_toItemS.mono_l k
  ·
   intro y0 y1 y2
   unfold laws_toItemS.l0
   repeat' first
   | (with_reducible exact ih0 _ _ _)
   | (with_reducible exact LeO.refl _)
   | (with_reducible exact LeO.none _)
   | (with_reducible refine LeO.ite ?_ ?_)
   | (with_reducible refine LeO.bind ?_ (fun _ => ?_))
theorem laws_toItemS.mono : ∀ a0 k, LeO (laws_toItemS.f k a0) (laws_toItemS.f (k + 1) a0) := by
 intro a0 k
 have ih0 := laws_toItemS.mono_l k
 unfold laws_toItemS.f
 repeat' first
   | (with_reducible exact ih0 _ _ _)
   | (with_reducible exact LeO.refl _)
   | (with_reducible exact LeO.none _)
   | (with_reducible refine LeO.ite ?_ ?_)
   | (with_reducible refine LeO.bind ?_ (fun _ => ?_))
set_option maxHeartbeats 8000000 in
set_option maxRecDepth 100000 in
theorem laws_toItemS.calls (k : Nat) (A0 : Option Addr) (c0 : Nat) (l0 : List (S152)) (r : List (S126)) (w : World) (hr0 : Kd.C k152 w A0 l0.length l0) (hc0 : l0.length ≤ c0) (h : laws_toItemS.f k l0 = some r) :
  Calls Try.prog 72 #[.slice A0 l0.length c0] w fun e w' => ∃ v0_ : Value, e = .returned (v0_) ∧ Kd.R k126 126 w' w.heap.size (fun _ => True) v0_ r ∧ Below w.heap.size w w' := by
 have hu152 := Try.underlying152
 have hu126 := Try.underlying126
 have HR0 := Aside0.mk hr0
 have HC0 := Aside0.mk hc0
 clear hr0 hc0
 have HB := Aside0.mk (Below.refl w.heap.size w)
 have H := h
 unfold laws_toItemS.f at H
 clear h
 by_cases c2 : 0 ≤ (l0.length : Int)
 case neg => exact nn_ c2 H
 rw [if_pos c2] at H
 have c2b0 := eq_true c2
 have c2b1 : decide (0 ≤ (l0.length : Int)) = true := decide_eq_true c2
 clear c2
 by_cases c3 : ((l0.length : Int) : Int).toNat ≤ 1851809057306
 case neg => exact nn_ c3 H
 rw [if_pos c3] at H
 have c3b0 := eq_true c3
 have c3b1 : decide (((l0.length : Int) : Int).toNat ≤ 1851809057306) = true := decide_eq_true c3
 clear c3
 obtain ⟨y370, hy370⟩ : ∃ y_ : List (S126), y_ = (List.replicate ((l0.length : Int) : Int).toNat z126) := ⟨_, rfl⟩
 rw [← hy370] at H
 have Ny370 := Aside0.mk hy370
 clear hy370
 have H' := Aside0.mk H
 clear H
 go_enter Try.func72, Try.ntmps72
 go_wp2_with (first | ((with_reducible refine gate_dst (N := 7) rfl ?_); refine Kd.R_make k126 _ 126 rfl (N := 7) rfl 61 _ _ rfl (l0.length : Int) rfl rfl Try.underlying61 (.agg #[(.int .i64 0), (.int .i64 0), (.string ⟨#[]⟩), (.int .i64 0), (.int .i64 0), (.int .i64 0), (.string ⟨#[]⟩), (.int .i64 0), (.int .i64 0), (.int .i64 0), (.string ⟨#[]⟩), (.int .i64 0), (.int .i64 0), (.int .i64 0), (.int .i64 0), (.int .i64 0)]) 152 info126 rfl (by decide) (by omega) z126 (ok := fun _ => True) (okp := fun _ => True) (k126_mkM _ _ _ z126 ) (fun _ hk => hk) trivial od_ (Nat.le_trans (Nat.mul_le_mul_right _ (od_ : (l0.length : Int).toNat ≤ 1851809057306)) (by omega)) (Below.refl _ _) (Nat.le_refl _) ?_; intro v371 w4 ho5 hb hg_ hnew_; clear hg_ hnew_; (first | rw [← Ny370.out] at ho5 | (simp only [Int.reduceToNat] at ho5; rw [← Ny370.out] at ho5)); have HO372 := am_ (Kd.R_lower ho5 (below_size (qB HB))); replace HB := bS_ HB hb; clear hb ho5))
 go_loopg [4] k (fun kq v4 w' => ∃ (x3_1 : List (S126)) (x4_1 : Int), v4 = .int .i64 x4_1 ∧ Aside0 (laws_toItemS.l0 kq l0 x3_1 x4_1 = some r) ∧ Aside0 (kq ≤ k) ∧ Aside0 (Kd.R k126 126 w' w.heap.size (fun _ => True) v371 x3_1) ∧ Aside0 (Below w.heap.size w w'))
 case atStart => exact ⟨(y370), (0), eqq_, H', ⟨Nat.le_refl _⟩, ⟨qR HO372⟩, ⟨qB HB⟩⟩
 case round =>
  clear H'
  try clear c2
  try clear c2b0
  try clear c2b1
  try clear p2
  try clear c3
  try clear c3b0
  try clear c3b1
  obtain ⟨x3_1, x4_1, rfl, HA, HK1, HO_3, HB⟩ := hrel
  cases gk with
  | zero => exact absurd HA.out (by simp [laws_toItemS.l0])
  | succ k1 =>
   have H := HA.out
   clear HA
   simp only [laws_toItemS.l0] at H
   by_cases c6 : x4_1 < (l0.length : Int)
   rotate_left
   ·
    rw [if_neg c6] at H
    have c6b0 : decide (x4_1 < (l0.length : Int)) = false := decide_eq_false c6
    clear c6
    obtain rfl := Option.some.inj H
    go_wp2
    go_ret
    exact ⟨_, er_, qR HO_3, qB HB⟩
   rw [if_pos c6] at H
   have c6b0 : decide (x4_1 < (l0.length : Int)) = true := decide_eq_true c6
   clear c6
   by_cases c7 : 0 ≤ x4_1
   case neg => exact nn_ c7 H
   rw [if_pos c7] at H
   have c7b0 : decide (0 ≤ x4_1) = true := decide_eq_true c7
   clear c7
   replace H := bf_ H
   obtain ⟨f_, hf_, ⟨t374, t375, t376, t377, t378, t379, t380, t381, t382, t383, t384, t385, t386, t387, t388, t389⟩, A8, H⟩ := H
   subst hf_
   (try dsimp only at H)
   by_cases c9 : x4_1 < (x3_1.length : Int)
   case neg => exact nn_ c9 H
   rw [if_pos c9] at H
   have c9b0 : decide (x4_1 < (x3_1.length : Int)) = true := decide_eq_true c9
   clear c9
   obtain ⟨y390, hy390⟩ : ∃ y_ : List (S126), y_ = (x3_1.set (x4_1 : Int).toNat (⟨t374, (⟨t375, t376, t377, t378, t379, t380, t381, t382⟩ : S90), (⟨t383, t384, t385, t386, t387, t388, t389⟩ : S124)⟩ : S126)) := ⟨_, rfl⟩
   rw [← hy390] at H
   have Ny390 := Aside0.mk hy390
   clear hy390
   have H' := Aside0.mk H
   clear H
   have p373 : 0 ≤ (x4_1 : Int) := od_
   have q373 : x4_1 < (l0.length : Int) := od_
   obtain ⟨ad373, e373, hx373_0, hx373_1, hx373_2, hx373_3, hx373_4, hx373_5, hx373_6, hx373_7, hx373_8, hx373_9, hx373_10, hx373_11, hx373_12, hx373_13, hx373_14, hx373_15⟩ := at_T152 HR0.out x4_1 p373 q373
   cases e373
   replace hx373_0 := lb_ HB hx373_0
   replace hx373_1 := lb_ HB hx373_1
   replace hx373_2 := lb_ HB hx373_2
   replace hx373_3 := lb_ HB hx373_3
   replace hx373_4 := lb_ HB hx373_4
   replace hx373_5 := lb_ HB hx373_5
   replace hx373_6 := lb_ HB hx373_6
   replace hx373_7 := lb_ HB hx373_7
   replace hx373_8 := lb_ HB hx373_8
   replace hx373_9 := lb_ HB hx373_9
   replace hx373_10 := lb_ HB hx373_10
   replace hx373_11 := lb_ HB hx373_11
   replace hx373_12 := lb_ HB hx373_12
   replace hx373_13 := lb_ HB hx373_13
   replace hx373_14 := lb_ HB hx373_14
   replace hx373_15 := lb_ HB hx373_15
   replace p373 := eq_true p373
   replace q373 := eq_true q373
   go_wp2_with (first | ((with_reducible refine gate_callee (f := 108) rfl ?_); refine goesL_ (some 20) rfl rfl Try.func108 (by kernel_rfl) rfl #[.agg #[.int .i64 ((rd_T152 l0 x4_1).f0), .int .i64 ((rd_T152 l0 x4_1).f1.f0), .string ((rd_T152 l0 x4_1).f1.f1), .int .i64 ((rd_T152 l0 x4_1).f1.f2), .int .i64 ((rd_T152 l0 x4_1).f1.f3), .int .i64 ((rd_T152 l0 x4_1).f1.f4), .string ((rd_T152 l0 x4_1).f1.f5), .int .i64 ((rd_T152 l0 x4_1).f1.f6), .int .i64 ((rd_T152 l0 x4_1).f1.f7), .int .i64 ((rd_T152 l0 x4_1).f2.f0), .string ((rd_T152 l0 x4_1).f2.f1), .int .i64 ((rd_T152 l0 x4_1).f2.f2), .int .i64 ((rd_T152 l0 x4_1).f2.f3), .int .i64 ((rd_T152 l0 x4_1).f2.f4), .int .i64 ((rd_T152 l0 x4_1).f2.f5), .int .i64 ((rd_T152 l0 x4_1).f2.f6)]] rfl la_ ?_; (with_reducible refine (laws_toItem.calls ((rd_T152 l0 x4_1).f0) ((rd_T152 l0 x4_1).f1.f0) ((rd_T152 l0 x4_1).f1.f1) ((rd_T152 l0 x4_1).f1.f2) ((rd_T152 l0 x4_1).f1.f3) ((rd_T152 l0 x4_1).f1.f4) ((rd_T152 l0 x4_1).f1.f5) ((rd_T152 l0 x4_1).f1.f6) ((rd_T152 l0 x4_1).f1.f7) ((rd_T152 l0 x4_1).f2.f0) ((rd_T152 l0 x4_1).f2.f1) ((rd_T152 l0 x4_1).f2.f2) ((rd_T152 l0 x4_1).f2.f3) ((rd_T152 l0 x4_1).f2.f4) ((rd_T152 l0 x4_1).f2.f5) ((rd_T152 l0 x4_1).f2.f6) t374 t375 t376 t377 t378 t379 t380 t381 t382 t383 t384 t385 t386 t387 t388 t389 _ A8.out).mono ?_); rintro e w11 ⟨rfl, hb⟩; refine ⟨_, rfl, ?_⟩; replace HO_3 := rB_ HO_3 hb; replace HB := bS_ HB hb; (try clear hb); have p10 : 0 ≤ (x4_1 : Int) := od_; have q10 : (x4_1 : Int) < ((x3_1.length : Int) : Int) := od_; obtain ⟨go10, co10, eo10, gb10, gl10, cl10, HG10⟩ := Kd.R_form HO_3.out (by omega); (first | cases eo10 | (injection eo10 with ea_ en_ ec_; (first | subst ea_ | (injection ea_ with ea_; subst ea_)); subst ec_; clear en_)); have GB10 := Aside0.mk gb10; have GG10 := Aside0.mk HG10; clear gb10 gl10 HG10; obtain ⟨ce10, hcl10, hM10, hcc10, hfr10⟩ := Kd.R_elem HO_3.out z126 (x4_1 : Int) p10 q10; obtain rfl := k126_openM hM10; have hx10_0 : w11.cell? ⟨go10, (x4_1 : Int).toNat * 16, none⟩ = some (.int .i64 ((rd_T126 x3_1 x4_1).f0)) := hcc10 0 _ rfl; have hx10_1 : w11.cell? ⟨go10, (x4_1 : Int).toNat * 16 + 1, none⟩ = some (.int .i64 ((rd_T126 x3_1 x4_1).f1.f0)) := hcc10 1 _ rfl; have hx10_2 : w11.cell? ⟨go10, (x4_1 : Int).toNat * 16 + 2, none⟩ = some (.string ((rd_T126 x3_1 x4_1).f1.f1)) := hcc10 2 _ rfl; have hx10_3 : w11.cell? ⟨go10, (x4_1 : Int).toNat * 16 + 3, none⟩ = some (.int .i64 ((rd_T126 x3_1 x4_1).f1.f2)) := hcc10 3 _ rfl; have hx10_4 : w11.cell? ⟨go10, (x4_1 : Int).toNat * 16 + 4, none⟩ = some (.int .i64 ((rd_T126 x3_1 x4_1).f1.f3)) := hcc10 4 _ rfl; have hx10_5 : w11.cell? ⟨go10, (x4_1 : Int).toNat * 16 + 5, none⟩ = some (.int .i64 ((rd_T126 x3_1 x4_1).f1.f4)) := hcc10 5 _ rfl; have hx10_6 : w11.cell? ⟨go10, (x4_1 : Int).toNat * 16 + 6, none⟩ = some (.string ((rd_T126 x3_1 x4_1).f1.f5)) := hcc10 6 _ rfl; have hx10_7 : w11.cell? ⟨go10, (x4_1 : Int).toNat * 16 + 7, none⟩ = some (.int .i64 ((rd_T126 x3_1 x4_1).f1.f6)) := hcc10 7 _ rfl; have hx10_8 : w11.cell? ⟨go10, (x4_1 : Int).toNat * 16 + 8, none⟩ = some (.int .i64 ((rd_T126 x3_1 x4_1).f1.f7)) := hcc10 8 _ rfl; have hx10_9 : w11.cell? ⟨go10, (x4_1 : Int).toNat * 16 + 9, none⟩ = some (.int .i64 ((rd_T126 x3_1 x4_1).f2.f0)) := hcc10 9 _ rfl; have hx10_10 : w11.cell? ⟨go10, (x4_1 : Int).toNat * 16 + 10, none⟩ = some (.string ((rd_T126 x3_1 x4_1).f2.f1)) := hcc10 10 _ rfl; have hx10_11 : w11.cell? ⟨go10, (x4_1 : Int).toNat * 16 + 11, none⟩ = some (.int .i64 ((rd_T126 x3_1 x4_1).f2.f2)) := hcc10 11 _ rfl; have hx10_12 : w11.cell? ⟨go10, (x4_1 : Int).toNat * 16 + 12, none⟩ = some (.int .i64 ((rd_T126 x3_1 x4_1).f2.f3)) := hcc10 12 _ rfl; have hx10_13 : w11.cell? ⟨go10, (x4_1 : Int).toNat * 16 + 13, none⟩ = some (.int .i64 ((rd_T126 x3_1 x4_1).f2.f4)) := hcc10 13 _ rfl; have hx10_14 : w11.cell? ⟨go10, (x4_1 : Int).toNat * 16 + 14, none⟩ = some (.int .i64 ((rd_T126 x3_1 x4_1).f2.f5)) := hcc10 14 _ rfl; have hx10_15 : w11.cell? ⟨go10, (x4_1 : Int).toNat * 16 + 15, none⟩ = some (.int .i64 ((rd_T126 x3_1 x4_1).f2.f6)) := hcc10 15 _ rfl; have hf10_0 : w11.frozen? ⟨go10, (x4_1 : Int).toNat * 16, none⟩ = false := hfr10 0; have hf10_1 : w11.frozen? ⟨go10, (x4_1 : Int).toNat * 16 + 1, none⟩ = false := hfr10 1; have hf10_2 : w11.frozen? ⟨go10, (x4_1 : Int).toNat * 16 + 2, none⟩ = false := hfr10 2; have hf10_3 : w11.frozen? ⟨go10, (x4_1 : Int).toNat * 16 + 3, none⟩ = false := hfr10 3; have hf10_4 : w11.frozen? ⟨go10, (x4_1 : Int).toNat * 16 + 4, none⟩ = false := hfr10 4; have hf10_5 : w11.frozen? ⟨go10, (x4_1 : Int).toNat * 16 + 5, none⟩ = false := hfr10 5; have hf10_6 : w11.frozen? ⟨go10, (x4_1 : Int).toNat * 16 + 6, none⟩ = false := hfr10 6; have hf10_7 : w11.frozen? ⟨go10, (x4_1 : Int).toNat * 16 + 7, none⟩ = false := hfr10 7; have hf10_8 : w11.frozen? ⟨go10, (x4_1 : Int).toNat * 16 + 8, none⟩ = false := hfr10 8; have hf10_9 : w11.frozen? ⟨go10, (x4_1 : Int).toNat * 16 + 9, none⟩ = false := hfr10 9; have hf10_10 : w11.frozen? ⟨go10, (x4_1 : Int).toNat * 16 + 10, none⟩ = false := hfr10 10; have hf10_11 : w11.frozen? ⟨go10, (x4_1 : Int).toNat * 16 + 11, none⟩ = false := hfr10 11; have hf10_12 : w11.frozen? ⟨go10, (x4_1 : Int).toNat * 16 + 12, none⟩ = false := hfr10 12; have hf10_13 : w11.frozen? ⟨go10, (x4_1 : Int).toNat * 16 + 13, none⟩ = false := hfr10 13; have hf10_14 : w11.frozen? ⟨go10, (x4_1 : Int).toNat * 16 + 14, none⟩ = false := hfr10 14; have hf10_15 : w11.frozen? ⟨go10, (x4_1 : Int).toNat * 16 + 15, none⟩ = false := hfr10 15; clear hcl10 hcc10 hfr10 hM10; replace p10 := eq_true p10; replace q10 := eq_true q10; have HX12 := Aside0.mk (show Kd.R k126 126 w11 w.heap.size (fun _ => True) (.slice (some ⟨go10, 0, none⟩) x3_1.length co10) x3_1 from (qR HO_3)); obtain ⟨ce12, hcl12, hM12, hcc12, hfr12⟩ := Kd.R_elem HX12.out z126 (x4_1 : Int) od_ (by have h_ : (x4_1 : Int) < ((x3_1.length : Int) : Int) := od_; first | exact h_ | (have e_ := (Kd.R_reads' HO_3.out).1; omega) | simpa using h_); obtain rfl := k126_openM hM12; have HP12 := Kd.R_seg HX12.out (x4_1 : Int) od_ (by have h_ : (x4_1 : Int) < ((x3_1.length : Int) : Int) := od_; first | exact h_ | (have e_ := (Kd.R_reads' HO_3.out).1; omega) | simpa using h_) (seg := [.int .i64 t374, .int .i64 t375, .string t376, .int .i64 t377, .int .i64 t378, .int .i64 t379, .string t380, .int .i64 t381, .int .i64 t382, .int .i64 t383, .string t384, .int .i64 t385, .int .i64 t386, .int .i64 t387, .int .i64 t388, .int .i64 t389]) (j := 0) hcl12 hcc12 (show 16 ≤ 16 from by decide) (x' := (⟨t374, (⟨t375, t376, t377, t378, t379, t380, t381, t382⟩ : S90), (⟨t383, t384, t385, t386, t387, t388, t389⟩ : S124)⟩ : S126)) (k126_mkM _ _ _ (⟨t374, (⟨t375, t376, t377, t378, t379, t380, t381, t382⟩ : S90), (⟨t383, t384, t385, t386, t387, t388, t389⟩ : S124)⟩ : S126) ) (fun _ hk => hk); have hx12_0 := hcc12 0 _ rfl; (try simp only [show (k126).sz = 16 from rfl, Nat.mul_one, Nat.add_zero] at hx12_0); have hf12_0 := hfr12 0; (try simp only [show (k126).sz = 16 from rfl, Nat.mul_one, Nat.add_zero] at hf12_0); have hx12_1 := hcc12 1 _ rfl; (try simp only [show (k126).sz = 16 from rfl, Nat.mul_one, Nat.add_zero] at hx12_1); have hf12_1 := hfr12 1; (try simp only [show (k126).sz = 16 from rfl, Nat.mul_one, Nat.add_zero] at hf12_1); have hx12_2 := hcc12 2 _ rfl; (try simp only [show (k126).sz = 16 from rfl, Nat.mul_one, Nat.add_zero] at hx12_2); have hf12_2 := hfr12 2; (try simp only [show (k126).sz = 16 from rfl, Nat.mul_one, Nat.add_zero] at hf12_2); have hx12_3 := hcc12 3 _ rfl; (try simp only [show (k126).sz = 16 from rfl, Nat.mul_one, Nat.add_zero] at hx12_3); have hf12_3 := hfr12 3; (try simp only [show (k126).sz = 16 from rfl, Nat.mul_one, Nat.add_zero] at hf12_3); have hx12_4 := hcc12 4 _ rfl; (try simp only [show (k126).sz = 16 from rfl, Nat.mul_one, Nat.add_zero] at hx12_4); have hf12_4 := hfr12 4; (try simp only [show (k126).sz = 16 from rfl, Nat.mul_one, Nat.add_zero] at hf12_4); have hx12_5 := hcc12 5 _ rfl; (try simp only [show (k126).sz = 16 from rfl, Nat.mul_one, Nat.add_zero] at hx12_5); have hf12_5 := hfr12 5; (try simp only [show (k126).sz = 16 from rfl, Nat.mul_one, Nat.add_zero] at hf12_5); have hx12_6 := hcc12 6 _ rfl; (try simp only [show (k126).sz = 16 from rfl, Nat.mul_one, Nat.add_zero] at hx12_6); have hf12_6 := hfr12 6; (try simp only [show (k126).sz = 16 from rfl, Nat.mul_one, Nat.add_zero] at hf12_6); have hx12_7 := hcc12 7 _ rfl; (try simp only [show (k126).sz = 16 from rfl, Nat.mul_one, Nat.add_zero] at hx12_7); have hf12_7 := hfr12 7; (try simp only [show (k126).sz = 16 from rfl, Nat.mul_one, Nat.add_zero] at hf12_7); have hx12_8 := hcc12 8 _ rfl; (try simp only [show (k126).sz = 16 from rfl, Nat.mul_one, Nat.add_zero] at hx12_8); have hf12_8 := hfr12 8; (try simp only [show (k126).sz = 16 from rfl, Nat.mul_one, Nat.add_zero] at hf12_8); have hx12_9 := hcc12 9 _ rfl; (try simp only [show (k126).sz = 16 from rfl, Nat.mul_one, Nat.add_zero] at hx12_9); have hf12_9 := hfr12 9; (try simp only [show (k126).sz = 16 from rfl, Nat.mul_one, Nat.add_zero] at hf12_9); have hx12_10 := hcc12 10 _ rfl; (try simp only [show (k126).sz = 16 from rfl, Nat.mul_one, Nat.add_zero] at hx12_10); have hf12_10 := hfr12 10; (try simp only [show (k126).sz = 16 from rfl, Nat.mul_one, Nat.add_zero] at hf12_10); have hx12_11 := hcc12 11 _ rfl; (try simp only [show (k126).sz = 16 from rfl, Nat.mul_one, Nat.add_zero] at hx12_11); have hf12_11 := hfr12 11; (try simp only [show (k126).sz = 16 from rfl, Nat.mul_one, Nat.add_zero] at hf12_11); have hx12_12 := hcc12 12 _ rfl; (try simp only [show (k126).sz = 16 from rfl, Nat.mul_one, Nat.add_zero] at hx12_12); have hf12_12 := hfr12 12; (try simp only [show (k126).sz = 16 from rfl, Nat.mul_one, Nat.add_zero] at hf12_12); have hx12_13 := hcc12 13 _ rfl; (try simp only [show (k126).sz = 16 from rfl, Nat.mul_one, Nat.add_zero] at hx12_13); have hf12_13 := hfr12 13; (try simp only [show (k126).sz = 16 from rfl, Nat.mul_one, Nat.add_zero] at hf12_13); have hx12_14 := hcc12 14 _ rfl; (try simp only [show (k126).sz = 16 from rfl, Nat.mul_one, Nat.add_zero] at hx12_14); have hf12_14 := hfr12 14; (try simp only [show (k126).sz = 16 from rfl, Nat.mul_one, Nat.add_zero] at hf12_14); have hx12_15 := hcc12 15 _ rfl; (try simp only [show (k126).sz = 16 from rfl, Nat.mul_one, Nat.add_zero] at hx12_15); have hf12_15 := hfr12 15; (try simp only [show (k126).sz = 16 from rfl, Nat.mul_one, Nat.add_zero] at hf12_15); clear hcl12 hcc12 hfr12 hM12) | ((with_reducible refine gate_store (t := 126) (p := 21) rfl ?_); refine store_event (t := 126) (p := 21) (v := ?vo_w13) (w1 := ((((((((((((((((w11.setCell ⟨go10, (x4_1 : Int).toNat * 16, none⟩ (.int .i64 t374)).setCell ⟨go10, (x4_1 : Int).toNat * 16 + 1, none⟩ (.int .i64 t375)).setCell ⟨go10, (x4_1 : Int).toNat * 16 + 2, none⟩ (.string t376)).setCell ⟨go10, (x4_1 : Int).toNat * 16 + 3, none⟩ (.int .i64 t377)).setCell ⟨go10, (x4_1 : Int).toNat * 16 + 4, none⟩ (.int .i64 t378)).setCell ⟨go10, (x4_1 : Int).toNat * 16 + 5, none⟩ (.int .i64 t379)).setCell ⟨go10, (x4_1 : Int).toNat * 16 + 6, none⟩ (.string t380)).setCell ⟨go10, (x4_1 : Int).toNat * 16 + 7, none⟩ (.int .i64 t381)).setCell ⟨go10, (x4_1 : Int).toNat * 16 + 8, none⟩ (.int .i64 t382)).setCell ⟨go10, (x4_1 : Int).toNat * 16 + 9, none⟩ (.int .i64 t383)).setCell ⟨go10, (x4_1 : Int).toNat * 16 + 10, none⟩ (.string t384)).setCell ⟨go10, (x4_1 : Int).toNat * 16 + 11, none⟩ (.int .i64 t385)).setCell ⟨go10, (x4_1 : Int).toNat * 16 + 12, none⟩ (.int .i64 t386)).setCell ⟨go10, (x4_1 : Int).toNat * 16 + 13, none⟩ (.int .i64 t387)).setCell ⟨go10, (x4_1 : Int).toNat * 16 + 14, none⟩ (.int .i64 t388)).setCell ⟨go10, (x4_1 : Int).toNat * 16 + 15, none⟩ (.int .i64 t389))) ?hg ?ho ?hn ?hr ?_; (case ho => rfl); (case hg => rfl); (case hn => rfl); (case hr => first | (go_simp; done) | (go_simp; rfl)); intro w13 hw; have hg : w11.grownBy w13 (some go10) := (by rw [hw]; exact HP12.2); have hp_ : Kd.R k126 126 w13 w.heap.size (fun _ => True) (.slice (some ⟨go10, 0, none⟩) x3_1.length co10) y390 := (by rw [hw, Ny390.out]; exact HP12.1); clear HP12; replace HO_3 := am_ (hp_); replace HB := am_ ((by rw [hw]; exact below_set (below_set (below_set (below_set (below_set (below_set (below_set (below_set (below_set (below_set (below_set (below_set (below_set (below_set (below_set (below_set (HB.out) GB10.out) GB10.out) GB10.out) GB10.out) GB10.out) GB10.out) GB10.out) GB10.out) GB10.out) GB10.out) GB10.out) GB10.out) GB10.out) GB10.out) GB10.out) GB10.out : Below w.heap.size w w13)); clear hg hw hp_))
   go_roundg k1
   case measure => have := HK1.out; omega
   case rel => exact ⟨(y390), (wrap64 (x4_1 + 1)), eqq_, H', ⟨by have := HK1.out; omega⟩, ⟨qR HO_3⟩, ⟨qB HB⟩⟩

/-! ### laws_toCtl: function 27 -/
def laws_toCtl.f (k : Nat) (a0_0 : Int) (a0_1 : Int) (a0_2 : Int) (a0_3 : Int) (a0_4 : Int) (a0_5 : Bool) (a0_6 : Int) (l0_7 : List (S152)) : Option (Int × Int × Int × Int × Int × Bool × Int × (List (S126))) := (laws_toItemS.f k l0_7).bind fun t394 => (some (a0_0, a0_1, a0_2, a0_3, a0_4, a0_5, a0_6, t394))
theorem laws_toCtl.mono : ∀ a0 a1 a2 a3 a4 a5 a6 a7 k, LeO (laws_toCtl.f k a0 a1 a2 a3 a4 a5 a6 a7) (laws_toCtl.f (k + 1) a0 a1 a2 a3 a4 a5 a6 a7) := by
 intro a0 a1 a2 a3 a4 a5 a6 a7 k
 unfold laws_toCtl.f
 repeat' first
   | (with_reducible exact laws_toItemS.mono _ _)
   | (with_reducible exact LeO.refl _)
   | (with_reducible exact LeO.none _)
   | (with_reducible refine LeO.ite ?_ ?_)
   | (with_reducible refine LeO.bind ?_ (fun _ => ?_))
set_option maxHeartbeats 8000000 in
set_option maxRecDepth 100000 in
theorem laws_toCtl.calls (k : Nat) (a0_0 : Int) (a0_1 : Int) (a0_2 : Int) (a0_3 : Int) (a0_4 : Int) (a0_5 : Bool) (a0_6 : Int) (A0_7 : Option Addr) (c0_7 : Nat) (l0_7 : List (S152)) (r1 : Int) (r2 : Int) (r3 : Int) (r4 : Int) (r5 : Int) (r6 : Bool) (r7 : Int) (r8 : List (S126)) (w : World) (hr0_7 : Kd.C k152 w A0_7 l0_7.length l0_7) (hc0_7 : l0_7.length ≤ c0_7) (h : laws_toCtl.f k a0_0 a0_1 a0_2 a0_3 a0_4 a0_5 a0_6 l0_7 = some (r1, r2, r3, r4, r5, r6, r7, r8)) :
  Calls Try.prog 27 #[.agg #[.int .i64 a0_0, .int .i64 a0_1, .int .i64 a0_2, .int .i64 a0_3, .int .i64 a0_4, .bool a0_5, .int .i64 a0_6, .slice A0_7 l0_7.length c0_7]] w fun e w' => ∃ v7_ : Value, e = .returned (.agg #[.int .i64 r1, .int .i64 r2, .int .i64 r3, .int .i64 r4, .int .i64 r5, .bool r6, .int .i64 r7, v7_]) ∧ Kd.R k126 126 w' w.heap.size (fun _ => True) v7_ r8 ∧ Below w.heap.size w w' := by
 have hu55 := Try.underlying55
 have hu63 := Try.underlying63
 have HR0_7 := Aside0.mk hr0_7
 have HC0_7 := Aside0.mk hc0_7
 clear hr0_7 hc0_7
 have HB := Aside0.mk (Below.refl w.heap.size w)
 have H := h
 unfold laws_toCtl.f at H
 clear h
 replace H := bd_ H
 obtain ⟨t394, A2, H⟩ := H
 simp only [Option.some.injEq, Prod.mk.injEq] at H
 obtain ⟨rfl, rfl, rfl, rfl, rfl, rfl, rfl, rfl⟩ := H
 go_enter Try.func27, Try.ntmps27
 go_wp2_with (first | ((with_reducible refine gate_dst (N := 1) rfl ?_); refine box_event ?hg (N := 1) ?hd (cs := #[.int .i64 a0_0, .int .i64 a0_1, .int .i64 a0_2, .int .i64 a0_3, .int .i64 a0_4, .bool a0_5, .int .i64 a0_6, .slice A0_7 l0_7.length c0_7]) (t := 55) ?hr ?_; (case hd => rfl); (case hg => rfl); (case hr => first | (go_simp; done) | (go_simp; rfl)); intro gb391 hg w3 hbox hb; have BK391 := am_ (hbox); have GW391 := gA_ hg HB; have GE391 := GW391; have IGE391 := gI_ GE391; replace HB := bS_ HB hb; clear hb hbox hg) | ((with_reducible refine gate_dst (N := 2) rfl ?_); refine box_event ?hg (N := 2) ?hd (cs := #[.int .i64 0, .int .i64 0, .int .i64 0, .int .i64 0, .int .i64 0, .bool false, .int .i64 0, .slice none 0 0]) (t := 63) ?hr ?_; (case hd => rfl); (case hg => rfl); (case hr => first | (go_simp; done) | (go_simp; rfl)); intro gb392 hg w4 hbox hb; have BK392 := am_ (hbox); have GW392 := gA_ hg HB; have GE392 := GW392; have IGE392 := gI_ GE392; replace HB := bS_ HB hb; have NB391_392 := am_ ((gN_ hg (qK BK391))); have NB392_391 := am_ ((gM_ hg (qK BK391))); replace BK391 := bK_ BK391 hb; clear hb hbox hg) | ((with_reducible refine gate_dst (N := 3) rfl ?_); refine box_event ?hg (N := 3) ?hd (cs := #[.int .i64 0, .int .i64 0, .int .i64 0, .int .i64 0, .int .i64 0, .bool false, .int .i64 0, .slice none 0 0]) (t := 63) ?hr ?_; (case hd => rfl); (case hg => rfl); (case hr => first | (go_simp; done) | (go_simp; rfl)); intro gb393 hg w5 hbox hb; have BK393 := am_ (hbox); have GW393 := gA_ hg HB; have GE393 := GW393; have IGE393 := gI_ GE393; replace HB := bS_ HB hb; have NB391_393 := am_ ((gN_ hg (qK BK391))); have NB393_391 := am_ ((gM_ hg (qK BK391))); replace BK391 := bK_ BK391 hb; have NB392_393 := am_ ((gN_ hg (qK BK392))); have NB393_392 := am_ ((gM_ hg (qK BK392))); replace BK392 := bK_ BK392 hb; clear hb hbox hg; have hnb6 := NB391_392.out; have hnc6 := NB392_391.out; have hnb7 := NB391_393.out; have hnc7 := NB393_391.out; have z8 := cz8 BK391.out; have f8 := fz8 BK391.out; have hnb9 := NB393_392.out; have hnc9 := NB392_393.out; have z10 := cz8 BK393.out; have f10 := fz8 BK393.out) | ((with_reducible refine gate_callee (f := 72) rfl ?_); refine goesL_ (some 27) rfl rfl Try.func72 (by kernel_rfl) rfl #[.slice A0_7 l0_7.length c0_7] rfl la_ ?_; (with_reducible refine (laws_toItemS.calls k _ _ l0_7 t394 _ ?side1 ?side2 A2.out).mono ?_); (case side1 => exact Kd.C_below HR0_7.out (qB HB)); (case side2 => exact HC0_7.out); rintro e w11 ⟨v395, rfl, ho0, hb⟩; refine ⟨_, rfl, ?_⟩; have HO396 := am_ (Kd.R_lower ho0 (below_size (qB HB))); replace BK391 := am_ (blk_below (g := gb391) (o := .cells #[.int .i64 a0_0, .int .i64 a0_1, .int .i64 a0_2, .int .i64 a0_3, .int .i64 a0_4, .bool a0_5, .int .i64 a0_6, .slice A0_7 l0_7.length c0_7] 55 (0, 0)) (by (with_reducible repeat (first | refine blk_drewN ?_ _ | refine blk_drew ?_ | refine blk_alloc ?_ _)); refine blk_far7 ?_ NB391_393.out; exact qK BK391) hb); replace BK392 := am_ (blk_below (g := gb392) (o := .cells #[.int .i64 0, .int .i64 0, .int .i64 0, .int .i64 0, .int .i64 0, .bool false, .int .i64 0, .slice none 0 0] 63 (0, 0)) (by (with_reducible repeat (first | refine blk_drewN ?_ _ | refine blk_drew ?_ | refine blk_alloc ?_ _)); refine blk_far7 ?_ NB392_393.out; exact qK BK392) hb); replace BK393 := am_ (blk_below (g := gb393) (o := .cells #[.int .i64 a0_0, .int .i64 a0_1, .int .i64 a0_2, .int .i64 a0_3, .int .i64 a0_4, .bool a0_5, .int .i64 a0_6, .slice none 0 0] 63 (0, 0)) (by (with_reducible repeat (first | refine blk_drewN ?_ _ | refine blk_drew ?_ | refine blk_alloc ?_ _)); refine blk_put (cs := #[.int .i64 a0_0, .int .i64 a0_1, .int .i64 a0_2, .int .i64 a0_3, .int .i64 a0_4, .bool a0_5, .int .i64 0, .slice none 0 0]) ?_ 6 _ rfl; (with_reducible repeat (first | refine blk_drewN ?_ _ | refine blk_drew ?_ | refine blk_alloc ?_ _)); refine blk_put (cs := #[.int .i64 a0_0, .int .i64 a0_1, .int .i64 a0_2, .int .i64 a0_3, .int .i64 a0_4, .bool false, .int .i64 0, .slice none 0 0]) ?_ 5 _ rfl; (with_reducible repeat (first | refine blk_drewN ?_ _ | refine blk_drew ?_ | refine blk_alloc ?_ _)); refine blk_put (cs := #[.int .i64 a0_0, .int .i64 a0_1, .int .i64 a0_2, .int .i64 a0_3, .int .i64 0, .bool false, .int .i64 0, .slice none 0 0]) ?_ 4 _ rfl; (with_reducible repeat (first | refine blk_drewN ?_ _ | refine blk_drew ?_ | refine blk_alloc ?_ _)); refine blk_put (cs := #[.int .i64 a0_0, .int .i64 a0_1, .int .i64 a0_2, .int .i64 0, .int .i64 0, .bool false, .int .i64 0, .slice none 0 0]) ?_ 3 _ rfl; (with_reducible repeat (first | refine blk_drewN ?_ _ | refine blk_drew ?_ | refine blk_alloc ?_ _)); refine blk_put (cs := #[.int .i64 a0_0, .int .i64 a0_1, .int .i64 0, .int .i64 0, .int .i64 0, .bool false, .int .i64 0, .slice none 0 0]) ?_ 2 _ rfl; (with_reducible repeat (first | refine blk_drewN ?_ _ | refine blk_drew ?_ | refine blk_alloc ?_ _)); refine blk_put (cs := #[.int .i64 a0_0, .int .i64 0, .int .i64 0, .int .i64 0, .int .i64 0, .bool false, .int .i64 0, .slice none 0 0]) ?_ 1 _ rfl; (with_reducible repeat (first | refine blk_drewN ?_ _ | refine blk_drew ?_ | refine blk_alloc ?_ _)); refine blk_put (cs := #[.int .i64 0, .int .i64 0, .int .i64 0, .int .i64 0, .int .i64 0, .bool false, .int .i64 0, .slice none 0 0]) ?_ 0 _ rfl; exact qK BK393) hb); replace HB := bS_ HB hb; (try clear hb); (try clear ho0); obtain ⟨Ao12, co12, eo12⟩ := Kd.R_slice HO396.out; subst eo12; have z13 := cz8 BK393.out; have f13 := fz8 BK393.out; have z14 := cz8 BK392.out; have f14 := fz8 BK392.out))
 refine bodyPost_ret (results_cell_row rfl _ _ gb392 63 #[.int .i64 a0_0, .int .i64 a0_1, .int .i64 a0_2, .int .i64 a0_3, .int .i64 a0_4, .bool a0_5, .int .i64 a0_6, .slice Ao12 t394.length co12] (0, 0) _ rfl (by exact blk_all8 (blk_far1 (qK BK392) NB392_393.out)) Try.underlying63 rfl (by kernel_rfl)) rfl ?_
 exact ⟨_, er_, by (with_reducible repeat (first | apply Kd.R_alloc | apply Kd.R_drewN | apply Kd.R_drew)); exact Kd.R_mono (R_far8 (g := gb392) (Kd.R_far (p := ⟨gb393, 7, none⟩) (Kd.R_types (Kd.R_types HO396.out BK393.out (by decide)) BK392.out (by decide)) (fun _ hk => hk.1.2) (.slice Ao12 t394.length co12)) (fun _ hk => hk.2)) (fun _ hk => trivial), qB HB⟩

/-! ### slices_Clone_byte: function 119 -/
def slices_Clone_byte.f (l0 : List Int) : Option (List Int) := (some (([] : List Int) : List Int)).bind fun y397 => (if y397.length + l0.length < 140737488355328 then (some (y397 ++ l0)) else (none))
set_option maxHeartbeats 8000000 in
set_option maxRecDepth 100000 in
theorem slices_Clone_byte.calls_some (a0_ : Addr) (c0 : Nat) (l0 : List Int) (r : List Int) (w : World) (hr0 : Kd.C (Kd.int .u8) w (some a0_) l0.length l0) (hc0 : l0.length ≤ c0) (h : slices_Clone_byte.f l0 = some r) :
  Calls Try.prog 119 #[.slice (some a0_) l0.length c0] w fun e w' => ∃ v0_ : Value, e = .returned (v0_) ∧ Kd.R (Kd.int .u8) 5 w' w.heap.size (fun _ => True) v0_ r ∧ Below w.heap.size w w' := by
 have HR0 := Aside0.mk hr0
 have HC0 := Aside0.mk hc0
 clear hr0 hc0
 have HB := Aside0.mk (Below.refl w.heap.size w)
 have H := h
 unfold slices_Clone_byte.f at H
 clear h
 obtain ⟨y397, hy397⟩ : ∃ y_ : List Int, y_ = (([] : List Int)) := ⟨_, rfl⟩
 replace H := mk_ H hy397
 (try dsimp only at H)
 have Ny397 := Aside0.mk hy397
 clear hy397
 by_cases c2 : y397.length + l0.length < 140737488355328
 case neg => exact nn_ c2 H
 rw [if_pos c2] at H
 have LMc2 := Aside0.mk c2
 clear c2
 obtain ⟨y400, hy400⟩ : ∃ y_ : List Int, y_ = (y397 ++ l0) := ⟨_, rfl⟩
 replace H : (some y400) = some r := by first | (rw [hy400]; with_reducible exact H) | (have H2_ := (Option.bind_some _ _).symm.trans H; rw [hy400]; with_reducible exact H2_) | (have H2_ := (Option.bind_some _ _).symm.trans H; with_reducible exact H2_) | with_reducible exact H | (rw [hy400]; exact H) | exact H
 have Ny400 := Aside0.mk hy400
 clear hy400
 obtain rfl := Option.some.inj H
 have hnil := fun (W : World) => Lib.run_eql_slice_nil (P := Try.prog) W 70 5 (some a0_) l0.length c0 0 0 Try.underlying70
 go_enter Try.func119, Try.ntmps119
 go_wp2_with (first | ((with_reducible refine gate_dst (N := 5) rfl ?_); refine Kd.R_lit (Kd.int .u8) _ 5 ?hg (N := 5) ?hd (xs := ([] : List Int)) (inner := []) (ok := fun _ => True) (okp := fun _ => True) ?hr ?hp (fun _ hk => hk) trivial (Below.refl _ _) (Nat.le_refl _) (by simp) ?_; (case hd => rfl); (case hg => rfl); (case hr => first | (go_simp; done) | (go_simp; rfl)); (case hp => exact (Reps.none _ _)); intro v398 w3 ho4 hb hg_ hnew_; clear hg_ hnew_; (first | rw [← Ny397.out] at ho4 | (simp only [Int.reduceToNat] at ho4; rw [← Ny397.out] at ho4)); have HO399 := am_ (Kd.R_lower ho4 (below_size (qB HB))); replace HB := bS_ HB hb; clear hb ho4) | ((with_reducible refine gate_builtin (b := .append) (xs := #[.tmp 5, .tmp 6]) rfl ?_); at_builtin; refine Kd.R_append_rows (Kd.int .u8) (w0 := w) w.heap.size rfl (.tmp 5) (.tmp 6) 70 5 (.int .u8 0) 1 rfl Try.underlying70 info5 rfl (by decide) (by omega) v398 y397 l0 _ _ _ (fun _ => True) (fun _ => False) rfl rfl ?aO ?aR (fun _ _ h => h) (fun _ h => h.elim) ?aF ?aB ?aS ?aL ?_; (case aR => exact qC (Kd.C_below HR0.out HB.out)); (case aB => exact (qB HB)); (case aF => exact (fun _ _ => trivial)); (case aO => exact (qR HO399)); (case aS => exact (below_size (qB HB))); (case aL => have := LMc2.out; omega); intro v401 w5 ho hb hg hat; rw [← Ny400.out] at ho; replace HB := am_ (hb); have HO402 := am_ (ho); clear HO399; clear ho hb hg hat))
 go_ret
 exact ⟨_, er_, qR HO402, qB HB⟩
set_option maxHeartbeats 4000000 in
set_option maxRecDepth 100000 in
theorem slices_Clone_byte.calls_nil (c0 : Nat) (w : World) : Calls Try.prog 119 #[.slice none 0 c0] w fun e w' => e = .returned (.slice none 0 0) ∧ Below w.heap.size w w' := by
 have hnil := fun (W : World) => Lib.run_eql_slice_nil (P := Try.prog) W 70 5 none 0 c0 0 0 Try.underlying70
 go_enter Try.func119, Try.ntmps119
 go_wp2
 go_ret
 exact ⟨rfl, Below.refl _ _⟩
theorem slices_Clone_byte.calls (A0 : Option Addr) (c0 : Nat) (l0 : List Int) (r : List Int) (w : World) (hr0 : Kd.C (Kd.int .u8) w A0 l0.length l0) (hc0 : l0.length ≤ c0) (h : slices_Clone_byte.f l0 = some r) :
  Calls Try.prog 119 #[.slice A0 l0.length c0] w fun e w' => ∃ v0_ : Value, e = .returned (v0_) ∧ Kd.R (Kd.int .u8) 5 w' w.heap.size (fun _ => True) v0_ r ∧ Below w.heap.size w w' := by
 cases A0 with
 | some a0_ => exact slices_Clone_byte.calls_some a0_ c0 l0 r w hr0 hc0 h
 | none =>
  obtain rfl : l0 = [] := by
   rcases l0 with _ | ⟨x_, l_⟩
   ·
    rfl
   ·
    obtain ⟨_, e_, _⟩ := hr0.2.2 (by simp)
    cases e_
  obtain rfl : r = [] := by
   have h' := h
   simp [slices_Clone_byte.f] at h'
   exact h'
  refine (slices_Clone_byte.calls_nil c0 w).mono ?_
  rintro e w' ⟨rfl, hb⟩
  exact ⟨_, rfl, Kd.R_nil _ _ _ _ _, hb⟩

end Go.Proofs.Ytiffahfpfgnjnab.PFnExactSend
