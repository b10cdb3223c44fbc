-- Written by a program of this session (myprint.py, over the kit's print): contracts of FnWays
import Derived.Test.YtiffahfpfgnjnaaPFnWaysx0
import Derived.Test.YtiffahfpfgnjnaaPFnWaysx3
import Derived.Test.YtiffahfpfgnjnaaPFnWaysx7
import Derived.Test.YtiffahfpfgnjnaaPFnWaysx8
import Derived.Test.YtiffahfpfgnjnaaPFnWaysx9
namespace Go.Proofs.Ytiffahfpfgnjnaa.PFnWays
open Go.RowKit Go.Proofs.YtiffahfpfgnjnaaW.PrintWords Go.Proofs.YtiffahfpfgnjnaaW.PrintLast Go.Proofs.YtiffahfpfgnjnaaW.PrintMore Go.Proofs.YtiffahfpfgnjnaaV
attribute [local go_sem] max2_int min2_int max_two min_two max_three min_three max_four min_four   -- for this text's walks alone
set_option linter.unusedVariables false
set_option linter.unusedSimpArgs false

/-! ### spec_Send: function 50 -/
def spec_Send.f (k : Nat) (l0 : List (S68)) (a1_0 : Int) (a1_1 : Int) (a1_2 : Int) (a1_3 : Int) (a1_4 : Int) (a1_5 : Bool) (a1_6 : Int) (l1_7 : List (S29)) : Option ((List (S68))) := (spec_l12Copy.f k l0).bind fun t322 => ((spec_WayOk.f k l0).bind fun t325 => (if t325 = true then ((spec_CtlOk.f k a1_0 a1_1 a1_2 a1_3 a1_4 a1_5 a1_6 l1_7).bind fun t326 => (if t326 = true then (if (l0.length : Int) = 12 then (some t322) else ((spec_PutCtl.f k a1_0 a1_1 a1_2 a1_3 a1_4 a1_5 a1_6 l1_7).bind fun t327 => (if t322.length < 4398046511104 then (some (t322 ++ [(⟨a1_1, t327⟩ : S68)])) else (none)))) else (some t322))) else (some t322)))
theorem spec_Send.mono : ∀ a0 a1 a2 a3 a4 a5 a6 a7 a8 k, LeO (spec_Send.f k a0 a1 a2 a3 a4 a5 a6 a7 a8) (spec_Send.f (k + 1) a0 a1 a2 a3 a4 a5 a6 a7 a8) := by
 intro a0 a1 a2 a3 a4 a5 a6 a7 a8 k
 unfold spec_Send.f
 have m0 := @spec_CtlOk.mono; have m1 := @spec_PutCtl.mono; have m2 := @spec_WayOk.mono; have m3 := @spec_l12Copy.mono; exact mo_
def spec_Send.T4 : Bool × List (List Nat × List Nat) := (true, [([], []), ([], []), ([1], [1]), ([], []), ([3], [3]), ([2, 4], [2, 4]), ([5], [5]), ([0, 6, 4], [0, 6]), ([7, 7, 0, 1, 2, 3, 4, 5, 6, 7], [7])])
def spec_Send.B4 : List Nat := [0, 0, 2, 0, 8, 30, 62, 127, 255]
theorem spec_Send.tab4 : rtab .any (opsOf Try.f50 4) = spec_Send.T4 := by kernel_rfl
theorem spec_Send.bits4 : waitsOk spec_Send.T4.2 spec_Send.B4 = true := by kernel_rfl
set_option maxHeartbeats 8000000 in
set_option maxRecDepth 100000 in
theorem spec_Send.calls (k : Nat) (A0 : Option Addr) (c0 : Nat) (l0 : List (S68)) (a1_0 : Int) (a1_1 : Int) (a1_2 : Int) (a1_3 : Int) (a1_4 : Int) (a1_5 : Bool) (a1_6 : Int) (A1_7 : Option Addr) (c1_7 : Nat) (l1_7 : List (S29)) (r : List (S68)) (w : World) (hr0 : Kd.C k68 w A0 l0.length l0) (hc0 : l0.length ≤ c0) (hr1_7 : Kd.C k29 w A1_7 l1_7.length l1_7) (hc1_7 : l1_7.length ≤ c1_7) (h : spec_Send.f k l0 a1_0 a1_1 a1_2 a1_3 a1_4 a1_5 a1_6 l1_7 = some r) :
  Calls Try.prog 50 #[.slice A0 l0.length c0, .agg #[.int .i64 a1_0, .int .i64 a1_1, .int .i64 a1_2, .int .i64 a1_3, .int .i64 a1_4, .bool a1_5, .int .i64 a1_6, .slice A1_7 l1_7.length c1_7]] w fun e w' => ∃ v0_ : Value, e = .returned (v0_) ∧ Kd.S k68 68 w' w.heap.size (fun _ => True) v0_ r ∧ Below w.heap.size w w' := by
 have hu75 := Try.underlying75
 have hu68 := Try.underlying68
 have HR0 := Aside0.mk hr0
 have HC0 := Aside0.mk hc0
 clear hr0 hc0
 have HR1_7 := Aside0.mk hr1_7
 have HC1_7 := Aside0.mk hc1_7
 clear hr1_7 hc1_7
 have HB := Aside0.mk (Below.refl w.heap.size w)
 have H := h
 unfold spec_Send.f at H
 clear h
 replace H := bd_ H
 obtain ⟨t322, A3, H⟩ := H
 have HC4 := Aside0.mk H
 clear H
 go_enter Try.func50, Try.ntmps50
 go_upto_region 2 with (first | ((with_reducible refine gate_dst (N := 3) rfl ?_); (try (refine gate_guard (by rfl) ?_; dsimp only)); refine bx_ (N := 3) (cs := #[.int .i64 a1_0, .int .i64 a1_1, .int .i64 a1_2, .int .i64 a1_3, .int .i64 a1_4, .bool a1_5, .int .i64 a1_6, .slice A1_7 l1_7.length c1_7]) (t := 75) ?_; intro gb321 hg w5 hbox hb; have BK321 := am_ (hbox); have GW321 := gA_ hg HB; have GE321 := GW321; have IGE321 := gI_ GE321; replace HB := bS_ HB hb; clear hb hbox hg) | ((with_reducible refine gate_callee (f := 104) rfl ?_); refine gl_ (some 7) Try.func104 #[.slice A0 l0.length c0] ?_; (with_reducible refine (spec_l12Copy.calls k _ _ l0 t322 _ ?side1 ?side2 A3.out).mono ?_); (case side1 => exact qC (Kd.C_below HR0.out HB.out)); (case side2 => exact HC0.out); rintro e w6 ⟨v323, rfl, ho0, hb⟩; refine ⟨_, rfl, ?_⟩; have HO324 := am_ (Kd.S_lower ho0 (below_size (qB HB))); replace BK321 := bK_ BK321 hb; replace HB := bS_ HB hb; (try clear hb); (try clear ho0)))
 (try simp only [Act.put, List.setIfInBounds_toArray, List.set_cons_zero, List.set_cons_succ])
 have H := HC4.out
 clear HC4
 replace H := bd_ H
 obtain ⟨t325, A7, H⟩ := H
 by_cases c8 : t325 = true
 rotate_left
 ·
  replace c8 := Bool.eq_false_iff.mpr c8
  subst c8
  rw [if_neg (show ¬ (false = true) by decide)] at H
  obtain rfl := Option.some.inj H
  go_wp2_with (first | ((with_reducible refine gate_callee (f := 48) rfl ?_); refine gl_ (some 9) Try.func48 #[.slice A0 l0.length c0] ?_; (with_reducible refine (spec_WayOk.calls k _ _ l0 false _ ?side1 ?side2 A7.out).mono ?_); (case side1 => exact qC (Kd.C_below HR0.out HB.out)); (case side2 => exact HC0.out); rintro e w' ⟨rfl, ⟨nd, rfl⟩⟩; refine ⟨_, rfl, ?_⟩))
  go_ret
  exact ⟨_, er_, qS HO324, qB HB⟩
 subst c8
 rw [if_pos rfl] at H
 replace H := bd_ H
 obtain ⟨t326, A9, H⟩ := H
 by_cases c10 : t326 = true
 rotate_left
 ·
  replace c10 := Bool.eq_false_iff.mpr c10
  subst c10
  rw [if_neg (show ¬ (false = true) by decide)] at H
  obtain rfl := Option.some.inj H
  go_wp2_with (first | ((with_reducible refine gate_callee (f := 48) rfl ?_); refine gl_ (some 9) Try.func48 #[.slice A0 l0.length c0] ?_; (with_reducible refine (spec_WayOk.calls k _ _ l0 true _ ?side1 ?side2 A7.out).mono ?_); (case side1 => exact qC (Kd.C_below HR0.out HB.out)); (case side2 => exact HC0.out); rintro e w' ⟨rfl, ⟨nd, rfl⟩⟩; refine ⟨_, rfl, ?_⟩; (try clear zK321); have zK321 := cz8 BK321.out; (try clear fK321); have fK321 := fz8 BK321.out) | (go_at_call 57; (with_reducible refine (spec_CtlOk.calls k a1_0 a1_1 a1_2 a1_3 a1_4 a1_5 a1_6 _ _ l1_7 false _ ?side1 ?side2 A9.out).mono ?_); (case side1 => repeat (first | exact (Kd.C_below HR1_7.out (qB HB)) | (with_reducible refine Kd.C_alloc ?_ _) | (with_reducible refine Kd.C_drewN ?_ _) | (with_reducible refine Kd.C_drew ?_))); (case side2 => exact HC1_7.out); rintro e w22 ⟨rfl, hb⟩; replace HO324 := am_ (Kd.S_below (qS HO324) hb); replace BK321 := bK_ BK321 hb; replace HB := bS_ HB hb; (try clear hb)))
  go_ret
  exact ⟨_, er_, qS HO324, qB HB⟩
 subst c10
 rw [if_pos rfl] at H
 have HC11 := Aside0.mk H
 clear H
 go_upto_if 20 with (first | ((with_reducible refine gate_callee (f := 48) rfl ?_); refine gl_ (some 9) Try.func48 #[.slice A0 l0.length c0] ?_; (with_reducible refine (spec_WayOk.calls k _ _ l0 true _ ?side1 ?side2 A7.out).mono ?_); (case side1 => exact qC (Kd.C_below HR0.out HB.out)); (case side2 => exact HC0.out); rintro e w' ⟨rfl, ⟨nd, rfl⟩⟩; refine ⟨_, rfl, ?_⟩; (try clear zK321); have zK321 := cz8 BK321.out; (try clear fK321); have fK321 := fz8 BK321.out) | (go_at_call 57; (with_reducible refine (spec_CtlOk.calls k a1_0 a1_1 a1_2 a1_3 a1_4 a1_5 a1_6 _ _ l1_7 true _ ?side1 ?side2 A9.out).mono ?_); (case side1 => repeat (first | exact (Kd.C_below HR1_7.out (qB HB)) | (with_reducible refine Kd.C_alloc ?_ _) | (with_reducible refine Kd.C_drewN ?_ _) | (with_reducible refine Kd.C_drew ?_))); (case side2 => exact HC1_7.out); rintro e w13 ⟨rfl, hb⟩; replace HO324 := am_ (Kd.S_below (qS HO324) hb); replace BK321 := bK_ BK321 hb; replace HB := bS_ HB hb; (try clear hb)))
 (try simp only [Act.put, List.setIfInBounds_toArray, List.set_cons_zero, List.set_cons_succ])
 have H := HC11.out
 clear HC11
 by_cases c14 : (l0.length : Int) = 12
 ·
  rw [if_pos c14] at H
  have c14b0 : ((l0.length : Int) == 12) = true := beq_iff_eq.mpr c14
  have c14b1 : ((l0.length : Int) != 12) = false := bne_eq_false_iff_eq.mpr c14
  clear c14
  (first | rw [c14b0] | rw [c14b1] | (simp only [i64_w, i32_w]; rw [c14b0]) | skip)
  obtain rfl := Option.some.inj H
  go_wp2
  go_ret
  exact ⟨_, er_, qS HO324, qB HB⟩
 rw [if_neg c14] at H
 have c14b0 : ((l0.length : Int) == 12) = false := beq_eq_false_iff_ne.mpr c14
 have c14b1 : ((l0.length : Int) != 12) = true := bne_iff_ne.mpr c14
 (first | rw [c14b0] | rw [c14b1] | (simp only [i64_w, i32_w]; rw [c14b0]) | skip)
 replace H := bd_ H
 obtain ⟨t327, A15, H⟩ := H
 by_cases c16 : t322.length < 4398046511104
 case neg => exact nn_ c16 H
 rw [if_pos c16] at H
 have LMc16 := Aside0.mk c16
 clear c16
 obtain ⟨y330, hy330⟩ : ∃ y_ : List (S68), y_ = (t322 ++ [(⟨a1_1, t327⟩ : S68)]) := ⟨_, rfl⟩
 rw [← hy330] at H
 have Ny330 := Aside0.mk hy330
 clear hy330
 obtain rfl := Option.some.inj H
 try go_wp2
 replace HO324 := am_ (Kd.S_drew HO324.out)
 replace BK321 := am_ (blk_drew BK321.out)
 replace HB := am_ (below_drew1 HB.out)
 refine start_ (n := 9) (S := fun w' => w'.cell? ⟨gb321, 0, none⟩ = some (.int .i64 a1_0) ∧ w'.cell? ⟨gb321, 1, none⟩ = some (.int .i64 a1_1) ∧ w'.cell? ⟨gb321, 2, none⟩ = some (.int .i64 a1_2) ∧ w'.cell? ⟨gb321, 3, none⟩ = some (.int .i64 a1_3) ∧ w'.cell? ⟨gb321, 4, none⟩ = some (.int .i64 a1_4) ∧ w'.cell? ⟨gb321, 5, none⟩ = some (.bool a1_5) ∧ w'.cell? ⟨gb321, 6, none⟩ = some (.int .i64 a1_6) ∧ w'.cell? ⟨gb321, 7, none⟩ = some (.slice A1_7 l1_7.length c1_7)) (ds := []) #[oo,oo,oo,oo,oo,oo,oo,oo,oo] (by kernel_rfl) rfl rfl (cz8 BK321.out) (fun hHeld => ?_); refine with_tabW spec_Send.tab4 spec_Send.bits4 (fun HT_ HW_ => ?_)
 generalize w13.drew = w17 at HO324 BK321 HB hHeld ⊢
 refine pz_ (i := 0) (N := some 22) HT_ #[ii,oo,oo,oo,oo,oo,oo,oo,oo] rfl rfl ?_
 refine pz_ (i := 1) (N := some 23) HT_ #[ii,ii,oo,oo,oo,oo,oo,oo,oo] rfl rfl ?_
 refine tz_ (i := 2) (N := some 24) HT_ HW_ #[ii,ii,ii,oo,oo,oo,oo,oo,oo] rfl rfl hHeld ?_
 refine tz_ (i := 3) (N := some 25) HT_ HW_ #[ii,ii,ii,ii,oo,oo,oo,oo,oo] rfl rfl hHeld ?_ (hy := fun w' ⟨s0, s1, s2, s3, s4, s5, s6, s7⟩ => ldr8 s0 s1 s2 s3 s4 s5 s6 s7)
 refine one_ (i := 4) (N := some 26) #[ii,ii,ii,ii,ii,oo,oo,oo,oo] rfl rfl (one_of HT_.out (by kernel_rfl)) (by decide) (fun K hK => ?_)
 refine goes_ Try.func107 (by kernel_rfl) rfl #[.agg #[.int .i64 a1_0, .int .i64 a1_1, .int .i64 a1_2, .int .i64 a1_3, .int .i64 a1_4, .bool a1_5, .int .i64 a1_6, .slice A1_7 l1_7.length c1_7]] (by rfl) rfl rfl la_ ?_
 with_reducible refine (spec_PutCtl.calls k a1_0 a1_1 a1_2 a1_3 a1_4 a1_5 a1_6 _ _ l1_7 t327 _ ?side1 ?side2 A15.out).mono ?_
 (case side1 => exact qC (Kd.C_below HR1_7.out HB.out))
 (case side2 => exact HC1_7.out)
 rintro e w18 ⟨v328, rfl, ho0, hb⟩
 refine ⟨_, rfl, ?_⟩
 replace HO324 := am_ (Kd.S_elder' (qS HO324) (Kd.R_base ho0) hb)
 have HO329 := am_ (Kd.R_lower ho0 (below_size (qB HB)))
 replace BK321 := bK_ BK321 hb
 replace HB := bS_ HB hb
 (try clear hb ho0)
 obtain ⟨Ao19, co19, eo19⟩ := Kd.R_slice HO329.out
 (first | subst eo19 | (injection eo19 with f1_ f2_ f3_; have f4_ := f1_.symm; have f5_ := f3_.symm; clear f1_ f2_ f3_; subst f4_; subst f5_))
 refine hK.out _ _ (cz8 BK321.out) (fun hHeld => ?_)
 clear hK K
 refine norm_ (a' := ?_) ?_ ?_
 rotate_left
 ·
  show Act.put _ (some 26) _ = _
  exact ap_
 refine pz_ (i := 5) (N := some 27) HT_ #[ii,ii,ii,ii,ii,ii,oo,oo,oo] rfl rfl ?_
 refine one_ (i := 6) (N := some 28) #[ii,ii,ii,ii,ii,ii,ii,oo,oo] rfl rfl (one_of HT_.out (by kernel_rfl)) (by decide) (fun K hK => ?_)
 refine value_ (w1 := ?_) (v := ?_) (by rfl) rfl ?_ ?_
 rotate_left 2
 ·
  go_simp
  constructor
  ·
   rfl
  ·
   rfl
 refine hK.out _ _ ⟨(blk_cell (blk_alloc BK321.out _) 0).trans rfl, (blk_cell (blk_alloc BK321.out _) 1).trans rfl, (blk_cell (blk_alloc BK321.out _) 2).trans rfl, (blk_cell (blk_alloc BK321.out _) 3).trans rfl, (blk_cell (blk_alloc BK321.out _) 4).trans rfl, (blk_cell (blk_alloc BK321.out _) 5).trans rfl, (blk_cell (blk_alloc BK321.out _) 6).trans rfl, (blk_cell (blk_alloc BK321.out _) 7).trans rfl⟩ (fun hHeld => ?_)
 clear hK K
 refine norm_ (a' := ?_) ?_ ?_
 rotate_left
 ·
  show Act.put _ (some 28) _ = _
  exact ap_
 refine one_ (i := 7) (N := some 29) #[ii,ii,ii,ii,ii,ii,ii,ii,oo] rfl rfl (one_of HT_.out (by kernel_rfl)) (by decide) (fun K hK => ?_)
 refine Kd.S_append_step k68 (w0 := w) w.heap.size (by rfl) (.tmp 22) (.tmp 28) 64 68 (.agg #[(.int .i64 0), (.slice none 0 0)]) 32 rfl Try.underlying64 info68 rfl (by decide) (by omega) v323 t322 (⟨a1_1, t327⟩ : S68) [.int .i64 a1_1, .slice Ao19 t327.length co19] (fun _ => True) (fun k_ => some k_ = (.slice Ao19 t327.length co19 : Value).ownBlock) rfl rfl ?aP (fun k_ hk_ => ((Kd.R_mono (ok' := fun k_ => ((fun _ => True)) k_ ∧ some k_ ≠ (v323 : Value).ownBlock) (Kd.R_apart' (HO329.out) (Kd.S_typed HO324.out) (by decide)) (fun k_ hk => ⟨trivial, hk.2⟩))).1 k_ hk_.symm) ?aF ?aO ?aB ?aS ?aL ?_
 (case aP => exact k68_mkM _ _ _ (⟨a1_1, t327⟩ : S68) (Kd.R_mono (Kd.R_tight rfl (Kd.R_mono (ok' := fun k_ => ((fun _ => True)) k_ ∧ some k_ ≠ (v323 : Value).ownBlock) (Kd.R_apart' (HO329.out) (Kd.S_typed HO324.out) (by decide)) (fun k_ hk => ⟨trivial, hk.2⟩))) (fun _ h_ => h_)))
 (case aB => exact (qB HB))
 (case aF => exact (fun _ _ => trivial))
 (case aO => exact (tS (Kd.S_mono HO324.out (fun k_ hk => ⟨trivial, fun e_ => hk.2 e_⟩))))
 (case aS => exact (below_size (qB HB)))
 (case aL => have := LMc16.out; omega)
 intro v331 w20 ho hb hg hat
 rw [← Ny330.out] at ho
 replace BK321 := am_ (blk_grown (qK BK321) hg (Kd.S_ne HO324.out BK321.out (by decide)))
 replace HB := am_ (hb)
 have HO332 := am_ (ho)
 clear HO324 HO329
 clear ho hb hg hat
 refine hK.out _ _ (cz8 BK321.out) (fun hHeld => ?_)
 clear hK K
 refine norm_ (a' := ?_) ?_ ?_
 rotate_left
 ·
  show Act.put _ (some 29) _ = _
  exact ap_
 refine pz_ (i := 8) (N := some 4) HT_ #[ii,ii,ii,ii,ii,ii,ii,ii,ii] rfl rfl ?_
 refine done_ (done_of HT_.out (by kernel_rfl)) ?_
 try go_wp2
 go_ret
 exact ⟨_, er_, qS HO332, qB HB⟩

/-! ### spec_l1Bytes: function 91 -/
def spec_l1Bytes.l0 : Nat → Int → List Int → Int → List Int → Int → Int → Option (List Int × Int × Int)
 | 0, _, _, _, _, _, _ => none
 | k + 1, x1, x5, x6, x1000, x1001, x1002 => if x6 < x1 then ((spec_l1Byte.f x1000 x1001 x1002).bind fun bt336 => (if x5.length < 140737488355328 then (spec_l1Bytes.l0 k x1 (x5 ++ [(bt336.1) % 256]) (wrap64 (x6 + 1)) x1000 bt336.2.1 bt336.2.2) else (none))) else (some (x5, x1001, x1002))
def spec_l1Bytes.f (k : Nat) (s0_0 : List Int) (s0_1 : Int) (s0_2 : Int) (a1 : Int) : Option (List Int × Int × Int) := spec_l1Bytes.l0 k a1 (([] : List Int)) 0 s0_0 s0_1 s0_2
theorem spec_l1Bytes.mono_l : ∀ k, (∀ y0 y1 y2 y3 y4 y5, LeO (spec_l1Bytes.l0 k y0 y1 y2 y3 y4 y5) (spec_l1Bytes.l0 (k + 1) y0 y1 y2 y3 y4 y5))
 | 0 => fun _ _ _ _ _ _ r h => by simp [spec_l1Bytes.l0] at h
 | k + 1 => by
  have ih0 := spec_l1Bytes.mono_l k
  ·
   intro y0 y1 y2 y3 y4 y5
   unfold spec_l1Bytes.l0
   exact mo_
theorem spec_l1Bytes.mono : ∀ a0 a1 a2 a3 k, LeO (spec_l1Bytes.f k a0 a1 a2 a3) (spec_l1Bytes.f (k + 1) a0 a1 a2 a3) := by
 intro a0 a1 a2 a3 k
 have ih0 := spec_l1Bytes.mono_l k
 unfold spec_l1Bytes.f
 exact mo_
set_option maxHeartbeats 8000000 in
set_option maxRecDepth 100000 in
theorem spec_l1Bytes.calls (k : Nat) (g : Nat) (s0_0 : List Int) (s0_1 : Int) (s0_2 : Int) (a1 : Int) (r1 : List Int) (r2 : Int) (r3 : Int) (w0 w : World) (hI : IsS128 w0 w g s0_0 s0_1 s0_2) (hB : Below w0.heap.size w0 w) (h : spec_l1Bytes.f k s0_0 s0_1 s0_2 a1 = some (r1, r2, r3)) :
  Calls Try.prog 91 #[.pointer (some ⟨g, 0, none⟩), .int .i64 a1] w fun e w' => ∃ v0_ : Value, e = .returned (v0_) ∧ Kd.R (Kd.int .u8) 5 w' w.heap.size (fun _ => True) v0_ r1 ∧ IsS128 w0 w' g s0_0 r2 r3 ∧ Below w0.heap.size w0 w' ∧ KeepBut w w' g none := by
 have HI0 := Aside0.mk hI
 have IGHI0 := iG_ HI0.out.ge
 have HK := Aside0.mk (KeepBut.refl w g none)
 have HL := Aside0.mk hB.size
 clear hI
 have HW0 := Aside0.mk hB.size
 have HB := Aside0.mk hB
 clear hB
 have H := h
 unfold spec_l1Bytes.f at H
 clear h
 obtain ⟨y333, hy333⟩ : ∃ y_ : List Int, y_ = (([] : List Int)) := ⟨_, rfl⟩
 rw [← hy333] at H
 have Ny333 := Aside0.mk hy333
 clear hy333
 have H' := Aside0.mk H
 clear H
 go_enter Try.func91, Try.ntmps91
 go_wp2_with (first | ((with_reducible refine gate_dst (N := 7) rfl ?_); refine Kd.R_lit (Kd.int .u8) _ 5 ?hg (N := 7) ?hd (xs := ([] : List Int)) (inner := []) (ok := fun _ => True) (okp := fun _ => True) ?hr ?hp (fun _ hk => hk) trivial (Below.refl _ _) (Nat.le_refl _) (by simp) ?_; (case hd => rfl); (case hg => rfl); (case hr => first | (go_simp; done) | (go_simp; rfl)); (case hp => exact (Reps.none _ _)); intro v334 w3 ho4 hb hg_ hnew_; clear hg_ hnew_; (first | rw [← Ny333.out] at ho4 | (simp only [Int.reduceToNat] at ho4; rw [← Ny333.out] at ho4)); have HO335 := am_ (Kd.R_lower ho4 (keep_size (w := w) (g := g) (row := none) (qP HK))); replace HK := kL_ HK hb; replace HB := bS_ HB hb; replace HI0 := am_ (IsS128.below (IsS128.q HI0) hb); clear hb ho4))
 go_loopg [5, 6] k (fun kq v5 v6 w' => ∃ (x5_1 : List Int) (x6_1 : Int) (x1001_1 : Int) (x1002_1 : Int), v6 = .int .i64 x6_1 ∧ Aside0 (spec_l1Bytes.l0 kq a1 x5_1 x6_1 s0_0 x1001_1 x1002_1 = some (r1, r2, r3)) ∧ Aside0 (kq ≤ k) ∧ Aside0 (Kd.R (Kd.int .u8) 5 w' w.heap.size (fun _ => True) v5 x5_1) ∧ Aside0 (IsS128 w0 w' g s0_0 x1001_1 x1002_1) ∧ Aside0 (KeepBut w w' g none) ∧ Aside0 (Below w0.heap.size w0 w'))
 case atStart => exact ⟨(y333), (0), (s0_1), (s0_2), eqq_, H', ⟨Nat.le_refl _⟩, ⟨qR HO335⟩, ⟨IsS128.q HI0⟩, ⟨qP HK⟩, ⟨qB HB⟩⟩
 case round =>
  clear H'
  try clear p2
  obtain ⟨x5_1, x6_1, x1001_1, x1002_1, rfl, HA, HK1, HO_5, HI0, HK, HB⟩ := hrel
  cases gk with
  | zero => exact absurd HA.out (by simp [spec_l1Bytes.l0])
  | succ k1 =>
   have H := HA.out
   clear HA
   simp only [spec_l1Bytes.l0] at H
   by_cases c5 : x6_1 < a1
   rotate_left
   ·
    rw [if_neg c5] at H
    have c5b0 : decide (x6_1 < a1) = false := decide_eq_false c5
    clear c5
    simp only [Option.some.injEq, Prod.mk.injEq] at H
    obtain ⟨rfl, rfl, rfl⟩ := H
    go_wp2
    go_ret
    exact ⟨_, er_, qR HO_5, IsS128.q HI0, qB HB, qP HK⟩
   rw [if_pos c5] at H
   have c5b0 : decide (x6_1 < a1) = true := decide_eq_true c5
   clear c5
   replace H := bf_ H
   obtain ⟨f_, hf_, ⟨t336, t337, t338⟩, A6, H⟩ := H
   subst hf_
   (try dsimp only at H)
   by_cases c7 : x5_1.length < 140737488355328
   case neg => exact nn_ c7 H
   rw [if_pos c7] at H
   have LMc7 := Aside0.mk c7
   clear c7
   obtain ⟨y339, hy339⟩ : ∃ y_ : List Int, y_ = (x5_1 ++ [(t336) % 256]) := ⟨_, rfl⟩
   rw [← hy339] at H
   have Ny339 := Aside0.mk hy339
   clear hy339
   have H' := Aside0.mk H
   clear H
   go_wp2_with (first | ((with_reducible refine gate_callee (f := 115) rfl ?_); refine gl_ (some 15) Try.func115 #[.pointer (some ⟨g, 0, none⟩)] ?_; (with_reducible refine (spec_l1Byte.calls g s0_0 x1001_1 x1002_1 t336 t337 t338 w0 _ ?side1 ?side2 A6.out).mono ?_); (case side1 => exact IsS128.q HI0); (case side2 => exact qB HB); rintro e w8 ⟨rfl, hi, hb, hk⟩; refine ⟨_, rfl, ?_⟩; replace HO_5 := am_ (Kd.R_mono (Kd.R_keep (IsS128.apart (show IsS128 w0 _ g s0_0 x1001_1 x1002_1 from IsS128.q HI0) (qR HO_5) (by decide)) hk (fun _ h => h.2)) (fun _ h => h.1)); replace HK := kT_ HK hk; replace HB := am_ (hb); replace HI0 := am_ (hi); (try clear hb); (try clear hk); (try clear hi)) | ((with_reducible refine gate_builtin (b := .append) (xs := #[.tmp 13, .tmp 17]) rfl ?_); at_builtin; refine Kd.R_append (Kd.int .u8) w.heap.size rfl (.tmp 13) (.tmp 17) 22 5 (.int .u8 0) 1 rfl Try.underlying22 info5 rfl (by decide) (by omega) u5 x5_1 ((t336) % 256) [.int .u8 ((t336) % 256)] (fun _ => True) (fun _ => False) rfl rfl ?aP (fun _ hk => hk.elim) ?aF ?aO (Below.refl _ _) ?aS ?aL ?_; (case aP => exact rfl); (case aF => exact (fun _ _ => trivial)); (case aO => exact (qR HO_5)); (case aS => exact (keep_size (w := w) (g := g) (row := none) (qP HK))); (case aL => have := LMc7.out; omega); intro v340 w9 ho hb hg hat; rw [← Ny339.out] at ho; replace HB := am_ (below_weaken (qB HB) HL.out hb); replace HI0 := am_ (IsS128.grown (IsS128.q HI0) hg (IsS128.own_ne HI0.out HO_5.out (by decide))); replace HK := am_ (KeepBut.trans (qP HK) (KeepBut.of_grown hg g) (Kd.R_base2 HO_5.out)); have HO341 := am_ (ho); clear HO_5; clear ho hb hg hat))
   go_roundg k1
   case measure => have := HK1.out; omega
   case rel => exact ⟨(y339), (wrap64 (x6_1 + 1)), (t337), (t338), eqq_, H', ⟨by have := HK1.out; omega⟩, ⟨qR HO341⟩, ⟨IsS128.q HI0⟩, ⟨qP HK⟩, ⟨qB HB⟩⟩

/-! ### spec_l1Once: function 110 -/
def spec_l1Once.f (s0_0 : List Int) (s0_1 : Int) (s0_2 : Int) (a1 : Int) : Option (Bool × Int × Int) := (spec_l1Below.f s0_0 s0_1 s0_2 a1).bind fun bt342 => (some ((bt342.1 == 0), bt342.2.1, bt342.2.2))
set_option maxHeartbeats 8000000 in
set_option maxRecDepth 100000 in
theorem spec_l1Once.calls (g : Nat) (s0_0 : List Int) (s0_1 : Int) (s0_2 : Int) (a1 : Int) (r1 : Bool) (r2 : Int) (r3 : Int) (w0 w : World) (hI : IsS128 w0 w g s0_0 s0_1 s0_2) (hB : Below w0.heap.size w0 w) (h : spec_l1Once.f s0_0 s0_1 s0_2 a1 = some (r1, r2, r3)) :
  Calls Try.prog 110 #[.pointer (some ⟨g, 0, none⟩), .int .i64 a1] w fun e w' => e = .returned (.bool r1) ∧ IsS128 w0 w' g s0_0 r2 r3 ∧ Below w0.heap.size w0 w' ∧ KeepBut w w' g none := by
 have HI0 := Aside0.mk hI
 have IGHI0 := iG_ HI0.out.ge
 have HK := Aside0.mk (KeepBut.refl w g none)
 have HL := Aside0.mk hB.size
 clear hI
 have HW0 := Aside0.mk hB.size
 have HB := Aside0.mk hB
 clear hB
 have H := h
 unfold spec_l1Once.f at H
 clear h
 replace H := bf_ H
 obtain ⟨f_, hf_, ⟨t342, t343, t344⟩, A3, H⟩ := H
 subst hf_
 (try dsimp only at H)
 simp only [Option.some.injEq, Prod.mk.injEq] at H
 obtain ⟨rfl, rfl, rfl⟩ := H
 go_enter Try.func110, Try.ntmps110
 go_wp2_with (first | ((with_reducible refine gate_callee (f := 61) rfl ?_); refine gl_ (some 7) Try.func61 #[.pointer (some ⟨g, 0, none⟩), .int .i64 a1] ?_; (with_reducible refine (spec_l1Below.calls g s0_0 s0_1 s0_2 a1 t342 t343 t344 w0 _ ?side1 ?side2 A3.out).mono ?_); (case side1 => exact IsS128.q HI0); (case side2 => exact qB HB); rintro e w4 ⟨rfl, hi, hb, hk⟩; refine ⟨_, rfl, ?_⟩; replace HK := kT_ HK hk; replace HB := am_ (hb); replace HI0 := am_ (hi); (try clear hb); (try clear hk); (try clear hi)))
 go_ret
 exact ⟨er_, IsS128.q HI0, qB HB, qP HK⟩

/-! ### spec_l1Str: function 116 -/
def spec_l1Str.f (s0_0 : List Int) (s0_1 : Int) (s0_2 : Int) (l1 : List ByteArray) : Option (ByteArray × Int × Int) := (spec_l1Below.f s0_0 s0_1 s0_2 (l1.length : Int)).bind fun bt345 => (if 0 ≤ bt345.1 then (if bt345.1 < (l1.length : Int) then (some (rdOf ByteArray.empty l1 bt345.1, bt345.2.1, bt345.2.2)) else (none)) else (none))
set_option maxHeartbeats 8000000 in
set_option maxRecDepth 100000 in
theorem spec_l1Str.calls (g : Nat) (s0_0 : List Int) (s0_1 : Int) (s0_2 : Int) (A1 : Option Addr) (c1 : Nat) (l1 : List ByteArray) (r1 : ByteArray) (r2 : Int) (r3 : Int) (w0 w : World) (hI : IsS128 w0 w g s0_0 s0_1 s0_2) (hB : Below w0.heap.size w0 w) (hr1 : Kd.C Kd.string w A1 l1.length l1) (hc1 : l1.length ≤ c1) (hf1 : ∀ ad, A1 = some ad → 0 < l1.length → ad.block ≠ g) (h : spec_l1Str.f s0_0 s0_1 s0_2 l1 = some (r1, r2, r3)) :
  Calls Try.prog 116 #[.pointer (some ⟨g, 0, none⟩), .slice A1 l1.length c1] w fun e w' => e = .returned (.string r1) ∧ IsS128 w0 w' g s0_0 r2 r3 ∧ Below w0.heap.size w0 w' ∧ KeepBut w w' g none := by
 have HR1 := Aside0.mk hr1
 have HC1 := Aside0.mk hc1
 clear hr1 hc1
 have HI0 := Aside0.mk hI
 have IGHI0 := iG_ HI0.out.ge
 have HK := Aside0.mk (KeepBut.refl w g none)
 have HL := Aside0.mk hB.size
 clear hI
 have HW0 := Aside0.mk hB.size
 have HB := Aside0.mk hB
 clear hB
 have H := h
 unfold spec_l1Str.f at H
 clear h
 replace H := bf_ H
 obtain ⟨f_, hf_, ⟨t345, t346, t347⟩, A3, H⟩ := H
 subst hf_
 (try dsimp only at H)
 by_cases c4 : 0 ≤ t345
 case neg => exact nn_ c4 H
 rw [if_pos c4] at H
 have c4b0 : decide (0 ≤ t345) = true := decide_eq_true c4
 clear c4
 by_cases c5 : t345 < (l1.length : Int)
 case neg => exact nn_ c5 H
 rw [if_pos c5] at H
 have c5b0 : decide (t345 < (l1.length : Int)) = true := decide_eq_true c5
 clear c5
 simp only [Option.some.injEq, Prod.mk.injEq] at H
 obtain ⟨rfl, rfl, rfl⟩ := H
 go_enter Try.func116, Try.ntmps116
 go_wp2_with (first | ((with_reducible refine gate_callee (f := 61) rfl ?_); refine gl_ (some 9) Try.func61 #[.pointer (some ⟨g, 0, none⟩), .int .i64 (l1.length : Int)] ?_; (with_reducible refine (spec_l1Below.calls g s0_0 s0_1 s0_2 (l1.length : Int) t345 t346 t347 w0 _ ?side1 ?side2 A3.out).mono ?_); (case side1 => exact IsS128.q HI0); (case side2 => exact qB HB); rintro e w6 ⟨rfl, hi, hb, hk⟩; refine ⟨_, rfl, ?_⟩; replace HK := kT_ HK hk; replace HB := am_ (hb); replace HI0 := am_ (hi); (try clear hb); (try clear hk); (try clear hi); have p348 : 0 ≤ (t345 : Int) := od_; have q348 : t345 < (l1.length : Int) := od_; obtain ⟨ad348, e348, hx348_0⟩ := Kd.at_string HR1.out t345 p348 q348; cases e348; replace hx348_0 := keep_cell HK.out hx348_0 (by first | (rw [add_block]; exact hf1 _ rfl (by omega)) | exact hf1 _ rfl (by omega) | exact hf1 ad348 rfl (by omega)); replace p348 := eq_true p348; replace q348 := eq_true q348))
 go_ret
 exact ⟨er_, IsS128.q HI0, qB HB, qP HK⟩

/-! ### spec_l7Query: function 125 -/
def spec_l7Query.f (s0_0 : List Int) (s0_1 : Int) (s0_2 : Int) : Option (ByteArray × Int × Int) := (spec_l1Str.f s0_0 s0_1 s0_2 (([(⟨#[98, 101, 103, 105, 110]⟩ : ByteArray), (⟨#[98, 101, 103, 105, 110]⟩ : ByteArray), (⟨#[99, 111, 109, 109, 105, 116]⟩ : ByteArray), (⟨#[99, 111, 109, 109, 105, 116]⟩ : ByteArray), (⟨#[114, 111, 108, 108, 98, 97, 99, 107]⟩ : ByteArray), (⟨#[102, 97, 105, 108]⟩ : ByteArray), (⟨#[111, 110, 101]⟩ : ByteArray), (⟨#[116, 119, 111]⟩ : ByteArray), (⟨#[116, 104, 114, 101, 101]⟩ : ByteArray)] : List ByteArray))).bind fun bt352 => (some (bt352.1, bt352.2.1, bt352.2.2))
set_option maxHeartbeats 8000000 in
set_option maxRecDepth 100000 in
theorem spec_l7Query.calls (g : Nat) (s0_0 : List Int) (s0_1 : Int) (s0_2 : Int) (r1 : ByteArray) (r2 : Int) (r3 : Int) (w0 w : World) (hI : IsS128 w0 w g s0_0 s0_1 s0_2) (hB : Below w0.heap.size w0 w) (h : spec_l7Query.f s0_0 s0_1 s0_2 = some (r1, r2, r3)) :
  Calls Try.prog 125 #[.pointer (some ⟨g, 0, none⟩)] w fun e w' => e = .returned (.string r1) ∧ IsS128 w0 w' g s0_0 r2 r3 ∧ Below w0.heap.size w0 w' ∧ KeepBut w w' g none := by
 have HI0 := Aside0.mk hI
 have IGHI0 := iG_ HI0.out.ge
 have HK := Aside0.mk (KeepBut.refl w g none)
 have HL := Aside0.mk hB.size
 clear hI
 have HW0 := Aside0.mk hB.size
 have HB := Aside0.mk hB
 clear hB
 have H := h
 unfold spec_l7Query.f at H
 clear h
 obtain ⟨y349, hy349⟩ : ∃ y_ : List ByteArray, y_ = (([(⟨#[98, 101, 103, 105, 110]⟩ : ByteArray), (⟨#[98, 101, 103, 105, 110]⟩ : ByteArray), (⟨#[99, 111, 109, 109, 105, 116]⟩ : ByteArray), (⟨#[99, 111, 109, 109, 105, 116]⟩ : ByteArray), (⟨#[114, 111, 108, 108, 98, 97, 99, 107]⟩ : ByteArray), (⟨#[102, 97, 105, 108]⟩ : ByteArray), (⟨#[111, 110, 101]⟩ : ByteArray), (⟨#[116, 119, 111]⟩ : ByteArray), (⟨#[116, 104, 114, 101, 101]⟩ : ByteArray)] : List ByteArray)) := ⟨_, rfl⟩
 rw [← hy349] at H
 have Ny349 := Aside0.mk hy349
 clear hy349
 replace H := bf_ H
 obtain ⟨f_, hf_, ⟨t352, t353, t354⟩, A2, H⟩ := H
 subst hf_
 (try dsimp only at H)
 simp only [Option.some.injEq, Prod.mk.injEq] at H
 obtain ⟨rfl, rfl, rfl⟩ := H
 go_enter Try.func125, Try.ntmps125
 go_wp2_with (first | ((with_reducible refine gate_dst (N := 4) rfl ?_); refine Kd.R_lit Kd.string _ 9 ?hg (N := 4) ?hd (xs := ([(⟨#[98, 101, 103, 105, 110]⟩ : ByteArray), (⟨#[98, 101, 103, 105, 110]⟩ : ByteArray), (⟨#[99, 111, 109, 109, 105, 116]⟩ : ByteArray), (⟨#[99, 111, 109, 109, 105, 116]⟩ : ByteArray), (⟨#[114, 111, 108, 108, 98, 97, 99, 107]⟩ : ByteArray), (⟨#[102, 97, 105, 108]⟩ : ByteArray), (⟨#[111, 110, 101]⟩ : ByteArray), (⟨#[116, 119, 111]⟩ : ByteArray), (⟨#[116, 104, 114, 101, 101]⟩ : ByteArray)] : List ByteArray)) (inner := [.string (⟨#[98, 101, 103, 105, 110]⟩ : ByteArray), .string (⟨#[98, 101, 103, 105, 110]⟩ : ByteArray), .string (⟨#[99, 111, 109, 109, 105, 116]⟩ : ByteArray), .string (⟨#[99, 111, 109, 109, 105, 116]⟩ : ByteArray), .string (⟨#[114, 111, 108, 108, 98, 97, 99, 107]⟩ : ByteArray), .string (⟨#[102, 97, 105, 108]⟩ : ByteArray), .string (⟨#[111, 110, 101]⟩ : ByteArray), .string (⟨#[116, 119, 111]⟩ : ByteArray), .string (⟨#[116, 104, 114, 101, 101]⟩ : ByteArray)]) (ok := fun _ => True) (okp := fun _ => True) ?hr ?hp (fun _ hk => hk) trivial (Below.refl _ _) (Nat.le_refl _) (by simp) ?_; (case hd => rfl); (case hg => rfl); (case hr => first | (go_simp; done) | (go_simp; rfl)); (case hp => exact (Reps.one (show Kd.M Kd.string _ _ _ (⟨#[98, 101, 103, 105, 110]⟩ : ByteArray) [.string (⟨#[98, 101, 103, 105, 110]⟩ : ByteArray)] from rfl) (Reps.one (show Kd.M Kd.string _ _ _ (⟨#[98, 101, 103, 105, 110]⟩ : ByteArray) [.string (⟨#[98, 101, 103, 105, 110]⟩ : ByteArray)] from rfl) (Reps.one (show Kd.M Kd.string _ _ _ (⟨#[99, 111, 109, 109, 105, 116]⟩ : ByteArray) [.string (⟨#[99, 111, 109, 109, 105, 116]⟩ : ByteArray)] from rfl) (Reps.one (show Kd.M Kd.string _ _ _ (⟨#[99, 111, 109, 109, 105, 116]⟩ : ByteArray) [.string (⟨#[99, 111, 109, 109, 105, 116]⟩ : ByteArray)] from rfl) (Reps.one (show Kd.M Kd.string _ _ _ (⟨#[114, 111, 108, 108, 98, 97, 99, 107]⟩ : ByteArray) [.string (⟨#[114, 111, 108, 108, 98, 97, 99, 107]⟩ : ByteArray)] from rfl) (Reps.one (show Kd.M Kd.string _ _ _ (⟨#[102, 97, 105, 108]⟩ : ByteArray) [.string (⟨#[102, 97, 105, 108]⟩ : ByteArray)] from rfl) (Reps.one (show Kd.M Kd.string _ _ _ (⟨#[111, 110, 101]⟩ : ByteArray) [.string (⟨#[111, 110, 101]⟩ : ByteArray)] from rfl) (Reps.one (show Kd.M Kd.string _ _ _ (⟨#[116, 119, 111]⟩ : ByteArray) [.string (⟨#[116, 119, 111]⟩ : ByteArray)] from rfl) (Reps.one (show Kd.M Kd.string _ _ _ (⟨#[116, 104, 114, 101, 101]⟩ : ByteArray) [.string (⟨#[116, 104, 114, 101, 101]⟩ : ByteArray)] from rfl) (Reps.none _ _))))))))))); intro v350 w3 ho4 hb hg_ hnew_; clear hg_ hnew_; (first | rw [← Ny349.out] at ho4 | (simp only [Int.reduceToNat] at ho4; rw [← Ny349.out] at ho4)); have HO351 := am_ (Kd.R_lower ho4 (keep_size (w := w) (g := g) (row := none) (qP HK))); replace HK := kL_ HK hb; replace HB := bS_ HB hb; replace HI0 := am_ (IsS128.below (IsS128.q HI0) hb); clear hb ho4; obtain ⟨Ao5, co5, eo5⟩ := Kd.R_slice HO351.out; subst eo5) | ((with_reducible refine gate_callee (f := 116) rfl ?_); refine gl_ (some 5) Try.func116 #[.pointer (some ⟨g, 0, none⟩), .slice Ao5 y349.length co5] ?_; (with_reducible refine (spec_l1Str.calls g s0_0 s0_1 s0_2 _ _ y349 t352 t353 t354 w0 _ ?side1 ?side2 ?side3 ?side4 ?side5 A2.out).mono ?_); (case side1 => exact IsS128.q HI0); (case side2 => exact qB HB); (case side3 => exact qC ((Kd.R_reads' HO351.out).2.2)); (case side4 => exact (Kd.R_reads' HO351.out).2.1); (case side5 => exact far_slice (IsS128.own_ne HI0.out HO351.out (by decide))); rintro e w6 ⟨rfl, hi, hb, hk⟩; refine ⟨_, rfl, ?_⟩; replace HO351 := am_ (Kd.R_mono (Kd.R_keep (IsS128.apart (show IsS128 w0 _ g s0_0 s0_1 s0_2 from IsS128.q HI0) (qR HO351) (by decide)) hk (fun _ h => h.2)) (fun _ h => h.1)); replace HK := kT_ HK hk; replace HB := am_ (hb); replace HI0 := am_ (hi); (try clear hb); (try clear hk); (try clear hi)))
 go_ret
 exact ⟨er_, IsS128.q HI0, qB HB, qP HK⟩

end Go.Proofs.Ytiffahfpfgnjnaa.PFnWays
