-- Written by a program of this session (myprint.py, over the kit's print): contracts of FnWays
import Derived.Test.YtiffahfpfgnjnaaPFnWaysx0
import Derived.Test.YtiffahfpfgnjnaaPFnWaysx3
import Derived.Test.YtiffahfpfgnjnaaPFnWaysx13
import Derived.Test.YtiffahfpfgnjnaaPFnWaysx20
import Derived.Test.YtiffahfpfgnjnaaPFnWaysx22
namespace Go.Proofs.Ytiffahfpfgnjnaa.PFnWays
open Go.RowKit Go.Proofs.YtiffahfpfgnjnaaW.PrintWords Go.Proofs.YtiffahfpfgnjnaaW.PrintLast Go.Proofs.YtiffahfpfgnjnaaW.PrintMore Go.Proofs.YtiffahfpfgnjnaaV
attribute [local go_sem] max2_int min2_int max_two min_two max_three min_three max_four min_four   -- for this text's walks alone
set_option linter.unusedVariables false
set_option linter.unusedSimpArgs false

/-! ### impl_Send: function 46 -/
def impl_Send.f (k : Nat) (l0 : List (S68)) (a1_0 : Int) (a1_1 : Int) (a1_2 : Int) (a1_3 : Int) (a1_4 : Int) (a1_5 : Bool) (a1_6 : Int) (l1_7 : List (S29)) : Option ((List (S68))) := (impl_wayCopy.f k l0).bind fun t960 => ((impl_CtlOk.f k a1_0 a1_1 a1_2 a1_3 a1_4 a1_5 a1_6 l1_7).bind fun t963 => (if t963 = true then ((impl_WayOk.f k l0).bind fun t964 => (if t964 = true then (if (l0.length : Int) = 12 then (some t960) else ((impl_PutCtl.f k a1_0 a1_1 a1_2 a1_3 a1_4 a1_5 a1_6 l1_7).bind fun t965 => (if t960.length < 4398046511104 then (some (t960 ++ [(⟨a1_1, t965⟩ : S68)])) else (none)))) else (some t960))) else (some t960)))
theorem impl_Send.mono : ∀ a0 a1 a2 a3 a4 a5 a6 a7 a8 k, LeO (impl_Send.f k a0 a1 a2 a3 a4 a5 a6 a7 a8) (impl_Send.f (k + 1) a0 a1 a2 a3 a4 a5 a6 a7 a8) := by
 intro a0 a1 a2 a3 a4 a5 a6 a7 a8 k
 unfold impl_Send.f
 have m0 := @impl_CtlOk.mono; have m1 := @impl_PutCtl.mono; have m2 := @impl_WayOk.mono; have m3 := @impl_wayCopy.mono; exact mo_
def impl_Send.T4 : Bool × List (List Nat × List Nat) := (true, [([], []), ([], []), ([1], [1]), ([], []), ([3], [3]), ([2, 4], [2, 4]), ([5], [5]), ([0, 6, 4], [0, 6]), ([7, 7, 0, 1, 2, 3, 4, 5, 6, 7], [7])])
def impl_Send.B4 : List Nat := [0, 0, 2, 0, 8, 30, 62, 127, 255]
theorem impl_Send.tab4 : rtab .any (opsOf Try.f46 4) = impl_Send.T4 := by kernel_rfl
theorem impl_Send.bits4 : waitsOk impl_Send.T4.2 impl_Send.B4 = true := by kernel_rfl
set_option maxHeartbeats 8000000 in
set_option maxRecDepth 100000 in
theorem impl_Send.calls (k : Nat) (A0 : Option Addr) (c0 : Nat) (l0 : List (S68)) (a1_0 : Int) (a1_1 : Int) (a1_2 : Int) (a1_3 : Int) (a1_4 : Int) (a1_5 : Bool) (a1_6 : Int) (A1_7 : Option Addr) (c1_7 : Nat) (l1_7 : List (S29)) (r : List (S68)) (w : World) (hr0 : Kd.C k68 w A0 l0.length l0) (hc0 : l0.length ≤ c0) (hr1_7 : Kd.C k29 w A1_7 l1_7.length l1_7) (hc1_7 : l1_7.length ≤ c1_7) (h : impl_Send.f k l0 a1_0 a1_1 a1_2 a1_3 a1_4 a1_5 a1_6 l1_7 = some r) :
  Calls Try.prog 46 #[.slice A0 l0.length c0, .agg #[.int .i64 a1_0, .int .i64 a1_1, .int .i64 a1_2, .int .i64 a1_3, .int .i64 a1_4, .bool a1_5, .int .i64 a1_6, .slice A1_7 l1_7.length c1_7]] w fun e w' => ∃ v0_ : Value, e = .returned (v0_) ∧ Kd.S k68 68 w' w.heap.size (fun _ => True) v0_ r ∧ Below w.heap.size w w' := by
 have hu75 := Try.underlying75
 have hu68 := Try.underlying68
 have HR0 := Aside0.mk hr0
 have HC0 := Aside0.mk hc0
 clear hr0 hc0
 have HR1_7 := Aside0.mk hr1_7
 have HC1_7 := Aside0.mk hc1_7
 clear hr1_7 hc1_7
 have HB := Aside0.mk (Below.refl w.heap.size w)
 have H := h
 unfold impl_Send.f at H
 clear h
 replace H := bd_ H
 obtain ⟨t960, A3, H⟩ := H
 have HC4 := Aside0.mk H
 clear H
 go_enter Try.func46, Try.ntmps46
 go_upto_region 2 with (first | ((with_reducible refine gate_dst (N := 3) rfl ?_); (try (refine gate_guard (by rfl) ?_; dsimp only)); refine bx_ (N := 3) (cs := #[.int .i64 a1_0, .int .i64 a1_1, .int .i64 a1_2, .int .i64 a1_3, .int .i64 a1_4, .bool a1_5, .int .i64 a1_6, .slice A1_7 l1_7.length c1_7]) (t := 75) ?_; intro gb959 hg w5 hbox hb; have BK959 := am_ (hbox); have GW959 := gA_ hg HB; have GE959 := GW959; have IGE959 := gI_ GE959; replace HB := bS_ HB hb; clear hb hbox hg) | ((with_reducible refine gate_callee (f := 101) rfl ?_); refine gl_ (some 7) Try.func101 #[.slice A0 l0.length c0] ?_; (with_reducible refine (impl_wayCopy.calls k _ _ l0 t960 _ ?side1 ?side2 A3.out).mono ?_); (case side1 => exact qC (Kd.C_below HR0.out HB.out)); (case side2 => exact HC0.out); rintro e w6 ⟨v961, rfl, ho0, hb⟩; refine ⟨_, rfl, ?_⟩; have HO962 := am_ (Kd.S_lower ho0 (below_size (qB HB))); replace BK959 := bK_ BK959 hb; replace HB := bS_ HB hb; (try clear hb); (try clear ho0)))
 (try simp only [Act.put, List.setIfInBounds_toArray, List.set_cons_zero, List.set_cons_succ])
 have H := HC4.out
 clear HC4
 replace H := bd_ H
 obtain ⟨t963, A7, H⟩ := H
 by_cases c8 : t963 = true
 rotate_left
 ·
  replace c8 := Bool.eq_false_iff.mpr c8
  subst c8
  rw [if_neg (show ¬ (false = true) by decide)] at H
  obtain rfl := Option.some.inj H
  (try clear zK959)
  have zK959 := cz8 BK959.out
  (try clear fK959)
  have fK959 := fz8 BK959.out
  go_wp2_with (first | ((with_reducible refine gate_callee (f := 56) rfl ?_); refine gl_ (some 9) Try.func56 #[.agg #[.int .i64 a1_0, .int .i64 a1_1, .int .i64 a1_2, .int .i64 a1_3, .int .i64 a1_4, .bool a1_5, .int .i64 a1_6, .slice A1_7 l1_7.length c1_7]] ?_; (with_reducible refine (impl_CtlOk.calls k a1_0 a1_1 a1_2 a1_3 a1_4 a1_5 a1_6 _ _ l1_7 false _ ?side1 ?side2 A7.out).mono ?_); (case side1 => exact qC (Kd.C_below HR1_7.out HB.out)); (case side2 => exact HC1_7.out); rintro e w26 ⟨rfl, hb⟩; refine ⟨_, rfl, ?_⟩; replace HO962 := am_ (Kd.S_below (qS HO962) hb); replace BK959 := bK_ BK959 hb; replace HB := bS_ HB hb; (try clear hb)))
  go_ret
  exact ⟨_, er_, qS HO962, qB HB⟩
 subst c8
 rw [if_pos rfl] at H
 replace H := bd_ H
 obtain ⟨t964, A9, H⟩ := H
 by_cases c10 : t964 = true
 rotate_left
 ·
  replace c10 := Bool.eq_false_iff.mpr c10
  subst c10
  rw [if_neg (show ¬ (false = true) by decide)] at H
  obtain rfl := Option.some.inj H
  (try clear zK959)
  have zK959 := cz8 BK959.out
  (try clear fK959)
  have fK959 := fz8 BK959.out
  go_wp2_with (first | ((with_reducible refine gate_callee (f := 56) rfl ?_); refine gl_ (some 9) Try.func56 #[.agg #[.int .i64 a1_0, .int .i64 a1_1, .int .i64 a1_2, .int .i64 a1_3, .int .i64 a1_4, .bool a1_5, .int .i64 a1_6, .slice A1_7 l1_7.length c1_7]] ?_; (with_reducible refine (impl_CtlOk.calls k a1_0 a1_1 a1_2 a1_3 a1_4 a1_5 a1_6 _ _ l1_7 true _ ?side1 ?side2 A7.out).mono ?_); (case side1 => exact qC (Kd.C_below HR1_7.out HB.out)); (case side2 => exact HC1_7.out); rintro e w23 ⟨rfl, hb⟩; refine ⟨_, rfl, ?_⟩; replace HO962 := am_ (Kd.S_below (qS HO962) hb); replace BK959 := bK_ BK959 hb; replace HB := bS_ HB hb; (try clear hb)) | (go_at_call 47; (with_reducible refine (impl_WayOk.calls k _ _ l0 false _ ?side1 ?side2 A9.out).mono ?_); (case side1 => exact qC (Kd.C_below HR0.out HB.out)); (case side2 => exact HC0.out); rintro e w24 ⟨rfl, hb⟩; replace HO962 := am_ (Kd.S_below (qS HO962) hb); replace BK959 := bK_ BK959 hb; replace HB := bS_ HB hb; (try clear hb)))
  go_ret
  exact ⟨_, er_, qS HO962, qB HB⟩
 subst c10
 rw [if_pos rfl] at H
 have HC11 := Aside0.mk H
 clear H
 (try clear zK959)
 have zK959 := cz8 BK959.out
 (try clear fK959)
 have fK959 := fz8 BK959.out
 go_upto_if 20 with (first | ((with_reducible refine gate_callee (f := 56) rfl ?_); refine gl_ (some 9) Try.func56 #[.agg #[.int .i64 a1_0, .int .i64 a1_1, .int .i64 a1_2, .int .i64 a1_3, .int .i64 a1_4, .bool a1_5, .int .i64 a1_6, .slice A1_7 l1_7.length c1_7]] ?_; (with_reducible refine (impl_CtlOk.calls k a1_0 a1_1 a1_2 a1_3 a1_4 a1_5 a1_6 _ _ l1_7 true _ ?side1 ?side2 A7.out).mono ?_); (case side1 => exact qC (Kd.C_below HR1_7.out HB.out)); (case side2 => exact HC1_7.out); rintro e w13 ⟨rfl, hb⟩; refine ⟨_, rfl, ?_⟩; replace HO962 := am_ (Kd.S_below (qS HO962) hb); replace BK959 := bK_ BK959 hb; replace HB := bS_ HB hb; (try clear hb)) | (go_at_call 47; (with_reducible refine (impl_WayOk.calls k _ _ l0 true _ ?side1 ?side2 A9.out).mono ?_); (case side1 => exact qC (Kd.C_below HR0.out HB.out)); (case side2 => exact HC0.out); rintro e w14 ⟨rfl, hb⟩; replace HO962 := am_ (Kd.S_below (qS HO962) hb); replace BK959 := bK_ BK959 hb; replace HB := bS_ HB hb; (try clear hb)))
 (try simp only [Act.put, List.setIfInBounds_toArray, List.set_cons_zero, List.set_cons_succ])
 have H := HC11.out
 clear HC11
 by_cases c15 : (l0.length : Int) = 12
 ·
  rw [if_pos c15] at H
  have c15b0 : ((l0.length : Int) == 12) = true := beq_iff_eq.mpr c15
  have c15b1 : ((l0.length : Int) != 12) = false := bne_eq_false_iff_eq.mpr c15
  clear c15
  (first | rw [c15b0] | rw [c15b1] | (simp only [i64_w, i32_w]; rw [c15b0]) | skip)
  obtain rfl := Option.some.inj H
  go_wp2
  go_ret
  exact ⟨_, er_, qS HO962, qB HB⟩
 rw [if_neg c15] at H
 have c15b0 : ((l0.length : Int) == 12) = false := beq_eq_false_iff_ne.mpr c15
 have c15b1 : ((l0.length : Int) != 12) = true := bne_iff_ne.mpr c15
 (first | rw [c15b0] | rw [c15b1] | (simp only [i64_w, i32_w]; rw [c15b0]) | skip)
 replace H := bd_ H
 obtain ⟨t965, A16, H⟩ := H
 by_cases c17 : t960.length < 4398046511104
 case neg => exact nn_ c17 H
 rw [if_pos c17] at H
 have LMc17 := Aside0.mk c17
 clear c17
 obtain ⟨y968, hy968⟩ : ∃ y_ : List (S68), y_ = (t960 ++ [(⟨a1_1, t965⟩ : S68)]) := ⟨_, rfl⟩
 rw [← hy968] at H
 have Ny968 := Aside0.mk hy968
 clear hy968
 obtain rfl := Option.some.inj H
 try go_wp2
 replace HO962 := am_ (Kd.S_drew HO962.out)
 replace BK959 := am_ (blk_drew BK959.out)
 replace HB := am_ (below_drew1 HB.out)
 refine start_ (n := 9) (S := fun w' => w'.cell? ⟨gb959, 0, none⟩ = some (.int .i64 a1_0) ∧ w'.cell? ⟨gb959, 1, none⟩ = some (.int .i64 a1_1) ∧ w'.cell? ⟨gb959, 2, none⟩ = some (.int .i64 a1_2) ∧ w'.cell? ⟨gb959, 3, none⟩ = some (.int .i64 a1_3) ∧ w'.cell? ⟨gb959, 4, none⟩ = some (.int .i64 a1_4) ∧ w'.cell? ⟨gb959, 5, none⟩ = some (.bool a1_5) ∧ w'.cell? ⟨gb959, 6, none⟩ = some (.int .i64 a1_6) ∧ w'.cell? ⟨gb959, 7, none⟩ = some (.slice A1_7 l1_7.length c1_7)) (ds := []) #[oo,oo,oo,oo,oo,oo,oo,oo,oo] (by kernel_rfl) rfl rfl (cz8 BK959.out) (fun hHeld => ?_); refine with_tabW impl_Send.tab4 impl_Send.bits4 (fun HT_ HW_ => ?_)
 generalize w14.drew = w18 at HO962 BK959 HB hHeld ⊢
 refine pz_ (i := 0) (N := some 22) HT_ #[ii,oo,oo,oo,oo,oo,oo,oo,oo] rfl rfl ?_
 refine pz_ (i := 1) (N := some 23) HT_ #[ii,ii,oo,oo,oo,oo,oo,oo,oo] rfl rfl ?_
 refine tz_ (i := 2) (N := some 24) HT_ HW_ #[ii,ii,ii,oo,oo,oo,oo,oo,oo] rfl rfl hHeld ?_
 refine tz_ (i := 3) (N := some 25) HT_ HW_ #[ii,ii,ii,ii,oo,oo,oo,oo,oo] rfl rfl hHeld ?_ (hy := fun w' ⟨s0, s1, s2, s3, s4, s5, s6, s7⟩ => ldr8 s0 s1 s2 s3 s4 s5 s6 s7)
 refine one_ (i := 4) (N := some 26) #[ii,ii,ii,ii,ii,oo,oo,oo,oo] rfl rfl (one_of HT_.out (by kernel_rfl)) (by decide) (fun K hK => ?_)
 refine goes_ Try.func52 (by kernel_rfl) rfl #[.agg #[.int .i64 a1_0, .int .i64 a1_1, .int .i64 a1_2, .int .i64 a1_3, .int .i64 a1_4, .bool a1_5, .int .i64 a1_6, .slice A1_7 l1_7.length c1_7]] (by rfl) rfl rfl la_ ?_
 with_reducible refine (impl_PutCtl.calls k a1_0 a1_1 a1_2 a1_3 a1_4 a1_5 a1_6 _ _ l1_7 t965 _ ?side1 ?side2 A16.out).mono ?_
 (case side1 => exact qC (Kd.C_below HR1_7.out HB.out))
 (case side2 => exact HC1_7.out)
 rintro e w19 ⟨v966, rfl, ho0, hb⟩
 refine ⟨_, rfl, ?_⟩
 replace HO962 := am_ (Kd.S_elder' (qS HO962) (Kd.R_base ho0) hb)
 have HO967 := am_ (Kd.R_lower ho0 (below_size (qB HB)))
 replace BK959 := bK_ BK959 hb
 replace HB := bS_ HB hb
 (try clear hb ho0)
 obtain ⟨Ao20, co20, eo20⟩ := Kd.R_slice HO967.out
 (first | subst eo20 | (injection eo20 with f1_ f2_ f3_; have f4_ := f1_.symm; have f5_ := f3_.symm; clear f1_ f2_ f3_; subst f4_; subst f5_))
 refine hK.out _ _ (cz8 BK959.out) (fun hHeld => ?_)
 clear hK K
 refine norm_ (a' := ?_) ?_ ?_
 rotate_left
 ·
  show Act.put _ (some 26) _ = _
  exact ap_
 refine pz_ (i := 5) (N := some 27) HT_ #[ii,ii,ii,ii,ii,ii,oo,oo,oo] rfl rfl ?_
 refine one_ (i := 6) (N := some 28) #[ii,ii,ii,ii,ii,ii,ii,oo,oo] rfl rfl (one_of HT_.out (by kernel_rfl)) (by decide) (fun K hK => ?_)
 refine value_ (w1 := ?_) (v := ?_) (by rfl) rfl ?_ ?_
 rotate_left 2
 ·
  go_simp
  constructor
  ·
   rfl
  ·
   rfl
 refine hK.out _ _ ⟨(blk_cell (blk_alloc BK959.out _) 0).trans rfl, (blk_cell (blk_alloc BK959.out _) 1).trans rfl, (blk_cell (blk_alloc BK959.out _) 2).trans rfl, (blk_cell (blk_alloc BK959.out _) 3).trans rfl, (blk_cell (blk_alloc BK959.out _) 4).trans rfl, (blk_cell (blk_alloc BK959.out _) 5).trans rfl, (blk_cell (blk_alloc BK959.out _) 6).trans rfl, (blk_cell (blk_alloc BK959.out _) 7).trans rfl⟩ (fun hHeld => ?_)
 clear hK K
 refine norm_ (a' := ?_) ?_ ?_
 rotate_left
 ·
  show Act.put _ (some 28) _ = _
  exact ap_
 refine one_ (i := 7) (N := some 29) #[ii,ii,ii,ii,ii,ii,ii,ii,oo] rfl rfl (one_of HT_.out (by kernel_rfl)) (by decide) (fun K hK => ?_)
 refine Kd.S_append_step k68 (w0 := w) w.heap.size (by rfl) (.tmp 22) (.tmp 28) 64 68 (.agg #[(.int .i64 0), (.slice none 0 0)]) 32 rfl Try.underlying64 info68 rfl (by decide) (by omega) v961 t960 (⟨a1_1, t965⟩ : S68) [.int .i64 a1_1, .slice Ao20 t965.length co20] (fun _ => True) (fun k_ => some k_ = (.slice Ao20 t965.length co20 : Value).ownBlock) rfl rfl ?aP (fun k_ hk_ => ((Kd.R_mono (ok' := fun k_ => ((fun _ => True)) k_ ∧ some k_ ≠ (v961 : Value).ownBlock) (Kd.R_apart' (HO967.out) (Kd.S_typed HO962.out) (by decide)) (fun k_ hk => ⟨trivial, hk.2⟩))).1 k_ hk_.symm) ?aF ?aO ?aB ?aS ?aL ?_
 (case aP => exact k68_mkM _ _ _ (⟨a1_1, t965⟩ : S68) (Kd.R_mono (Kd.R_tight rfl (Kd.R_mono (ok' := fun k_ => ((fun _ => True)) k_ ∧ some k_ ≠ (v961 : Value).ownBlock) (Kd.R_apart' (HO967.out) (Kd.S_typed HO962.out) (by decide)) (fun k_ hk => ⟨trivial, hk.2⟩))) (fun _ h_ => h_)))
 (case aB => exact (qB HB))
 (case aF => exact (fun _ _ => trivial))
 (case aO => exact (tS (Kd.S_mono HO962.out (fun k_ hk => ⟨trivial, fun e_ => hk.2 e_⟩))))
 (case aS => exact (below_size (qB HB)))
 (case aL => have := LMc17.out; omega)
 intro v969 w21 ho hb hg hat
 rw [← Ny968.out] at ho
 replace BK959 := am_ (blk_grown (qK BK959) hg (Kd.S_ne HO962.out BK959.out (by decide)))
 replace HB := am_ (hb)
 have HO970 := am_ (ho)
 clear HO962 HO967
 clear ho hb hg hat
 refine hK.out _ _ (cz8 BK959.out) (fun hHeld => ?_)
 clear hK K
 refine norm_ (a' := ?_) ?_ ?_
 rotate_left
 ·
  show Act.put _ (some 29) _ = _
  exact ap_
 refine pz_ (i := 8) (N := some 4) HT_ #[ii,ii,ii,ii,ii,ii,ii,ii,ii] rfl rfl ?_
 refine done_ (done_of HT_.out (by kernel_rfl)) ?_
 try go_wp2
 go_ret
 exact ⟨_, er_, qS HO970, qB HB⟩

/-! ### laws_samePacks: function 49 -/
def laws_samePacks.l0 : Nat → List (S68) → List (S68) → Int → Option (Bool)
 | 0, _, _, _ => none
 | k + 1, x0, x1, x5 => if x5 < (x0.length : Int) then (if 0 ≤ x5 then (if x5 < (x1.length : Int) then (if ((rd_T68 x0 x5).f0) = ((rd_T68 x1 x5).f0) then ((laws_same.f ((rd_T68 x0 x5).f1) ((rd_T68 x1 x5).f1)).bind fun t975 => (if t975 = true then (laws_samePacks.l0 k x0 x1 (wrap64 (x5 + 1))) else (some false))) else (some false)) else (none)) else (none)) else (some true)
def laws_samePacks.f (k : Nat) (l0 : List (S68)) (l1 : List (S68)) : Option (Bool) := if (l0.length : Int) = (l1.length : Int) then (laws_samePacks.l0 k l0 l1 0) else (some false)
theorem laws_samePacks.mono_l : ∀ k, (∀ y0 y1 y2, LeO (laws_samePacks.l0 k y0 y1 y2) (laws_samePacks.l0 (k + 1) y0 y1 y2))
 | 0 => fun _ _ _ r h => by simp [laws_samePacks.l0] at h
 | k + 1 => by
  have ih0 := laws_samePacks.mono_l k
  ·
   intro y0 y1 y2
   unfold laws_samePacks.l0
   exact mo_
theorem laws_samePacks.mono : ∀ a0 a1 k, LeO (laws_samePacks.f k a0 a1) (laws_samePacks.f (k + 1) a0 a1) := by
 intro a0 a1 k
 have ih0 := laws_samePacks.mono_l k
 unfold laws_samePacks.f
 exact mo_
set_option maxHeartbeats 8000000 in
set_option maxRecDepth 100000 in
theorem laws_samePacks.calls (k : Nat) (A0 : Option Addr) (c0 : Nat) (l0 : List (S68)) (A1 : Option Addr) (c1 : Nat) (l1 : List (S68)) (r : Bool) (w : World) (hr0 : Kd.C k68 w A0 l0.length l0) (hc0 : l0.length ≤ c0) (hr1 : Kd.C k68 w A1 l1.length l1) (hc1 : l1.length ≤ c1) (h : laws_samePacks.f k l0 l1 = some r) :
  Calls Try.prog 49 #[.slice A0 l0.length c0, .slice A1 l1.length c1] w fun e w' => e = .returned (.bool r) ∧ Drawn0 w w' := by
 have HR0 := Aside0.mk hr0
 have HC0 := Aside0.mk hc0
 clear hr0 hc0
 have HR1 := Aside0.mk hr1
 have HC1 := Aside0.mk hc1
 clear hr1 hc1
 have H := h
 unfold laws_samePacks.f at H
 clear h
 by_cases c3 : (l0.length : Int) = (l1.length : Int)
 rotate_left
 ·
  rw [if_neg c3] at H
  have c3b0 : ((l0.length : Int) == (l1.length : Int)) = false := beq_eq_false_iff_ne.mpr c3
  have c3b1 : ((l0.length : Int) != (l1.length : Int)) = true := bne_iff_ne.mpr c3
  have c3b2 : (l0.length == l1.length) = false := by first | simpa using c3 | (simp at c3 ⊢; omega)
  obtain rfl := Option.some.inj H
  go_enter Try.func49, Try.ntmps49
  go_wp2
  repeat (go_quiet (fail); try go_wp2)
  go_ret
  exact ⟨by first | rfl | (simp; done) | (simp [*]; done), by repeat (first | exact Drawn0.refl _ | apply Drawn0.step)⟩
 rw [if_pos c3] at H
 have c3b0 : ((l0.length : Int) == (l1.length : Int)) = true := beq_iff_eq.mpr c3
 have c3b1 : ((l0.length : Int) != (l1.length : Int)) = false := bne_eq_false_iff_eq.mpr c3
 have c3b2 : (l0.length == l1.length) = true := by first | simpa using c3 | (simp at c3 ⊢; omega)
 clear c3
 have H' := Aside0.mk H
 clear H
 go_enter Try.func49, Try.ntmps49
 go_wp2
 repeat (go_quiet (fail); try go_wp2)
 go_loopg [5] k (fun kq v5 w' => ∃ (x5_1 : Int), v5 = .int .i64 x5_1 ∧ Aside0 (laws_samePacks.l0 kq l0 l1 x5_1 = some r) ∧ Aside0 (kq ≤ k) ∧ Drawn0 w w')
 case atStart => exact ⟨(0), eqq_, H', ⟨Nat.le_refl _⟩, by repeat (first | exact Drawn0.refl _ | apply Drawn0.step)⟩
 case round =>
  clear H'
  try clear c1
  try clear p2
  try clear c3
  try clear c3b0
  try clear c3b1
  try clear c3b2
  obtain ⟨x5_1, rfl, HA, HK1, ⟨m1, rfl⟩⟩ := hrel
  cases gk with
  | zero => exact absurd HA.out (by simp [laws_samePacks.l0])
  | succ k1 =>
   have H := HA.out
   clear HA
   simp only [laws_samePacks.l0] at H
   by_cases c4 : x5_1 < (l0.length : Int)
   rotate_left
   ·
    rw [if_neg c4] at H
    have c4b0 : decide (x5_1 < (l0.length : Int)) = false := decide_eq_false c4
    clear c4
    obtain rfl := Option.some.inj H
    go_wp2
    repeat (go_quiet (fail); try go_wp2)
    go_ret
    exact ⟨by first | rfl | (simp; done) | (simp [*]; done), by repeat (first | exact Drawn0.refl _ | apply Drawn0.step)⟩
   rw [if_pos c4] at H
   have c4b0 : decide (x5_1 < (l0.length : Int)) = true := decide_eq_true c4
   clear c4
   by_cases c5 : 0 ≤ x5_1
   case neg => exact nn_ c5 H
   rw [if_pos c5] at H
   have c5b0 : decide (0 ≤ x5_1) = true := decide_eq_true c5
   clear c5
   by_cases c6 : x5_1 < (l1.length : Int)
   case neg => exact nn_ c6 H
   rw [if_pos c6] at H
   have c6b0 : decide (x5_1 < (l1.length : Int)) = true := decide_eq_true c6
   clear c6
   by_cases c7 : ((rd_T68 l0 x5_1).f0) = ((rd_T68 l1 x5_1).f0)
   rotate_left
   ·
    rw [if_neg c7] at H
    have c7b0 : (((rd_T68 l0 x5_1).f0) == ((rd_T68 l1 x5_1).f0)) = false := beq_eq_false_iff_ne.mpr c7
    have c7b1 : (((rd_T68 l0 x5_1).f0) != ((rd_T68 l1 x5_1).f0)) = true := bne_iff_ne.mpr c7
    obtain rfl := Option.some.inj H
    have p971 : 0 ≤ (x5_1 : Int) := od_
    have q971 : x5_1 < (l0.length : Int) := od_
    obtain ⟨ad971, A971_1, c971_1, e971, hx971_0, hx971_1, hl971_1, hi971_1⟩ := at_T68 HR0.out x5_1 p971 q971
    cases e971
    have HR971_1 := Aside0.mk hi971_1
    have HC971_1 := Aside0.mk hl971_1
    clear hi971_1 hl971_1
    replace p971 := eq_true p971
    replace q971 := eq_true q971
    have p972 : 0 ≤ (x5_1 : Int) := od_
    have q972 : x5_1 < (l1.length : Int) := od_
    obtain ⟨ad972, A972_1, c972_1, e972, hx972_0, hx972_1, hl972_1, hi972_1⟩ := at_T68 HR1.out x5_1 p972 q972
    cases e972
    have HR972_1 := Aside0.mk hi972_1
    have HC972_1 := Aside0.mk hl972_1
    clear hi972_1 hl972_1
    replace p972 := eq_true p972
    replace q972 := eq_true q972
    go_wp2
    repeat (go_quiet (fail); try go_wp2)
    go_ret
    exact ⟨by first | rfl | (simp; done) | (simp [*]; done), by repeat (first | exact Drawn0.refl _ | apply Drawn0.step)⟩
   rw [if_pos c7] at H
   have c7b0 : (((rd_T68 l0 x5_1).f0) == ((rd_T68 l1 x5_1).f0)) = true := beq_iff_eq.mpr c7
   have c7b1 : (((rd_T68 l0 x5_1).f0) != ((rd_T68 l1 x5_1).f0)) = false := bne_eq_false_iff_eq.mpr c7
   clear c7
   replace H := bd_ H
   obtain ⟨t975, A8, H⟩ := H
   have HC9 := Aside0.mk H
   clear H
   have p971 : 0 ≤ (x5_1 : Int) := od_
   have q971 : x5_1 < (l0.length : Int) := od_
   obtain ⟨ad971, A971_1, c971_1, e971, hx971_0, hx971_1, hl971_1, hi971_1⟩ := at_T68 HR0.out x5_1 p971 q971
   cases e971
   have HR971_1 := Aside0.mk hi971_1
   have HC971_1 := Aside0.mk hl971_1
   clear hi971_1 hl971_1
   replace p971 := eq_true p971
   replace q971 := eq_true q971
   have p972 : 0 ≤ (x5_1 : Int) := od_
   have q972 : x5_1 < (l1.length : Int) := od_
   obtain ⟨ad972, A972_1, c972_1, e972, hx972_0, hx972_1, hl972_1, hi972_1⟩ := at_T68 HR1.out x5_1 p972 q972
   cases e972
   have HR972_1 := Aside0.mk hi972_1
   have HC972_1 := Aside0.mk hl972_1
   clear hi972_1 hl972_1
   replace p972 := eq_true p972
   replace q972 := eq_true q972
   have p973 : 0 ≤ (x5_1 : Int) := od_
   have q973 : x5_1 < (l0.length : Int) := od_
   obtain ⟨ad973, A973_1, c973_1, e973, hx973_0, hx973_1, hl973_1, hi973_1⟩ := at_T68 HR0.out x5_1 p973 q973
   obtain rfl : ad971 = ad973 := (by injection e973)
   have HR973_1 := Aside0.mk hi973_1
   have HC973_1 := Aside0.mk hl973_1
   clear hi973_1 hl973_1
   replace p973 := eq_true p973
   replace q973 := eq_true q973
   have ea_ := Option.some.inj (hx971_1.symm.trans hx973_1)
   injection ea_ with ea_ en_ ec_
   subst ea_
   subst ec_
   clear en_
   have p974 : 0 ≤ (x5_1 : Int) := od_
   have q974 : x5_1 < (l1.length : Int) := od_
   obtain ⟨ad974, A974_1, c974_1, e974, hx974_0, hx974_1, hl974_1, hi974_1⟩ := at_T68 HR1.out x5_1 p974 q974
   obtain rfl : ad972 = ad974 := (by injection e974)
   have HR974_1 := Aside0.mk hi974_1
   have HC974_1 := Aside0.mk hl974_1
   clear hi974_1 hl974_1
   replace p974 := eq_true p974
   replace q974 := eq_true q974
   have ea_ := Option.some.inj (hx972_1.symm.trans hx974_1)
   injection ea_ with ea_ en_ ec_
   subst ea_
   subst ec_
   clear en_
   go_upto_if 41 with (first | (go_at_call 15; (with_reducible refine (laws_same.calls _ _ ((rd_T68 l0 x5_1).f1) _ _ ((rd_T68 l1 x5_1).f1) t975 _ ?side1 ?side2 ?side3 ?side4 A8.out).mono ?_); (case side1 => exact qC (HR973_1.out)); (case side2 => exact HC973_1.out); (case side3 => exact qC (HR974_1.out)); (case side4 => exact HC974_1.out); rintro e w' ⟨rfl, ⟨nd, rfl⟩⟩; (try first | exact ⟨rfl, _, World.drewN_drewN _ _ _⟩ | exact ⟨rfl, _, Eq.trans (World.drewN_drewN _ _ _) (congrArg (World.drewN _) (Nat.add_assoc _ _ _))⟩)))
   repeat (go_quiet (first | (go_at_call 15; (with_reducible refine (laws_same.calls _ _ ((rd_T68 l0 x5_1).f1) _ _ ((rd_T68 l1 x5_1).f1) t975 _ ?side1 ?side2 ?side3 ?side4 A8.out).mono ?_); (case side1 => exact qC (HR973_1.out)); (case side2 => exact HC973_1.out); (case side3 => exact qC (HR974_1.out)); (case side4 => exact HC974_1.out); rintro e w' ⟨rfl, ⟨nd, rfl⟩⟩; (try first | exact ⟨rfl, _, World.drewN_drewN _ _ _⟩ | exact ⟨rfl, _, Eq.trans (World.drewN_drewN _ _ _) (congrArg (World.drewN _) (Nat.add_assoc _ _ _))⟩))); go_upto_if 41 with (first | (go_at_call 15; (with_reducible refine (laws_same.calls _ _ ((rd_T68 l0 x5_1).f1) _ _ ((rd_T68 l1 x5_1).f1) t975 _ ?side1 ?side2 ?side3 ?side4 A8.out).mono ?_); (case side1 => exact qC (HR973_1.out)); (case side2 => exact HC973_1.out); (case side3 => exact qC (HR974_1.out)); (case side4 => exact HC974_1.out); rintro e w' ⟨rfl, ⟨nd, rfl⟩⟩; (try first | exact ⟨rfl, _, World.drewN_drewN _ _ _⟩ | exact ⟨rfl, _, Eq.trans (World.drewN_drewN _ _ _) (congrArg (World.drewN _) (Nat.add_assoc _ _ _))⟩))))
   (try simp only [Act.put, List.setIfInBounds_toArray, List.set_cons_zero, List.set_cons_succ])
   have H := HC9.out
   clear HC9
   by_cases c10 : t975 = true
   rotate_left
   ·
    replace c10 := Bool.eq_false_iff.mpr c10
    subst c10
    rw [if_neg (show ¬ (false = true) by decide)] at H
    obtain rfl := Option.some.inj H
    go_wp2
    repeat (go_quiet (fail); try go_wp2)
    go_ret
    exact ⟨by first | rfl | (simp; done) | (simp [*]; done), by repeat (first | exact Drawn0.refl _ | apply Drawn0.step)⟩
   subst c10
   rw [if_pos rfl] at H
   have H' := Aside0.mk H
   clear H
   go_wp2
   repeat (go_quiet (fail); try go_wp2)
   go_roundg k1
   case measure => have := HK1.out; omega
   case rel => exact ⟨(wrap64 (x5_1 + 1)), eqq_, H', ⟨by have := HK1.out; omega⟩, by repeat (first | exact Drawn0.refl _ | apply Drawn0.step)⟩

end Go.Proofs.Ytiffahfpfgnjnaa.PFnWays
