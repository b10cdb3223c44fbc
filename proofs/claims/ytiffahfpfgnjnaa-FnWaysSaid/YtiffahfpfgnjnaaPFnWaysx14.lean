-- Written by a program of this session (myprint.py, over the kit's print): contracts of FnWays
import Derived.Test.YtiffahfpfgnjnaaPFnWaysx0
import Derived.Test.YtiffahfpfgnjnaaPFnWaysx3
import Derived.Test.YtiffahfpfgnjnaaPFnWaysx7
import Derived.Test.YtiffahfpfgnjnaaPFnWaysx8
import Derived.Test.YtiffahfpfgnjnaaPFnWaysx13
namespace Go.Proofs.Ytiffahfpfgnjnaa.PFnWays
open Go.RowKit Go.Proofs.YtiffahfpfgnjnaaW.PrintWords Go.Proofs.YtiffahfpfgnjnaaW.PrintLast Go.Proofs.YtiffahfpfgnjnaaW.PrintMore Go.Proofs.YtiffahfpfgnjnaaV
attribute [local go_sem] max2_int min2_int max_two min_two max_three min_three max_four min_four   -- for this text's walks alone
set_option linter.unusedVariables false
set_option linter.unusedSimpArgs false

/-! ### impl_Twice: function 43 -/
def impl_Twice.f (k : Nat) (l0 : List (S68)) (a1 : Int) : Option ((List (S68)) × Bool) := (impl_wayCopy.f k l0).bind fun t611 => (if (l0.length : Int) = 0 then (some (t611, false)) else (if a1 < 0 then (some (t611, false)) else ((impl_WayOk.f k l0).bind fun t614 => (if t614 = true then (if (l0.length : Int) = 12 then (some (t611, false)) else (if 0 ≤ (Int.tmod a1 (l0.length : Int)) then (if (Int.tmod a1 (l0.length : Int)) < (l0.length : Int) then ((impl_packCopy.f ((rd_T68 l0 (Int.tmod a1 (l0.length : Int))).f0) ((rd_T68 l0 (Int.tmod a1 (l0.length : Int))).f1)).bind fun bt616 => (if t611.length < 4398046511104 then (some ((t611 ++ [(⟨bt616.1, bt616.2⟩ : S68)]), true)) else (none))) else (none)) else (none))) else (some (t611, false))))))
theorem impl_Twice.mono : ∀ a0 a1 k, LeO (impl_Twice.f k a0 a1) (impl_Twice.f (k + 1) a0 a1) := by
 intro a0 a1 k
 unfold impl_Twice.f
 have m0 := @impl_WayOk.mono; have m1 := @impl_wayCopy.mono; exact mo_
set_option maxHeartbeats 8000000 in
set_option maxRecDepth 100000 in
theorem impl_Twice.calls (k : Nat) (A0 : Option Addr) (c0 : Nat) (l0 : List (S68)) (a1 : Int) (r1 : List (S68)) (r2 : Bool) (w : World) (hr0 : Kd.C k68 w A0 l0.length l0) (hc0 : l0.length ≤ c0) (h : impl_Twice.f k l0 a1 = some (r1, r2)) :
  Calls Try.prog 43 #[.slice A0 l0.length c0, .int .i64 a1] w fun e w' => ∃ v0_ : Value, e = .returned (.tuple #[v0_, .bool r2]) ∧ Kd.S k68 68 w' w.heap.size (fun _ => True) v0_ r1 ∧ Below w.heap.size w w' := by
 have hu68 := Try.underlying68
 have HR0 := Aside0.mk hr0
 have HC0 := Aside0.mk hc0
 clear hr0 hc0
 have HB := Aside0.mk (Below.refl w.heap.size w)
 have H := h
 unfold impl_Twice.f at H
 clear h
 replace H := bd_ H
 obtain ⟨t611, A3, H⟩ := H
 have HC4 := Aside0.mk H
 clear H
 go_enter Try.func43, Try.ntmps43
 go_upto_region 2 with (first | ((with_reducible refine gate_callee (f := 101) rfl ?_); refine gl_ (some 8) Try.func101 #[.slice A0 l0.length c0] ?_; (with_reducible refine (impl_wayCopy.calls k _ _ l0 t611 _ ?side1 ?side2 A3.out).mono ?_); (case side1 => exact qC (HR0.out)); (case side2 => exact HC0.out); rintro e w5 ⟨v612, rfl, ho0, hb⟩; refine ⟨_, rfl, ?_⟩; have HO613 := am_ (Kd.S_lower ho0 (below_size (qB HB))); replace HB := bS_ HB hb; (try clear hb); (try clear ho0)))
 (try simp only [Act.put, List.setIfInBounds_toArray, List.set_cons_zero, List.set_cons_succ])
 have H := HC4.out
 clear HC4
 by_cases c6 : (l0.length : Int) = 0
 ·
  rw [if_pos c6] at H
  have c6b0 : ((l0.length : Int) == 0) = true := beq_iff_eq.mpr c6
  have c6b1 : ((l0.length : Int) != 0) = false := bne_eq_false_iff_eq.mpr c6
  clear c6
  simp only [Option.some.injEq, Prod.mk.injEq] at H
  obtain ⟨rfl, rfl⟩ := H
  go_wp2
  go_ret2
  exact ⟨_, er_, qS HO613, qB HB⟩
 rw [if_neg c6] at H
 have c6b0 : ((l0.length : Int) == 0) = false := beq_eq_false_iff_ne.mpr c6
 have c6b1 : ((l0.length : Int) != 0) = true := bne_iff_ne.mpr c6
 have c6b2 : ¬ (l0 = []) := fun h_ => c6 (by rw [h_]; rfl)
 by_cases c7 : a1 < 0
 ·
  rw [if_pos c7] at H
  have c7b0 : decide (a1 < 0) = true := decide_eq_true c7
  clear c7
  simp only [Option.some.injEq, Prod.mk.injEq] at H
  obtain ⟨rfl, rfl⟩ := H
  go_wp2
  go_ret2
  exact ⟨_, er_, qS HO613, qB HB⟩
 rw [if_neg c7] at H
 have c7b0 : decide (a1 < 0) = false := decide_eq_false c7
 clear c7
 replace H := bd_ H
 obtain ⟨t614, A8, H⟩ := H
 by_cases c9 : t614 = true
 rotate_left
 ·
  replace c9 := Bool.eq_false_iff.mpr c9
  subst c9
  rw [if_neg (show ¬ (false = true) by decide)] at H
  simp only [Option.some.injEq, Prod.mk.injEq] at H
  obtain ⟨rfl, rfl⟩ := H
  go_wp2_with (first | (go_at_call 47; (with_reducible refine (impl_WayOk.calls k _ _ l0 false _ ?side1 ?side2 A8.out).mono ?_); (case side1 => exact qC (Kd.C_below HR0.out HB.out)); (case side2 => exact HC0.out); rintro e w21 ⟨rfl, hb⟩; replace HO613 := am_ (Kd.S_below (qS HO613) hb); replace HB := bS_ HB hb; (try clear hb)))
  go_ret2
  exact ⟨_, er_, qS HO613, qB HB⟩
 subst c9
 rw [if_pos rfl] at H
 have HC10 := Aside0.mk H
 clear H
 go_upto_if 25 with (first | (go_at_call 47; (with_reducible refine (impl_WayOk.calls k _ _ l0 true _ ?side1 ?side2 A8.out).mono ?_); (case side1 => exact qC (Kd.C_below HR0.out HB.out)); (case side2 => exact HC0.out); rintro e w11 ⟨rfl, hb⟩; replace HO613 := am_ (Kd.S_below (qS HO613) hb); replace HB := bS_ HB hb; (try clear hb)))
 (try simp only [Act.put, List.setIfInBounds_toArray, List.set_cons_zero, List.set_cons_succ])
 have H := HC10.out
 clear HC10
 by_cases c12 : (l0.length : Int) = 12
 ·
  rw [if_pos c12] at H
  have c12b0 : ((l0.length : Int) == 12) = true := beq_iff_eq.mpr c12
  have c12b1 : ((l0.length : Int) != 12) = false := bne_eq_false_iff_eq.mpr c12
  clear c12
  (first | rw [c12b0] | rw [c12b1] | (simp only [i64_w, i32_w]; rw [c12b0]) | skip)
  simp only [Option.some.injEq, Prod.mk.injEq] at H
  obtain ⟨rfl, rfl⟩ := H
  go_wp2
  go_ret2
  exact ⟨_, er_, qS HO613, qB HB⟩
 rw [if_neg c12] at H
 have c12b0 : ((l0.length : Int) == 12) = false := beq_eq_false_iff_ne.mpr c12
 have c12b1 : ((l0.length : Int) != 12) = true := bne_iff_ne.mpr c12
 (first | rw [c12b0] | rw [c12b1] | (simp only [i64_w, i32_w]; rw [c12b0]) | skip)
 obtain ⟨ji13, hji13⟩ : ∃ j_ : Int, (Int.tmod a1 (l0.length : Int)) = j_ := ⟨_, rfl⟩
 replace H : (if 0 ≤ (ji13) then (if (ji13) < (l0.length : Int) then ((impl_packCopy.f ((rd_T68 l0 (ji13)).f0) ((rd_T68 l0 (ji13)).f1)).bind fun bt616 => (if t611.length < 4398046511104 then (some ((t611 ++ [(⟨bt616.1, bt616.2⟩ : S68)]), true)) else (none))) else (none)) else (none)) = some (r1, r2) := by first | (rw [hji13] at H; exact H) | (simp only [hji13] at H ⊢; exact H)
 by_cases c14 : 0 ≤ (ji13)
 case neg => exact nn_ c14 H
 rw [if_pos c14] at H
 have c14b0 : decide (0 ≤ (ji13)) = true := decide_eq_true c14
 clear c14
 by_cases c15 : (ji13) < (l0.length : Int)
 case neg => exact nn_ c15 H
 rw [if_pos c15] at H
 have c15b0 : decide ((ji13) < (l0.length : Int)) = true := decide_eq_true c15
 clear c15
 replace H := bd_ H
 obtain ⟨⟨t616, t617⟩, A16, H⟩ := H
 (try dsimp only at H)
 by_cases c17 : t611.length < 4398046511104
 case neg => exact nn_ c17 H
 rw [if_pos c17] at H
 have LMc17 := Aside0.mk c17
 clear c17
 obtain ⟨y620, hy620⟩ : ∃ y_ : List (S68), y_ = (t611 ++ [(⟨t616, t617⟩ : S68)]) := ⟨_, rfl⟩
 rw [← hy620] at H
 have Ny620 := Aside0.mk hy620
 clear hy620
 simp only [Option.some.injEq, Prod.mk.injEq] at H
 obtain ⟨rfl, rfl⟩ := H
 have p615 : 0 ≤ ((ji13) : Int) := od_
 have q615 : (ji13) < (l0.length : Int) := od_
 obtain ⟨ad615, A615_1, c615_1, e615, hx615_0, hx615_1, hl615_1, hi615_1⟩ := at_T68 HR0.out (ji13) p615 q615
 cases e615
 replace hx615_0 := lb_ HB hx615_0
 replace hx615_1 := lb_ HB hx615_1
 have HR615_1 := Aside0.mk hi615_1
 have HC615_1 := Aside0.mk hl615_1
 clear hi615_1 hl615_1
 replace p615 := eq_true p615
 replace q615 := eq_true q615
 go_wp2_with (first | ((with_reducible refine gate_callee (f := 102) rfl ?_); refine goesL_ (some 35) rfl rfl Try.func102 (by kernel_rfl) rfl #[.agg #[.int .i64 ((rd_T68 l0 (ji13)).f0), .slice A615_1 ((rd_T68 l0 (ji13)).f1).length c615_1]] rfl (by (try simp only [List.map_toArray, List.map_cons, List.map_nil]); first | done | (simp only [hji13]; rfl) | rfl | (simp only [List.length_drop, List.length_take]; rfl)) ?_; (with_reducible refine (impl_packCopy.calls ((rd_T68 l0 (ji13)).f0) _ _ ((rd_T68 l0 (ji13)).f1) t616 t617 _ ?side1 ?side2 A16.out).mono ?_); (case side1 => exact qC (Kd.C_below HR615_1.out HB.out)); (case side2 => exact HC615_1.out); rintro e w18 ⟨v618, rfl, ho0, hb⟩; refine ⟨_, rfl, ?_⟩; replace HO613 := am_ (Kd.S_elder' (qS HO613) (Kd.R_base ho0) hb); have HO619 := am_ (Kd.R_lower ho0 (below_size (qB HB))); replace HB := bS_ HB hb; (try clear hb); (try clear ho0); obtain ⟨Ao20, co20, eo20⟩ := Kd.R_slice HO619.out; subst eo20) | ((with_reducible refine gate_builtin (b := .append) (xs := #[.tmp 27, .tmp 36]) rfl ?_); (try (refine gate_guard (by rfl) ?_; dsimp only)); at_builtin; refine Kd.S_append k68 (w0 := w) w.heap.size rfl (.tmp 27) (.tmp 36) 64 68 (.agg #[(.int .i64 0), (.slice none 0 0)]) 32 rfl Try.underlying64 info68 rfl (by decide) (by omega) v612 t611 (⟨t616, t617⟩ : S68) [.int .i64 t616, .slice Ao20 t617.length co20] (fun _ => True) (fun k_ => some k_ = (.slice Ao20 t617.length co20 : Value).ownBlock) rfl rfl ?aP (fun k_ hk_ => ((Kd.R_mono (ok' := fun k_ => ((fun _ => True)) k_ ∧ some k_ ≠ (v612 : Value).ownBlock) (Kd.R_apart' (HO619.out) (Kd.S_typed HO613.out) (by decide)) (fun k_ hk => ⟨trivial, hk.2⟩))).1 k_ hk_.symm) ?aF ?aO ?aB ?aS ?aL ?_; (case aP => exact k68_mkM _ _ _ (⟨t616, t617⟩ : S68) (Kd.R_mono (Kd.R_tight rfl (Kd.R_mono (ok' := fun k_ => ((fun _ => True)) k_ ∧ some k_ ≠ (v612 : Value).ownBlock) (Kd.R_apart' (HO619.out) (Kd.S_typed HO613.out) (by decide)) (fun k_ hk => ⟨trivial, hk.2⟩))) (fun _ h_ => h_))); (case aB => exact (qB HB)); (case aF => exact (fun _ _ => trivial)); (case aO => exact (tS (Kd.S_mono HO613.out (fun k_ hk => ⟨trivial, fun e_ => hk.2 e_⟩)))); (case aS => exact (below_size (qB HB))); (case aL => have := LMc17.out; omega); intro v621 w19 ho hb hg hat; rw [← Ny620.out] at ho; replace HB := am_ (hb); have HO622 := am_ (ho); clear HO613 HO619; clear ho hb hg hat))
 go_ret2
 exact ⟨_, by first | rfl | (simp [errW_none, errW_some] <;> rfl) | (simp only [← hji13]; first | rfl | (simp [errW_none, errW_some] <;> rfl)) | (simp [*, errW_none, errW_some] <;> rfl), qS HO622, qB HB⟩

/-! ### spec_Twice: function 44 -/
def spec_Twice.f (k : Nat) (l0 : List (S68)) (a1 : Int) : Option ((List (S68)) × Bool) := (spec_l12Copy.f k l0).bind fun t623 => (if (l0.length : Int) = 0 then (some (t623, false)) else (if a1 < 0 then (some (t623, false)) else ((spec_WayOk.f k l0).bind fun t626 => (if t626 = true then (if (l0.length : Int) = 12 then (some (t623, false)) else (if 0 ≤ (Int.tmod a1 (l0.length : Int)) then (if (Int.tmod a1 (l0.length : Int)) < (l0.length : Int) then ((spec_l12Pack.f ((rd_T68 l0 (Int.tmod a1 (l0.length : Int))).f0) ((rd_T68 l0 (Int.tmod a1 (l0.length : Int))).f1)).bind fun bt628 => (if t623.length < 4398046511104 then (some ((t623 ++ [(⟨bt628.1, bt628.2⟩ : S68)]), true)) else (none))) else (none)) else (none))) else (some (t623, false))))))
theorem spec_Twice.mono : ∀ a0 a1 k, LeO (spec_Twice.f k a0 a1) (spec_Twice.f (k + 1) a0 a1) := by
 intro a0 a1 k
 unfold spec_Twice.f
 have m0 := @spec_WayOk.mono; have m1 := @spec_l12Copy.mono; exact mo_
set_option maxHeartbeats 8000000 in
set_option maxRecDepth 100000 in
theorem spec_Twice.calls (k : Nat) (A0 : Option Addr) (c0 : Nat) (l0 : List (S68)) (a1 : Int) (r1 : List (S68)) (r2 : Bool) (w : World) (hr0 : Kd.C k68 w A0 l0.length l0) (hc0 : l0.length ≤ c0) (h : spec_Twice.f k l0 a1 = some (r1, r2)) :
  Calls Try.prog 44 #[.slice A0 l0.length c0, .int .i64 a1] w fun e w' => ∃ v0_ : Value, e = .returned (.tuple #[v0_, .bool r2]) ∧ Kd.S k68 68 w' w.heap.size (fun _ => True) v0_ r1 ∧ Below w.heap.size w w' := by
 have hu68 := Try.underlying68
 have HR0 := Aside0.mk hr0
 have HC0 := Aside0.mk hc0
 clear hr0 hc0
 have HB := Aside0.mk (Below.refl w.heap.size w)
 have H := h
 unfold spec_Twice.f at H
 clear h
 replace H := bd_ H
 obtain ⟨t623, A3, H⟩ := H
 have HC4 := Aside0.mk H
 clear H
 go_enter Try.func44, Try.ntmps44
 go_upto_region 2 with (first | ((with_reducible refine gate_callee (f := 104) rfl ?_); refine gl_ (some 8) Try.func104 #[.slice A0 l0.length c0] ?_; (with_reducible refine (spec_l12Copy.calls k _ _ l0 t623 _ ?side1 ?side2 A3.out).mono ?_); (case side1 => exact qC (HR0.out)); (case side2 => exact HC0.out); rintro e w5 ⟨v624, rfl, ho0, hb⟩; refine ⟨_, rfl, ?_⟩; have HO625 := am_ (Kd.S_lower ho0 (below_size (qB HB))); replace HB := bS_ HB hb; (try clear hb); (try clear ho0)))
 (try simp only [Act.put, List.setIfInBounds_toArray, List.set_cons_zero, List.set_cons_succ])
 have H := HC4.out
 clear HC4
 by_cases c6 : (l0.length : Int) = 0
 ·
  rw [if_pos c6] at H
  have c6b0 : ((l0.length : Int) == 0) = true := beq_iff_eq.mpr c6
  have c6b1 : ((l0.length : Int) != 0) = false := bne_eq_false_iff_eq.mpr c6
  clear c6
  simp only [Option.some.injEq, Prod.mk.injEq] at H
  obtain ⟨rfl, rfl⟩ := H
  go_wp2
  go_ret2
  exact ⟨_, er_, qS HO625, qB HB⟩
 rw [if_neg c6] at H
 have c6b0 : ((l0.length : Int) == 0) = false := beq_eq_false_iff_ne.mpr c6
 have c6b1 : ((l0.length : Int) != 0) = true := bne_iff_ne.mpr c6
 have c6b2 : ¬ (l0 = []) := fun h_ => c6 (by rw [h_]; rfl)
 by_cases c7 : a1 < 0
 ·
  rw [if_pos c7] at H
  have c7b0 : decide (a1 < 0) = true := decide_eq_true c7
  clear c7
  simp only [Option.some.injEq, Prod.mk.injEq] at H
  obtain ⟨rfl, rfl⟩ := H
  go_wp2
  go_ret2
  exact ⟨_, er_, qS HO625, qB HB⟩
 rw [if_neg c7] at H
 have c7b0 : decide (a1 < 0) = false := decide_eq_false c7
 clear c7
 replace H := bd_ H
 obtain ⟨t626, A8, H⟩ := H
 by_cases c9 : t626 = true
 rotate_left
 ·
  replace c9 := Bool.eq_false_iff.mpr c9
  subst c9
  rw [if_neg (show ¬ (false = true) by decide)] at H
  simp only [Option.some.injEq, Prod.mk.injEq] at H
  obtain ⟨rfl, rfl⟩ := H
  go_wp2_with (first | (go_at_call 48; (with_reducible refine (spec_WayOk.calls k _ _ l0 false _ ?side1 ?side2 A8.out).mono ?_); (case side1 => exact qC (Kd.C_below HR0.out HB.out)); (case side2 => exact HC0.out); rintro e w' ⟨rfl, ⟨nd, rfl⟩⟩))
  go_ret2
  exact ⟨_, er_, qS HO625, qB HB⟩
 subst c9
 rw [if_pos rfl] at H
 have HC10 := Aside0.mk H
 clear H
 go_upto_if 25 with (first | (go_at_call 48; (with_reducible refine (spec_WayOk.calls k _ _ l0 true _ ?side1 ?side2 A8.out).mono ?_); (case side1 => exact qC (Kd.C_below HR0.out HB.out)); (case side2 => exact HC0.out); rintro e w' ⟨rfl, ⟨nd, rfl⟩⟩))
 (try simp only [Act.put, List.setIfInBounds_toArray, List.set_cons_zero, List.set_cons_succ])
 (try (rw [drewN_self w5]; generalize hq_ : World.drewN w5 _ = w5; have n0_ : Aside0 (Kd.S k68 68 w5 w.heap.size (fun _ => True) v624 t623) := ⟨by rw [← hq_]; exact (qS HO625)⟩; have n1_ : Aside0 (Below w.heap.size w w5) := ⟨by rw [← hq_]; exact (qB HB)⟩; clear HO625 HB hq_; have HO625 := n0_; have HB := n1_; clear n0_ n1_))
 have H := HC10.out
 clear HC10
 by_cases c11 : (l0.length : Int) = 12
 ·
  rw [if_pos c11] at H
  have c11b0 : ((l0.length : Int) == 12) = true := beq_iff_eq.mpr c11
  have c11b1 : ((l0.length : Int) != 12) = false := bne_eq_false_iff_eq.mpr c11
  clear c11
  (first | rw [c11b0] | rw [c11b1] | (simp only [i64_w, i32_w]; rw [c11b0]) | skip)
  simp only [Option.some.injEq, Prod.mk.injEq] at H
  obtain ⟨rfl, rfl⟩ := H
  go_wp2
  go_ret2
  exact ⟨_, er_, qS HO625, qB HB⟩
 rw [if_neg c11] at H
 have c11b0 : ((l0.length : Int) == 12) = false := beq_eq_false_iff_ne.mpr c11
 have c11b1 : ((l0.length : Int) != 12) = true := bne_iff_ne.mpr c11
 (first | rw [c11b0] | rw [c11b1] | (simp only [i64_w, i32_w]; rw [c11b0]) | skip)
 obtain ⟨ji12, hji12⟩ : ∃ j_ : Int, (Int.tmod a1 (l0.length : Int)) = j_ := ⟨_, rfl⟩
 replace H : (if 0 ≤ (ji12) then (if (ji12) < (l0.length : Int) then ((spec_l12Pack.f ((rd_T68 l0 (ji12)).f0) ((rd_T68 l0 (ji12)).f1)).bind fun bt628 => (if t623.length < 4398046511104 then (some ((t623 ++ [(⟨bt628.1, bt628.2⟩ : S68)]), true)) else (none))) else (none)) else (none)) = some (r1, r2) := by first | (rw [hji12] at H; exact H) | (simp only [hji12] at H ⊢; exact H)
 by_cases c13 : 0 ≤ (ji12)
 case neg => exact nn_ c13 H
 rw [if_pos c13] at H
 have c13b0 : decide (0 ≤ (ji12)) = true := decide_eq_true c13
 clear c13
 by_cases c14 : (ji12) < (l0.length : Int)
 case neg => exact nn_ c14 H
 rw [if_pos c14] at H
 have c14b0 : decide ((ji12) < (l0.length : Int)) = true := decide_eq_true c14
 clear c14
 replace H := bd_ H
 obtain ⟨⟨t628, t629⟩, A15, H⟩ := H
 (try dsimp only at H)
 by_cases c16 : t623.length < 4398046511104
 case neg => exact nn_ c16 H
 rw [if_pos c16] at H
 have LMc16 := Aside0.mk c16
 clear c16
 obtain ⟨y632, hy632⟩ : ∃ y_ : List (S68), y_ = (t623 ++ [(⟨t628, t629⟩ : S68)]) := ⟨_, rfl⟩
 rw [← hy632] at H
 have Ny632 := Aside0.mk hy632
 clear hy632
 simp only [Option.some.injEq, Prod.mk.injEq] at H
 obtain ⟨rfl, rfl⟩ := H
 have p627 : 0 ≤ ((ji12) : Int) := od_
 have q627 : (ji12) < (l0.length : Int) := od_
 obtain ⟨ad627, A627_1, c627_1, e627, hx627_0, hx627_1, hl627_1, hi627_1⟩ := at_T68 HR0.out (ji12) p627 q627
 cases e627
 replace hx627_0 := lb_ HB hx627_0
 replace hx627_1 := lb_ HB hx627_1
 have HR627_1 := Aside0.mk hi627_1
 have HC627_1 := Aside0.mk hl627_1
 clear hi627_1 hl627_1
 replace p627 := eq_true p627
 replace q627 := eq_true q627
 go_wp2_with (first | ((with_reducible refine gate_callee (f := 105) rfl ?_); refine goesL_ (some 35) rfl rfl Try.func105 (by kernel_rfl) rfl #[.agg #[.int .i64 ((rd_T68 l0 (ji12)).f0), .slice A627_1 ((rd_T68 l0 (ji12)).f1).length c627_1]] rfl (by (try simp only [List.map_toArray, List.map_cons, List.map_nil]); first | done | (simp only [hji12]; rfl) | rfl | (simp only [List.length_drop, List.length_take]; rfl)) ?_; (with_reducible refine (spec_l12Pack.calls ((rd_T68 l0 (ji12)).f0) _ _ ((rd_T68 l0 (ji12)).f1) t628 t629 _ ?side1 ?side2 A15.out).mono ?_); (case side1 => exact qC (Kd.C_below HR627_1.out HB.out)); (case side2 => exact HC627_1.out); rintro e w17 ⟨v630, rfl, ho0, hb⟩; refine ⟨_, rfl, ?_⟩; replace HO625 := am_ (Kd.S_elder' (qS HO625) (Kd.R_base ho0) hb); have HO631 := am_ (Kd.R_lower ho0 (below_size (qB HB))); replace HB := bS_ HB hb; (try clear hb); (try clear ho0); obtain ⟨Ao19, co19, eo19⟩ := Kd.R_slice HO631.out; subst eo19) | ((with_reducible refine gate_builtin (b := .append) (xs := #[.tmp 27, .tmp 36]) rfl ?_); (try (refine gate_guard (by rfl) ?_; dsimp only)); at_builtin; refine Kd.S_append k68 (w0 := w) w.heap.size rfl (.tmp 27) (.tmp 36) 64 68 (.agg #[(.int .i64 0), (.slice none 0 0)]) 32 rfl Try.underlying64 info68 rfl (by decide) (by omega) v624 t623 (⟨t628, t629⟩ : S68) [.int .i64 t628, .slice Ao19 t629.length co19] (fun _ => True) (fun k_ => some k_ = (.slice Ao19 t629.length co19 : Value).ownBlock) rfl rfl ?aP (fun k_ hk_ => ((Kd.R_mono (ok' := fun k_ => ((fun _ => True)) k_ ∧ some k_ ≠ (v624 : Value).ownBlock) (Kd.R_apart' (HO631.out) (Kd.S_typed HO625.out) (by decide)) (fun k_ hk => ⟨trivial, hk.2⟩))).1 k_ hk_.symm) ?aF ?aO ?aB ?aS ?aL ?_; (case aP => exact k68_mkM _ _ _ (⟨t628, t629⟩ : S68) (Kd.R_mono (Kd.R_tight rfl (Kd.R_mono (ok' := fun k_ => ((fun _ => True)) k_ ∧ some k_ ≠ (v624 : Value).ownBlock) (Kd.R_apart' (HO631.out) (Kd.S_typed HO625.out) (by decide)) (fun k_ hk => ⟨trivial, hk.2⟩))) (fun _ h_ => h_))); (case aB => exact (qB HB)); (case aF => exact (fun _ _ => trivial)); (case aO => exact (tS (Kd.S_mono HO625.out (fun k_ hk => ⟨trivial, fun e_ => hk.2 e_⟩)))); (case aS => exact (below_size (qB HB))); (case aL => have := LMc16.out; omega); intro v633 w18 ho hb hg hat; rw [← Ny632.out] at ho; replace HB := am_ (hb); have HO634 := am_ (ho); clear HO625 HO631; clear ho hb hg hat))
 go_ret2
 exact ⟨_, by first | rfl | (simp [errW_none, errW_some] <;> rfl) | (simp only [← hji12]; first | rfl | (simp [errW_none, errW_some] <;> rfl)) | (simp [*, errW_none, errW_some] <;> rfl), qS HO634, qB HB⟩

end Go.Proofs.Ytiffahfpfgnjnaa.PFnWays
