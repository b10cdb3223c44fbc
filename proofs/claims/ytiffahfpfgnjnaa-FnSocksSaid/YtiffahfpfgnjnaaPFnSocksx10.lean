-- Written by a program of this session (myprint.py, over the kit's print): contracts of FnSocks
import Derived.Test.YtiffahfpfgnjnaaPFnSocksx0
import Derived.Test.YtiffahfpfgnjnaaPFnSocksx3
import Derived.Test.YtiffahfpfgnjnaaPFnSocksx9
namespace Go.Proofs.Ytiffahfpfgnjnaa.PFnSocks
open Go.RowKit Go.Proofs.YtiffahfpfgnjnaaW.PrintWords Go.Proofs.YtiffahfpfgnjnaaW.PrintLast Go.Proofs.YtiffahfpfgnjnaaW.PrintMore Go.Proofs.YtiffahfpfgnjnaaV
attribute [local go_sem] max2_int min2_int max_two min_two max_three min_three max_four min_four   -- for this text's walks alone
set_option linter.unusedVariables false
set_option linter.unusedSimpArgs false

/-! ### impl_Peek: function 26 -/
def impl_Peek.f (k : Nat) (a0_0 : Int) (a0_1 : Int) (a0_2 : Int) (a0_3 : Bool) (l0_4 : List Int) (l0_5 : List Int) (a0_6 : Int) (a0_7 : Int) : Option (Int × ByteArray × Int × Int) := (impl_GetFrame.f k l0_4).bind fun bt539 => (if bt539.2.2.2.2 = 1 then (if a0_3 = true then (if (l0_4.length : Int) > 0 then (some (0, (⟨#[]⟩ : ByteArray), 0, 2)) else (some (bt539.1, bt539.2.1, bt539.2.2.1, bt539.2.2.2.2))) else (some (bt539.1, bt539.2.1, bt539.2.2.1, bt539.2.2.2.2))) else (some (bt539.1, bt539.2.1, bt539.2.2.1, bt539.2.2.2.2)))
theorem impl_Peek.mono : ∀ a0 a1 a2 a3 a4 a5 a6 a7 k, LeO (impl_Peek.f k a0 a1 a2 a3 a4 a5 a6 a7) (impl_Peek.f (k + 1) a0 a1 a2 a3 a4 a5 a6 a7) := by
 intro a0 a1 a2 a3 a4 a5 a6 a7 k
 unfold impl_Peek.f
 have m0 := @impl_GetFrame.mono; exact mo_
set_option maxHeartbeats 8000000 in
set_option maxRecDepth 100000 in
theorem impl_Peek.calls (k : Nat) (a0_0 : Int) (a0_1 : Int) (a0_2 : Int) (a0_3 : Bool) (A0_4 : Option Addr) (c0_4 : Nat) (l0_4 : List Int) (A0_5 : Option Addr) (c0_5 : Nat) (l0_5 : List Int) (a0_6 : Int) (a0_7 : Int) (r1 : Int) (r2 : ByteArray) (r3 : Int) (r4 : Int) (w : World) (hr0_4 : Kd.C (Kd.int .u8) w A0_4 l0_4.length l0_4) (hc0_4 : l0_4.length ≤ c0_4) (hr0_5 : Kd.C (Kd.int .u8) w A0_5 l0_5.length l0_5) (hc0_5 : l0_5.length ≤ c0_5) (h : impl_Peek.f k a0_0 a0_1 a0_2 a0_3 l0_4 l0_5 a0_6 a0_7 = some (r1, r2, r3, r4)) :
  Calls Try.prog 26 #[.agg #[.int .i64 a0_0, .int .i64 a0_1, .int .i64 a0_2, .bool a0_3, .slice A0_4 l0_4.length c0_4, .slice A0_5 l0_5.length c0_5, .int .i64 a0_6, .int .i64 a0_7]] w fun e w' => e = .returned (.tuple #[.agg #[.int .i64 r1, .string r2, .int .i64 r3], .int .i64 r4]) ∧ Below w.heap.size w w' := by
 have hu41 := Try.underlying41
 have hu49 := Try.underlying49
 have HR0_4 := Aside0.mk hr0_4
 have HC0_4 := Aside0.mk hc0_4
 clear hr0_4 hc0_4
 have HR0_5 := Aside0.mk hr0_5
 have HC0_5 := Aside0.mk hc0_5
 clear hr0_5 hc0_5
 have HB := Aside0.mk (Below.refl w.heap.size w)
 have H := h
 unfold impl_Peek.f at H
 clear h
 replace H := bf_ H
 obtain ⟨f_, hf_, ⟨t539, t540, t541, t542, t543⟩, A2, H⟩ := H
 subst hf_
 (try dsimp only at H)
 have HC3 := Aside0.mk H
 clear H
 go_enter Try.func26, Try.ntmps26
 go_upto_region 2 with (first | ((with_reducible refine gate_dst (N := 1) rfl ?_); (try (refine gate_guard (by rfl) ?_; dsimp only)); refine bx_ (N := 1) (cs := #[.int .i64 a0_0, .int .i64 a0_1, .int .i64 a0_2, .bool a0_3, .slice A0_4 l0_4.length c0_4, .slice A0_5 l0_5.length c0_5, .int .i64 a0_6, .int .i64 a0_7]) (t := 41) ?_; intro gb537 hg w4 hbox hb; have BK537 := am_ (hbox); have GW537 := gA_ hg HB; have GE537 := GW537; have IGE537 := gI_ GE537; replace HB := bS_ HB hb; clear hb hbox hg) | ((with_reducible refine gate_dst (N := 2) rfl ?_); (try (refine gate_guard (by rfl) ?_; dsimp only)); refine bx_ (N := 2) (cs := #[.int .i64 0, .string (⟨#[]⟩ : ByteArray), .int .i64 0]) (t := 49) ?_; intro gb538 hg w5 hbox hb; have BK538 := am_ (hbox); have GW538 := gA_ hg HB; have GE538 := GW538; have IGE538 := gI_ GE538; replace HB := bS_ HB hb; have NB537_538 := am_ ((gN_ hg (qK BK537))); have NB538_537 := am_ ((gM_ hg (qK BK537))); replace BK537 := bK_ BK537 hb; clear hb hbox hg; have hnb6 := NB537_538.out; have hnc6 := NB538_537.out; (try clear zK537); have zK537 := cz8 BK537.out; (try clear fK537); have fK537 := fz8 BK537.out) | ((with_reducible refine gate_callee (f := 94) rfl ?_); refine gl_ (some 10) Try.func94 #[.slice A0_4 l0_4.length c0_4] ?_; (with_reducible refine (impl_GetFrame.calls k _ _ l0_4 t539 t540 t541 t542 t543 _ ?side1 ?side2 A2.out).mono ?_); (case side1 => exact qC (Kd.C_below HR0_4.out HB.out)); (case side2 => exact HC0_4.out); rintro e w8 ⟨rfl, hb⟩; refine ⟨_, rfl, ?_⟩; replace BK537 := bK_ BK537 hb; replace BK538 := bK_ BK538 hb; replace HB := bS_ HB hb; (try clear hb)) | ((with_reducible refine gate_dst (N := 4) rfl ?_); (try (refine gate_guard (by rfl) ?_; dsimp only)); refine bx_ (N := 4) (cs := #[.int .i64 0, .string (⟨#[]⟩ : ByteArray), .int .i64 0]) (t := 49) ?_; intro gb544 hg w9 hbox hb; have BK544 := am_ (hbox); have GW544 := gA_ hg HB; have GE544 := GW544; have IGE544 := gI_ GE544; replace HB := bS_ HB hb; have NB537_544 := am_ ((gN_ hg (qK BK537))); have NB544_537 := am_ ((gM_ hg (qK BK537))); replace BK537 := bK_ BK537 hb; have NB538_544 := am_ ((gN_ hg (qK BK538))); have NB544_538 := am_ ((gM_ hg (qK BK538))); replace BK538 := bK_ BK538 hb; clear hb hbox hg; have hnb10 := NB544_537.out; have hnc10 := NB537_544.out; have hnb11 := NB544_538.out; have hnc11 := NB538_544.out; (try clear zK544); have zK544 := cz3 BK544.out; (try clear fK544); have fK544 := fz3 BK544.out))
 (try simp only [Act.put, List.setIfInBounds_toArray, List.set_cons_zero, List.set_cons_succ])
 have H := HC3.out
 clear HC3
 by_cases c13 : t543 = 1
 rotate_left
 ·
  rw [if_neg c13] at H
  have c13b0 : (t543 == 1) = false := beq_eq_false_iff_ne.mpr c13
  have c13b1 : (t543 != 1) = true := bne_iff_ne.mpr c13
  simp only [Option.some.injEq, Prod.mk.injEq] at H
  obtain ⟨rfl, rfl, rfl, rfl⟩ := H
  have hnb33 := NB544_537.out
  have hnc33 := NB537_544.out
  have hnb34 := NB544_538.out
  have hnc34 := NB538_544.out
  (try clear zK544)
  have zK544 := cz3 BK544.out
  (try clear fK544)
  have fK544 := fz3 BK544.out
  have hnb36 := NB538_537.out
  have hnc36 := NB537_538.out
  (try clear zK538)
  have zK538 := cz3 BK538.out
  (try clear fK538)
  have fK538 := fz3 BK538.out
  go_wp2
  refine bodyPost_ret (results_ct rfl _ _ gb538 49 #[.int .i64 t539, .string t540, .int .i64 t541] (0, 0) _ rfl (by (with_reducible repeat (first | refine blk_drewN ?_ _ | refine blk_drew ?_ | refine blk_alloc ?_ _)); refine blk_put (cs := #[.int .i64 t539, .string t540, .int .i64 0]) ?_ 2 _ rfl; (with_reducible repeat (first | refine blk_drewN ?_ _ | refine blk_drew ?_ | refine blk_alloc ?_ _)); refine blk_put (cs := #[.int .i64 t539, .string (⟨#[]⟩ : ByteArray), .int .i64 0]) ?_ 1 _ rfl; (with_reducible repeat (first | refine blk_drewN ?_ _ | refine blk_drew ?_ | refine blk_alloc ?_ _)); refine blk_put (cs := #[.int .i64 0, .string (⟨#[]⟩ : ByteArray), .int .i64 0]) ?_ 0 _ rfl; (with_reducible repeat (first | refine blk_drewN ?_ _ | refine blk_drew ?_ | refine blk_alloc ?_ _)); refine blk_far ?_ NB538_544.out _; (with_reducible repeat (first | refine blk_drewN ?_ _ | refine blk_drew ?_ | refine blk_alloc ?_ _)); refine blk_far ?_ NB538_544.out _; (with_reducible repeat (first | refine blk_drewN ?_ _ | refine blk_drew ?_ | refine blk_alloc ?_ _)); refine blk_far ?_ NB538_544.out _; (with_reducible repeat (first | refine blk_drewN ?_ _ | refine blk_drew ?_ | refine blk_alloc ?_ _)); exact BK538.out) Try.underlying49 rfl (by kernel_rfl)) rfl ?_
  exact ⟨by first | rfl | (simp [errW_none, errW_some] <;> rfl) | (simp [*, errW_none, errW_some] <;> rfl), qB HB⟩
 rw [if_pos c13] at H
 have c13b0 : (t543 == 1) = true := beq_iff_eq.mpr c13
 have c13b1 : (t543 != 1) = false := bne_eq_false_iff_eq.mpr c13
 clear c13
 by_cases c14 : a0_3 = true
 rotate_left
 ·
  replace c14 := Bool.eq_false_iff.mpr c14
  subst c14
  rw [if_neg (show ¬ (false = true) by decide)] at H
  simp only [Option.some.injEq, Prod.mk.injEq] at H
  obtain ⟨rfl, rfl, rfl, rfl⟩ := H
  have hnb27 := NB537_538.out
  have hnc27 := NB538_537.out
  have hnb28 := NB537_544.out
  have hnc28 := NB544_537.out
  (try clear zK537)
  have zK537 := cz8 BK537.out
  (try clear fK537)
  have fK537 := fz8 BK537.out
  have hnb30 := NB544_538.out
  have hnc30 := NB538_544.out
  (try clear zK544)
  have zK544 := cz3 BK544.out
  (try clear fK544)
  have fK544 := fz3 BK544.out
  (try clear zK538)
  have zK538 := cz3 BK538.out
  (try clear fK538)
  have fK538 := fz3 BK538.out
  go_wp2
  refine bodyPost_ret (results_ct rfl _ _ gb538 49 #[.int .i64 t539, .string t540, .int .i64 t541] (0, 0) _ rfl (by (with_reducible repeat (first | refine blk_drewN ?_ _ | refine blk_drew ?_ | refine blk_alloc ?_ _)); refine blk_put (cs := #[.int .i64 t539, .string t540, .int .i64 0]) ?_ 2 _ rfl; (with_reducible repeat (first | refine blk_drewN ?_ _ | refine blk_drew ?_ | refine blk_alloc ?_ _)); refine blk_put (cs := #[.int .i64 t539, .string (⟨#[]⟩ : ByteArray), .int .i64 0]) ?_ 1 _ rfl; (with_reducible repeat (first | refine blk_drewN ?_ _ | refine blk_drew ?_ | refine blk_alloc ?_ _)); refine blk_put (cs := #[.int .i64 0, .string (⟨#[]⟩ : ByteArray), .int .i64 0]) ?_ 0 _ rfl; (with_reducible repeat (first | refine blk_drewN ?_ _ | refine blk_drew ?_ | refine blk_alloc ?_ _)); refine blk_far ?_ NB538_544.out _; (with_reducible repeat (first | refine blk_drewN ?_ _ | refine blk_drew ?_ | refine blk_alloc ?_ _)); refine blk_far ?_ NB538_544.out _; (with_reducible repeat (first | refine blk_drewN ?_ _ | refine blk_drew ?_ | refine blk_alloc ?_ _)); refine blk_far ?_ NB538_544.out _; (with_reducible repeat (first | refine blk_drewN ?_ _ | refine blk_drew ?_ | refine blk_alloc ?_ _)); exact BK538.out) Try.underlying49 rfl (by kernel_rfl)) rfl ?_
  exact ⟨by first | rfl | (simp [errW_none, errW_some] <;> rfl) | (simp [*, errW_none, errW_some] <;> rfl), qB HB⟩
 subst c14
 rw [if_pos rfl] at H
 by_cases c15 : (l0_4.length : Int) > 0
 ·
  rw [if_pos c15] at H
  have c15b0 : decide (0 < (l0_4.length : Int)) = true := decide_eq_true c15
  have c15b1 : decide (0 < l0_4.length) = true := decide_eq_true (by omega)
  clear c15
  simp only [Option.some.injEq, Prod.mk.injEq] at H
  obtain ⟨rfl, rfl, rfl, rfl⟩ := H
  have hnb16 := NB537_538.out
  have hnc16 := NB538_537.out
  have hnb17 := NB537_544.out
  have hnc17 := NB544_537.out
  (try clear zK537)
  have zK537 := cz8 BK537.out
  (try clear fK537)
  have fK537 := fz8 BK537.out
  have hnb19 := NB538_544.out
  have hnc19 := NB544_538.out
  (try clear zK538)
  have zK538 := cz3 BK538.out
  (try clear fK538)
  have fK538 := fz3 BK538.out
  go_wp2
  refine bodyPost_ret (results_ct rfl _ _ gb538 49 #[.int .i64 0, .string (⟨#[]⟩ : ByteArray), .int .i64 0] (0, 0) _ rfl (by (with_reducible repeat (first | refine blk_drewN ?_ _ | refine blk_drew ?_ | refine blk_alloc ?_ _)); refine blk_put (cs := #[.int .i64 0, .string (⟨#[]⟩ : ByteArray), .int .i64 0]) ?_ 2 _ rfl; (with_reducible repeat (first | refine blk_drewN ?_ _ | refine blk_drew ?_ | refine blk_alloc ?_ _)); refine blk_put (cs := #[.int .i64 0, .string (⟨#[]⟩ : ByteArray), .int .i64 0]) ?_ 1 _ rfl; (with_reducible repeat (first | refine blk_drewN ?_ _ | refine blk_drew ?_ | refine blk_alloc ?_ _)); refine blk_put (cs := #[.int .i64 0, .string (⟨#[]⟩ : ByteArray), .int .i64 0]) ?_ 0 _ rfl; (with_reducible repeat (first | refine blk_drewN ?_ _ | refine blk_drew ?_ | refine blk_alloc ?_ _)); refine blk_far ?_ NB538_544.out _; (with_reducible repeat (first | refine blk_drewN ?_ _ | refine blk_drew ?_ | refine blk_alloc ?_ _)); refine blk_far ?_ NB538_544.out _; (with_reducible repeat (first | refine blk_drewN ?_ _ | refine blk_drew ?_ | refine blk_alloc ?_ _)); refine blk_far ?_ NB538_544.out _; (with_reducible repeat (first | refine blk_drewN ?_ _ | refine blk_drew ?_ | refine blk_alloc ?_ _)); exact BK538.out) Try.underlying49 rfl (by kernel_rfl)) rfl ?_
  exact ⟨by first | rfl | (simp [errW_none, errW_some] <;> rfl) | (simp [*, errW_none, errW_some] <;> rfl), qB HB⟩
 rw [if_neg c15] at H
 have c15b0 : decide (0 < (l0_4.length : Int)) = false := decide_eq_false c15
 have c15b1 : decide (0 < l0_4.length) = false := decide_eq_false (by omega)
 clear c15
 simp only [Option.some.injEq, Prod.mk.injEq] at H
 obtain ⟨rfl, rfl, rfl, rfl⟩ := H
 have hnb21 := NB537_538.out
 have hnc21 := NB538_537.out
 have hnb22 := NB537_544.out
 have hnc22 := NB544_537.out
 (try clear zK537)
 have zK537 := cz8 BK537.out
 (try clear fK537)
 have fK537 := fz8 BK537.out
 have hnb24 := NB544_538.out
 have hnc24 := NB538_544.out
 (try clear zK544)
 have zK544 := cz3 BK544.out
 (try clear fK544)
 have fK544 := fz3 BK544.out
 (try clear zK538)
 have zK538 := cz3 BK538.out
 (try clear fK538)
 have fK538 := fz3 BK538.out
 go_wp2
 refine bodyPost_ret (results_ct rfl _ _ gb538 49 #[.int .i64 t539, .string t540, .int .i64 t541] (0, 0) _ rfl (by (with_reducible repeat (first | refine blk_drewN ?_ _ | refine blk_drew ?_ | refine blk_alloc ?_ _)); refine blk_put (cs := #[.int .i64 t539, .string t540, .int .i64 0]) ?_ 2 _ rfl; (with_reducible repeat (first | refine blk_drewN ?_ _ | refine blk_drew ?_ | refine blk_alloc ?_ _)); refine blk_put (cs := #[.int .i64 t539, .string (⟨#[]⟩ : ByteArray), .int .i64 0]) ?_ 1 _ rfl; (with_reducible repeat (first | refine blk_drewN ?_ _ | refine blk_drew ?_ | refine blk_alloc ?_ _)); refine blk_put (cs := #[.int .i64 0, .string (⟨#[]⟩ : ByteArray), .int .i64 0]) ?_ 0 _ rfl; (with_reducible repeat (first | refine blk_drewN ?_ _ | refine blk_drew ?_ | refine blk_alloc ?_ _)); refine blk_far ?_ NB538_544.out _; (with_reducible repeat (first | refine blk_drewN ?_ _ | refine blk_drew ?_ | refine blk_alloc ?_ _)); refine blk_far ?_ NB538_544.out _; (with_reducible repeat (first | refine blk_drewN ?_ _ | refine blk_drew ?_ | refine blk_alloc ?_ _)); refine blk_far ?_ NB538_544.out _; (with_reducible repeat (first | refine blk_drewN ?_ _ | refine blk_drew ?_ | refine blk_alloc ?_ _)); exact BK538.out) Try.underlying49 rfl (by kernel_rfl)) rfl ?_
 exact ⟨by first | rfl | (simp [errW_none, errW_some] <;> rfl) | (simp [*, errW_none, errW_some] <;> rfl), qB HB⟩

/-! ### spec_GetFrame: function 95 -/
def spec_GetFrame.f (k : Nat) (l0 : List Int) : Option (Int × ByteArray × Int × Int × Int) := if (l0.length : Int) = 0 then (some (0, (⟨#[]⟩ : ByteArray), 0, 0, 1)) else (if 0 < (l0.length : Int) then ((spec_l1In.f (wrap64 (rd l0 0)) 1 6).bind fun t548 => (if t548 = true then (if (wrap64 (rd l0 0)) = 3 then ((spec_FrameOk.f k (wrap64 (rd l0 0)) (⟨#[]⟩ : ByteArray) 0).bind fun t549 => (if t549 = true then (some (wrap64 (rd l0 0), (⟨#[]⟩ : ByteArray), 0, 1, 0)) else (some (0, (⟨#[]⟩ : ByteArray), 0, 0, 2)))) else (if (l0.length : Int) = 1 then (some (0, (⟨#[]⟩ : ByteArray), 0, 0, 1)) else (if (wrap64 (rd l0 0)) = 5 then (if 1 < (l0.length : Int) then ((spec_FrameOk.f k (wrap64 (rd l0 0)) (⟨#[]⟩ : ByteArray) (wrap64 (rd l0 1))).bind fun t551 => (if t551 = true then (some (wrap64 (rd l0 0), (⟨#[]⟩ : ByteArray), wrap64 (rd l0 1), 2, 0)) else (some (0, (⟨#[]⟩ : ByteArray), 0, 0, 2)))) else (none)) else (if 1 < (l0.length : Int) then (if (wrap64 (rd l0 1)) > 100 then (some (0, (⟨#[]⟩ : ByteArray), 0, 0, 2)) else (if (wrap64 (rd l0 1)) > (wrap64 ((l0.length : Int) - 2)) then (some (0, (⟨#[]⟩ : ByteArray), 0, 0, 1)) else (if 2 ≤ (wrap64 (2 + (wrap64 (rd l0 1)))) then (if (wrap64 (2 + (wrap64 (rd l0 1)))) ≤ (l0.length : Int) then ((spec_FrameOk.f k (wrap64 (rd l0 0)) (strOfNums ((l0.take ((wrap64 (2 + (wrap64 (rd l0 1)))) : Int).toNat).drop 2)) 0).bind fun t554 => (if t554 = true then (some (wrap64 (rd l0 0), strOfNums ((l0.take ((wrap64 (2 + (wrap64 (rd l0 1)))) : Int).toNat).drop 2), 0, wrap64 (2 + (wrap64 (rd l0 1))), 0)) else (some (0, (⟨#[]⟩ : ByteArray), 0, 0, 2)))) else (none)) else (none)))) else (none))))) else (some (0, (⟨#[]⟩ : ByteArray), 0, 0, 2)))) else (none))
theorem spec_GetFrame.mono : ∀ a0 k, LeO (spec_GetFrame.f k a0) (spec_GetFrame.f (k + 1) a0) := by
 intro a0 k
 unfold spec_GetFrame.f
 have m0 := @spec_FrameOk.mono; exact mo_
set_option maxHeartbeats 8000000 in
set_option maxRecDepth 100000 in
theorem spec_GetFrame.calls (k : Nat) (A0 : Option Addr) (c0 : Nat) (l0 : List Int) (r1 : Int) (r2 : ByteArray) (r3 : Int) (r4 : Int) (r5 : Int) (w : World) (hr0 : Kd.C (Kd.int .u8) w A0 l0.length l0) (hc0 : l0.length ≤ c0) (h : spec_GetFrame.f k l0 = some (r1, r2, r3, r4, r5)) :
  Calls Try.prog 95 #[.slice A0 l0.length c0] w fun e w' => e = .returned (.tuple #[.agg #[.int .i64 r1, .string r2, .int .i64 r3], .int .i64 r4, .int .i64 r5]) ∧ Below w.heap.size w w' := by
 have hu49 := Try.underlying49
 have HR0 := Aside0.mk hr0
 have HC0 := Aside0.mk hc0
 clear hr0 hc0
 have HB := Aside0.mk (Below.refl w.heap.size w)
 have H := h
 unfold spec_GetFrame.f at H
 clear h
 have HC2 := Aside0.mk H
 clear H
 go_enter Try.func95, Try.ntmps95
 go_upto_if 10 with (first | ((with_reducible refine gate_dst (N := 2) rfl ?_); refine bx_ (N := 2) (cs := #[.int .i64 0, .string (⟨#[]⟩ : ByteArray), .int .i64 0]) (t := 49) ?_; intro gb545 hg w3 hbox hb; have BK545 := am_ (hbox); have GW545 := gA_ hg HB; have GE545 := GW545; have IGE545 := gI_ GE545; replace HB := bS_ HB hb; clear hb hbox hg))
 (try simp only [Act.put, List.setIfInBounds_toArray, List.set_cons_zero, List.set_cons_succ])
 have H := HC2.out
 clear HC2
 by_cases c4 : (l0.length : Int) = 0
 ·
  rw [if_pos c4] at H
  have c4b0 : ((l0.length : Int) == 0) = true := beq_iff_eq.mpr c4
  have c4b1 : ((l0.length : Int) != 0) = false := bne_eq_false_iff_eq.mpr c4
  clear c4
  (first | rw [c4b0] | rw [c4b1] | (simp only [i64_w, i32_w]; rw [c4b0]) | skip)
  simp only [Option.some.injEq, Prod.mk.injEq] at H
  obtain ⟨rfl, rfl, rfl, rfl, rfl⟩ := H
  (try clear zK545)
  have zK545 := cz3 BK545.out
  (try clear fK545)
  have fK545 := fz3 BK545.out
  go_wp2
  refine bodyPost_ret (results_ctt rfl _ _ gb545 49 #[.int .i64 0, .string (⟨#[]⟩ : ByteArray), .int .i64 0] (0, 0) _ rfl (by exact blk_all3 (qK BK545)) Try.underlying49 rfl (by kernel_rfl)) rfl ?_
  exact ⟨er_, qB HB⟩
 rw [if_neg c4] at H
 have c4b0 : ((l0.length : Int) == 0) = false := beq_eq_false_iff_ne.mpr c4
 have c4b1 : ((l0.length : Int) != 0) = true := bne_iff_ne.mpr c4
 have c4b2 : ¬ (l0 = []) := fun h_ => c4 (by rw [h_]; rfl)
 (first | rw [c4b0] | rw [c4b1] | rw [c4b2] | (simp only [i64_w, i32_w]; rw [c4b0]) | skip)
 by_cases c6 : 0 < (l0.length : Int)
 case neg => exact nn_ c6 H
 rw [if_pos c6] at H
 have c6b0 : decide (0 < (l0.length : Int)) = true := decide_eq_true c6
 have c6b1 : decide (0 < l0.length) = true := decide_eq_true (by omega)
 clear c6
 replace H := bd_ H
 obtain ⟨t548, A7, H⟩ := H
 have HC8 := Aside0.mk H
 clear H
 have p546 : 0 ≤ (0 : Int) := (by omega)
 have q546 : 0 < (l0.length : Int) := od_
 obtain ⟨ad546, e546, hx546_0⟩ := Kd.at_int HR0.out 0 p546 q546
 cases e546
 have qi546 : (0 < l0.length) = True := eq_true (by omega)
 (try rw [show ((0 : Int)).toNat = 0 from rfl] at hx546_0)
 (try rw [Addr.add_zero'] at hx546_0)
 replace hx546_0 := lb_ HB hx546_0
 replace p546 := eq_true p546
 replace q546 := eq_true q546
 go_upto_if 38 with (first | ((with_reducible refine gate_dst (N := 5) rfl ?_); refine bx_ (N := 5) (cs := #[.int .i64 0, .string (⟨#[]⟩ : ByteArray), .int .i64 0]) (t := 49) ?_; intro gb547 hg w9 hbox hb; have BK547 := am_ (hbox); have GW547 := gA_ hg HB; have GE547 := GW547; have IGE547 := gI_ GE547; replace HB := bS_ HB hb; have NB545_547 := am_ ((gN_ hg (qK BK545))); have NB547_545 := am_ ((gM_ hg (qK BK545))); replace BK545 := bK_ BK545 hb; clear hb hbox hg; have hnb10 := NB547_545.out; have hnc10 := NB545_547.out; (try clear zK547); have zK547 := cz3 BK547.out; (try clear fK547); have fK547 := fz3 BK547.out) | ((with_reducible refine gate_callee (f := 83) rfl ?_); refine gl_ (some 41) Try.func83 #[.int .i64 (wrap64 (rd l0 0)), .int .i64 1, .int .i64 6] ?_; (with_reducible refine (spec_l1In.calls (wrap64 (rd l0 0)) 1 6 t548 _ A7.out).mono ?_); rintro e w' ⟨rfl, ⟨nd, rfl⟩⟩; refine ⟨_, rfl, ?_⟩))
 (try simp only [Act.put, List.setIfInBounds_toArray, List.set_cons_zero, List.set_cons_succ])
 have n0_ : Aside0 ((((w9.setCell ⟨gb547, 0, none⟩ (.int .i64 (wrap64 (rd l0 0)))).setCell ⟨gb547, 1, none⟩ (.string (⟨#[]⟩ : ByteArray))).setCell ⟨gb547, 2, none⟩ (.int .i64 0)).heap[gb545]? = some (.cells #[.int .i64 0, .string (⟨#[]⟩ : ByteArray), .int .i64 0] 49 (0, 0))) := ⟨by (with_reducible repeat (first | refine blk_drewN ?_ _ | refine blk_drew ?_ | refine blk_alloc ?_ _)); refine blk_far3 ?_ NB545_547.out; exact qK BK545⟩
 have n1_ : Aside0 ((((w9.setCell ⟨gb547, 0, none⟩ (.int .i64 (wrap64 (rd l0 0)))).setCell ⟨gb547, 1, none⟩ (.string (⟨#[]⟩ : ByteArray))).setCell ⟨gb547, 2, none⟩ (.int .i64 0)).heap[gb547]? = some (.cells #[.int .i64 (wrap64 (rd l0 0)), .string (⟨#[]⟩ : ByteArray), .int .i64 0] 49 (0, 0))) := ⟨by (with_reducible repeat (first | refine blk_drewN ?_ _ | refine blk_drew ?_ | refine blk_alloc ?_ _)); refine blk_all3 (show _ = some (Go.Obj.cells #[.int .i64 0, .string (⟨#[]⟩ : ByteArray), .int .i64 0] _ (0, 0)) from ?_); exact qK BK547⟩
 have n2_ : Aside0 (Below w.heap.size w (((w9.setCell ⟨gb547, 0, none⟩ (.int .i64 (wrap64 (rd l0 0)))).setCell ⟨gb547, 1, none⟩ (.string (⟨#[]⟩ : ByteArray))).setCell ⟨gb547, 2, none⟩ (.int .i64 0))) := ⟨qB HB⟩
 (try clear BK545)
 (try clear BK547)
 (try clear HB)
 generalize (((w9.setCell ⟨gb547, 0, none⟩ (.int .i64 (wrap64 (rd l0 0)))).setCell ⟨gb547, 1, none⟩ (.string (⟨#[]⟩ : ByteArray))).setCell ⟨gb547, 2, none⟩ (.int .i64 0)) = w12 at n0_ n1_ n2_ ⊢
 have BK545 := n0_
 have BK547 := n1_
 have HB := n2_
 clear n0_ n1_ n2_
 (try (rw [drewN_self w12]; generalize hq_ : World.drewN w12 _ = w12; have n0_ : Aside0 (w12.heap[gb545]? = some (.cells #[.int .i64 0, .string (⟨#[]⟩ : ByteArray), .int .i64 0] 49 (0, 0))) := ⟨by rw [← hq_]; exact (qK BK545)⟩; have n1_ : Aside0 (w12.heap[gb547]? = some (.cells #[.int .i64 (wrap64 (rd l0 0)), .string (⟨#[]⟩ : ByteArray), .int .i64 0] 49 (0, 0))) := ⟨by rw [← hq_]; exact (qK BK547)⟩; have n2_ : Aside0 (Below w.heap.size w w12) := ⟨by rw [← hq_]; exact (qB HB)⟩; clear BK545 BK547 HB hq_; have BK545 := n0_; have BK547 := n1_; have HB := n2_; clear n0_ n1_ n2_))
 have H := HC8.out
 clear HC8
 by_cases c13 : t548 = true
 rotate_left
 ·
  replace c13 := Bool.eq_false_iff.mpr c13
  subst c13
  rw [if_neg (show ¬ (false = true) by decide)] at H
  simp only [Option.some.injEq, Prod.mk.injEq] at H
  obtain ⟨rfl, rfl, rfl, rfl, rfl⟩ := H
  have hnb67 := NB545_547.out
  have hnc67 := NB547_545.out
  (try clear zK545)
  have zK545 := cz3 BK545.out
  (try clear fK545)
  have fK545 := fz3 BK545.out
  go_wp2
  refine bodyPost_ret (results_ctt rfl _ _ gb545 49 #[.int .i64 0, .string (⟨#[]⟩ : ByteArray), .int .i64 0] (0, 0) _ rfl (by exact blk_all3 (qK BK545)) Try.underlying49 rfl (by kernel_rfl)) rfl ?_
  exact ⟨er_, qB HB⟩
 subst c13
 rw [if_pos rfl] at H
 by_cases c14 : (wrap64 (rd l0 0)) = 3
 ·
  rw [if_pos c14] at H
  have c14b0 : ((wrap64 (rd l0 0)) == 3) = true := beq_iff_eq.mpr c14
  have c14b1 : ((wrap64 (rd l0 0)) != 3) = false := bne_eq_false_iff_eq.mpr c14
  clear c14
  (first | rw [c14b0] | rw [c14b1] | (simp only [i64_w, i32_w]; rw [c14b0]) | skip)
  replace H := bd_ H
  obtain ⟨t549, A15, H⟩ := H
  have HC16 := Aside0.mk H
  clear H
  have hnb17 := NB547_545.out
  have hnc17 := NB545_547.out
  (try clear zK547)
  have zK547 := cz3 BK547.out
  (try clear fK547)
  have fK547 := fz3 BK547.out
  go_upto_if 64 with (first | ((with_reducible refine gate_callee (f := 123) rfl ?_); refine gl_ (some 63) Try.func123 #[.agg #[.int .i64 (wrap64 (rd l0 0)), .string (⟨#[]⟩ : ByteArray), .int .i64 0]] ?_; (with_reducible refine (spec_FrameOk.calls k (wrap64 (rd l0 0)) (⟨#[]⟩ : ByteArray) 0 t549 _ A15.out).mono ?_); rintro e w19 ⟨rfl, hb⟩; refine ⟨_, rfl, ?_⟩; replace BK545 := bK_ BK545 hb; replace BK547 := bK_ BK547 hb; replace HB := bS_ HB hb; (try clear hb)))
  (try simp only [Act.put, List.setIfInBounds_toArray, List.set_cons_zero, List.set_cons_succ])
  have H := HC16.out
  clear HC16
  by_cases c20 : t549 = true
  rotate_left
  ·
   replace c20 := Bool.eq_false_iff.mpr c20
   subst c20
   rw [if_neg (show ¬ (false = true) by decide)] at H
   simp only [Option.some.injEq, Prod.mk.injEq] at H
   obtain ⟨rfl, rfl, rfl, rfl, rfl⟩ := H
   have hnb24 := NB545_547.out
   have hnc24 := NB547_545.out
   (try clear zK545)
   have zK545 := cz3 BK545.out
   (try clear fK545)
   have fK545 := fz3 BK545.out
   go_wp2
   refine bodyPost_ret (results_ctt rfl _ _ gb545 49 #[.int .i64 0, .string (⟨#[]⟩ : ByteArray), .int .i64 0] (0, 0) _ rfl (by exact blk_all3 (qK BK545)) Try.underlying49 rfl (by kernel_rfl)) rfl ?_
   exact ⟨er_, qB HB⟩
  subst c20
  rw [if_pos rfl] at H
  simp only [Option.some.injEq, Prod.mk.injEq] at H
  obtain ⟨rfl, rfl, rfl, rfl, rfl⟩ := H
  have hnb21 := NB547_545.out
  have hnc21 := NB545_547.out
  (try clear zK547)
  have zK547 := cz3 BK547.out
  (try clear fK547)
  have fK547 := fz3 BK547.out
  (try clear zK545)
  have zK545 := cz3 BK545.out
  (try clear fK545)
  have fK545 := fz3 BK545.out
  go_wp2
  refine bodyPost_ret (results_ctt rfl _ _ gb545 49 #[.int .i64 (wrap64 (rd l0 0)), .string (⟨#[]⟩ : ByteArray), .int .i64 0] (0, 0) _ rfl (by exact blk_all3 (qK BK545)) Try.underlying49 rfl (by kernel_rfl)) rfl ?_
  exact ⟨er_, qB HB⟩
 rw [if_neg c14] at H
 have c14b0 : ((wrap64 (rd l0 0)) == 3) = false := beq_eq_false_iff_ne.mpr c14
 have c14b1 : ((wrap64 (rd l0 0)) != 3) = true := bne_iff_ne.mpr c14
 (first | rw [c14b0] | rw [c14b1] | (simp only [i64_w, i32_w]; rw [c14b0]) | skip)
 by_cases c26 : (l0.length : Int) = 1
 ·
  rw [if_pos c26] at H
  have c26b0 : ((l0.length : Int) == 1) = true := beq_iff_eq.mpr c26
  have c26b1 : ((l0.length : Int) != 1) = false := bne_eq_false_iff_eq.mpr c26
  clear c26
  simp only [Option.some.injEq, Prod.mk.injEq] at H
  obtain ⟨rfl, rfl, rfl, rfl, rfl⟩ := H
  have hnb27 := NB547_545.out
  have hnc27 := NB545_547.out
  (try clear zK547)
  have zK547 := cz3 BK547.out
  (try clear fK547)
  have fK547 := fz3 BK547.out
  (try clear zK545)
  have zK545 := cz3 BK545.out
  (try clear fK545)
  have fK545 := fz3 BK545.out
  go_wp2
  refine bodyPost_ret (results_ctt rfl _ _ gb545 49 #[.int .i64 0, .string (⟨#[]⟩ : ByteArray), .int .i64 0] (0, 0) _ rfl (by exact blk_all3 (qK BK545)) Try.underlying49 rfl (by kernel_rfl)) rfl ?_
  exact ⟨er_, qB HB⟩
 rw [if_neg c26] at H
 have c26b0 : ((l0.length : Int) == 1) = false := beq_eq_false_iff_ne.mpr c26
 have c26b1 : ((l0.length : Int) != 1) = true := bne_iff_ne.mpr c26
 by_cases c30 : (wrap64 (rd l0 0)) = 5
 ·
  rw [if_pos c30] at H
  have c30b0 : ((wrap64 (rd l0 0)) == 5) = true := beq_iff_eq.mpr c30
  have c30b1 : ((wrap64 (rd l0 0)) != 5) = false := bne_eq_false_iff_eq.mpr c30
  clear c30
  by_cases c31 : 1 < (l0.length : Int)
  case neg => exact nn_ c31 H
  rw [if_pos c31] at H
  have c31b0 : decide (1 < (l0.length : Int)) = true := decide_eq_true c31
  have c31b1 : decide (1 < l0.length) = true := decide_eq_true (by omega)
  clear c31
  replace H := bd_ H
  obtain ⟨t551, A32, H⟩ := H
  have HC33 := Aside0.mk H
  clear H
  have hnb34 := NB547_545.out
  have hnc34 := NB545_547.out
  (try clear zK547)
  have zK547 := cz3 BK547.out
  (try clear fK547)
  have fK547 := fz3 BK547.out
  have p550 : 0 ≤ (1 : Int) := (by omega)
  have q550 : 1 < (l0.length : Int) := od_
  obtain ⟨ad550, e550, hx550_0⟩ := Kd.at_int HR0.out 1 p550 q550
  obtain rfl : ad546 = ad550 := (by injection e550)
  (try simp only [show (1 : Int).toNat = 1 from rfl, Nat.reduceMul, Nat.reduceEqDiff, Go.Addr.add, ↓reduceIte] at hx550_0)
  have qi550 : (1 < l0.length) = True := eq_true (by omega)
  (try rw [show ((1 : Int)).toNat = 1 from rfl] at hx550_0)
  replace hx550_0 := lb_ HB hx550_0
  replace p550 := eq_true p550
  replace q550 := eq_true q550
  go_upto_if 64 with (first | ((with_reducible refine gate_callee (f := 123) rfl ?_); refine gl_ (some 63) Try.func123 #[.agg #[.int .i64 (wrap64 (rd l0 0)), .string (⟨#[]⟩ : ByteArray), .int .i64 (wrap64 (rd l0 1))]] ?_; (with_reducible refine (spec_FrameOk.calls k (wrap64 (rd l0 0)) (⟨#[]⟩ : ByteArray) (wrap64 (rd l0 1)) t551 _ A32.out).mono ?_); rintro e w36 ⟨rfl, hb⟩; refine ⟨_, rfl, ?_⟩; replace BK545 := am_ (blk_below (g := gb545) (o := .cells #[.int .i64 0, .string (⟨#[]⟩ : ByteArray), .int .i64 0] 49 (0, 0)) (by (with_reducible repeat (first | refine blk_drewN ?_ _ | refine blk_drew ?_ | refine blk_alloc ?_ _)); refine blk_far ?_ NB545_547.out _; exact qK BK545) hb); replace BK547 := am_ (blk_below (g := gb547) (o := .cells #[.int .i64 (wrap64 (rd l0 0)), .string (⟨#[]⟩ : ByteArray), .int .i64 (wrap64 (rd l0 1))] 49 (0, 0)) (by (with_reducible repeat (first | refine blk_drewN ?_ _ | refine blk_drew ?_ | refine blk_alloc ?_ _)); refine blk_put (cs := #[.int .i64 (wrap64 (rd l0 0)), .string (⟨#[]⟩ : ByteArray), .int .i64 0]) ?_ 2 _ rfl; exact qK BK547) hb); replace HB := bS_ HB hb; (try clear hb)))
  (try simp only [Act.put, List.setIfInBounds_toArray, List.set_cons_zero, List.set_cons_succ])
  have H := HC33.out
  clear HC33
  by_cases c37 : t551 = true
  rotate_left
  ·
   replace c37 := Bool.eq_false_iff.mpr c37
   subst c37
   rw [if_neg (show ¬ (false = true) by decide)] at H
   simp only [Option.some.injEq, Prod.mk.injEq] at H
   obtain ⟨rfl, rfl, rfl, rfl, rfl⟩ := H
   have hnb41 := NB545_547.out
   have hnc41 := NB547_545.out
   (try clear zK545)
   have zK545 := cz3 BK545.out
   (try clear fK545)
   have fK545 := fz3 BK545.out
   go_wp2
   refine bodyPost_ret (results_ctt rfl _ _ gb545 49 #[.int .i64 0, .string (⟨#[]⟩ : ByteArray), .int .i64 0] (0, 0) _ rfl (by exact blk_all3 (qK BK545)) Try.underlying49 rfl (by kernel_rfl)) rfl ?_
   exact ⟨er_, qB HB⟩
  subst c37
  rw [if_pos rfl] at H
  simp only [Option.some.injEq, Prod.mk.injEq] at H
  obtain ⟨rfl, rfl, rfl, rfl, rfl⟩ := H
  have hnb38 := NB547_545.out
  have hnc38 := NB545_547.out
  (try clear zK547)
  have zK547 := cz3 BK547.out
  (try clear fK547)
  have fK547 := fz3 BK547.out
  (try clear zK545)
  have zK545 := cz3 BK545.out
  (try clear fK545)
  have fK545 := fz3 BK545.out
  go_wp2
  refine bodyPost_ret (results_ctt rfl _ _ gb545 49 #[.int .i64 (wrap64 (rd l0 0)), .string (⟨#[]⟩ : ByteArray), .int .i64 (wrap64 (rd l0 1))] (0, 0) _ rfl (by exact blk_all3 (qK BK545)) Try.underlying49 rfl (by kernel_rfl)) rfl ?_
  exact ⟨er_, qB HB⟩
 rw [if_neg c30] at H
 have c30b0 : ((wrap64 (rd l0 0)) == 5) = false := beq_eq_false_iff_ne.mpr c30
 have c30b1 : ((wrap64 (rd l0 0)) != 5) = true := bne_iff_ne.mpr c30
 by_cases c43 : 1 < (l0.length : Int)
 case neg => exact nn_ c43 H
 rw [if_pos c43] at H
 have c43b0 : decide (1 < (l0.length : Int)) = true := decide_eq_true c43
 have c43b1 : decide (1 < l0.length) = true := decide_eq_true (by omega)
 clear c43
 by_cases c44 : (wrap64 (rd l0 1)) > 100
 ·
  rw [if_pos c44] at H
  have c44b0 : decide (100 < (wrap64 (rd l0 1))) = true := decide_eq_true c44
  clear c44
  simp only [Option.some.injEq, Prod.mk.injEq] at H
  obtain ⟨rfl, rfl, rfl, rfl, rfl⟩ := H
  have hnb45 := NB547_545.out
  have hnc45 := NB545_547.out
  (try clear zK547)
  have zK547 := cz3 BK547.out
  (try clear fK547)
  have fK547 := fz3 BK547.out
  have p552 : 0 ≤ (1 : Int) := (by omega)
  have q552 : 1 < (l0.length : Int) := od_
  obtain ⟨ad552, e552, hx552_0⟩ := Kd.at_int HR0.out 1 p552 q552
  obtain rfl : ad546 = ad552 := (by injection e552)
  (try simp only [show (1 : Int).toNat = 1 from rfl, Nat.reduceMul, Nat.reduceEqDiff, Go.Addr.add, ↓reduceIte] at hx552_0)
  have qi552 : (1 < l0.length) = True := eq_true (by omega)
  (try rw [show ((1 : Int)).toNat = 1 from rfl] at hx552_0)
  replace hx552_0 := lb_ HB hx552_0
  replace p552 := eq_true p552
  replace q552 := eq_true q552
  (try clear zK545)
  have zK545 := cz3 BK545.out
  (try clear fK545)
  have fK545 := fz3 BK545.out
  go_wp2
  refine bodyPost_ret (results_ctt rfl _ _ gb545 49 #[.int .i64 0, .string (⟨#[]⟩ : ByteArray), .int .i64 0] (0, 0) _ rfl (by exact blk_all3 (qK BK545)) Try.underlying49 rfl (by kernel_rfl)) rfl ?_
  exact ⟨er_, qB HB⟩
 rw [if_neg c44] at H
 have c44b0 : decide (100 < (wrap64 (rd l0 1))) = false := decide_eq_false c44
 clear c44
 by_cases c48 : (wrap64 (rd l0 1)) > (wrap64 ((l0.length : Int) - 2))
 ·
  rw [if_pos c48] at H
  have c48b0 : decide ((wrap64 ((l0.length : Int) - 2)) < (wrap64 (rd l0 1))) = true := decide_eq_true c48
  clear c48
  simp only [Option.some.injEq, Prod.mk.injEq] at H
  obtain ⟨rfl, rfl, rfl, rfl, rfl⟩ := H
  have hnb49 := NB547_545.out
  have hnc49 := NB545_547.out
  (try clear zK547)
  have zK547 := cz3 BK547.out
  (try clear fK547)
  have fK547 := fz3 BK547.out
  have p552 : 0 ≤ (1 : Int) := (by omega)
  have q552 : 1 < (l0.length : Int) := od_
  obtain ⟨ad552, e552, hx552_0⟩ := Kd.at_int HR0.out 1 p552 q552
  obtain rfl : ad546 = ad552 := (by injection e552)
  (try simp only [show (1 : Int).toNat = 1 from rfl, Nat.reduceMul, Nat.reduceEqDiff, Go.Addr.add, ↓reduceIte] at hx552_0)
  have qi552 : (1 < l0.length) = True := eq_true (by omega)
  (try rw [show ((1 : Int)).toNat = 1 from rfl] at hx552_0)
  replace hx552_0 := lb_ HB hx552_0
  replace p552 := eq_true p552
  replace q552 := eq_true q552
  (try clear zK545)
  have zK545 := cz3 BK545.out
  (try clear fK545)
  have fK545 := fz3 BK545.out
  go_wp2
  refine bodyPost_ret (results_ctt rfl _ _ gb545 49 #[.int .i64 0, .string (⟨#[]⟩ : ByteArray), .int .i64 0] (0, 0) _ rfl (by exact blk_all3 (qK BK545)) Try.underlying49 rfl (by kernel_rfl)) rfl ?_
  exact ⟨er_, qB HB⟩
 rw [if_neg c48] at H
 have c48b0 : decide ((wrap64 ((l0.length : Int) - 2)) < (wrap64 (rd l0 1))) = false := decide_eq_false c48
 clear c48
 by_cases c52 : 2 ≤ (wrap64 (2 + (wrap64 (rd l0 1))))
 case neg => exact nn_ c52 H
 rw [if_pos c52] at H
 have c52b0 := eq_true c52
 have c52b1 : decide (2 ≤ (wrap64 (2 + (wrap64 (rd l0 1))))) = true := decide_eq_true c52
 by_cases c53 : (wrap64 (2 + (wrap64 (rd l0 1)))) ≤ (l0.length : Int)
 case neg => exact nn_ c53 H
 rw [if_pos c53] at H
 have c53b0 := eq_true c53
 have c53b1 : decide ((wrap64 (2 + (wrap64 (rd l0 1)))) ≤ (l0.length : Int)) = true := decide_eq_true c53
 replace H := bd_ H
 obtain ⟨t554, A54, H⟩ := H
 have HC55 := Aside0.mk H
 clear H
 have hnb56 := NB547_545.out
 have hnc56 := NB545_547.out
 (try clear zK547)
 have zK547 := cz3 BK547.out
 (try clear fK547)
 have fK547 := fz3 BK547.out
 have p552 : 0 ≤ (1 : Int) := (by omega)
 have q552 : 1 < (l0.length : Int) := od_
 obtain ⟨ad552, e552, hx552_0⟩ := Kd.at_int HR0.out 1 p552 q552
 obtain rfl : ad546 = ad552 := (by injection e552)
 (try simp only [show (1 : Int).toNat = 1 from rfl, Nat.reduceMul, Nat.reduceEqDiff, Go.Addr.add, ↓reduceIte] at hx552_0)
 have qi552 : (1 < l0.length) = True := eq_true (by omega)
 (try rw [show ((1 : Int)).toNat = 1 from rfl] at hx552_0)
 replace hx552_0 := lb_ HB hx552_0
 replace p552 := eq_true p552
 replace q552 := eq_true q552
 obtain ⟨i058, hi058, _, hsz58, _⟩ := info_parts info5
 obtain ⟨A58, hcut58, hA58, hC58⟩ := print_mid_of (P := Try.prog) (Value.int .u8) 0 22 5 .i64 .i64 Try.underlying22 hi058 hsz58 (some ad546) c0 l0 2 (wrap64 (2 + (wrap64 (rd l0 1)))) (by omega) (by first | omega | exact od_) od_ HC0.out
 have HR553 := Aside0.mk (Kd.C_of_reads (h1 := fun _ => rfl) (hA58 _ (Kd.reads_of_C HR0.out)))
 have HC553 := Aside0.mk hC58
 clear hA58 hC58 hi058 hsz58
 have hcv59 := conv_len (Kd.C_string (P := Try.prog) (A := A58) (c := (c0 - 2)) Try.underlying22 Try.underlying5 Try.underlying9 (Kd.C_below HR553.out HB.out))
 go_upto_if 64 with (first | ((with_reducible refine gate_callee (f := 123) rfl ?_); refine gl_ (some 63) Try.func123 #[.agg #[.int .i64 (wrap64 (rd l0 0)), .string (strOfNums ((l0.take ((wrap64 (2 + (wrap64 (rd l0 1)))) : Int).toNat).drop 2)), .int .i64 0]] ?_; (with_reducible refine (spec_FrameOk.calls k (wrap64 (rd l0 0)) (strOfNums ((l0.take ((wrap64 (2 + (wrap64 (rd l0 1)))) : Int).toNat).drop 2)) 0 t554 _ A54.out).mono ?_); rintro e w60 ⟨rfl, hb⟩; refine ⟨_, rfl, ?_⟩; replace BK545 := am_ (blk_below (g := gb545) (o := .cells #[.int .i64 0, .string (⟨#[]⟩ : ByteArray), .int .i64 0] 49 (0, 0)) (by (with_reducible repeat (first | refine blk_drewN ?_ _ | refine blk_drew ?_ | refine blk_alloc ?_ _)); refine blk_far ?_ NB545_547.out _; exact qK BK545) hb); replace BK547 := am_ (blk_below (g := gb547) (o := .cells #[.int .i64 (wrap64 (rd l0 0)), .string (strOfNums ((l0.take ((wrap64 (2 + (wrap64 (rd l0 1)))) : Int).toNat).drop 2)), .int .i64 0] 49 (0, 0)) (by (with_reducible repeat (first | refine blk_drewN ?_ _ | refine blk_drew ?_ | refine blk_alloc ?_ _)); refine blk_put (cs := #[.int .i64 (wrap64 (rd l0 0)), .string (⟨#[]⟩ : ByteArray), .int .i64 0]) ?_ 1 _ rfl; exact qK BK547) hb); replace HB := bS_ HB hb; (try clear hb)))
 (try simp only [Act.put, List.setIfInBounds_toArray, List.set_cons_zero, List.set_cons_succ])
 have H := HC55.out
 clear HC55
 by_cases c61 : t554 = true
 rotate_left
 ·
  replace c61 := Bool.eq_false_iff.mpr c61
  subst c61
  rw [if_neg (show ¬ (false = true) by decide)] at H
  simp only [Option.some.injEq, Prod.mk.injEq] at H
  obtain ⟨rfl, rfl, rfl, rfl, rfl⟩ := H
  have hnb65 := NB545_547.out
  have hnc65 := NB547_545.out
  (try clear zK545)
  have zK545 := cz3 BK545.out
  (try clear fK545)
  have fK545 := fz3 BK545.out
  go_wp2
  refine bodyPost_ret (results_ctt rfl _ _ gb545 49 #[.int .i64 0, .string (⟨#[]⟩ : ByteArray), .int .i64 0] (0, 0) _ rfl (by exact blk_all3 (qK BK545)) Try.underlying49 rfl (by kernel_rfl)) rfl ?_
  exact ⟨er_, qB HB⟩
 subst c61
 rw [if_pos rfl] at H
 simp only [Option.some.injEq, Prod.mk.injEq] at H
 obtain ⟨rfl, rfl, rfl, rfl, rfl⟩ := H
 have hnb62 := NB547_545.out
 have hnc62 := NB545_547.out
 (try clear zK547)
 have zK547 := cz3 BK547.out
 (try clear zK545)
 have zK545 := cz3 BK545.out
 (try clear fK545)
 have fK545 := fz3 BK545.out
 go_wp2
 refine bodyPost_ret (results_ctt rfl _ _ gb545 49 #[.int .i64 (wrap64 (rd l0 0)), .string (strOfNums ((l0.take ((wrap64 (2 + (wrap64 (rd l0 1)))) : Int).toNat).drop 2)), .int .i64 0] (0, 0) _ rfl (by exact blk_all3 (qK BK545)) Try.underlying49 rfl (by kernel_rfl)) rfl ?_
 exact ⟨er_, qB HB⟩

/-! ### spec_Peek: function 27 -/
def spec_Peek.f (k : Nat) (a0_0 : Int) (a0_1 : Int) (a0_2 : Int) (a0_3 : Bool) (l0_4 : List Int) (l0_5 : List Int) (a0_6 : Int) (a0_7 : Int) : Option (Int × ByteArray × Int × Int) := (spec_GetFrame.f k l0_4).bind fun bt557 => (if bt557.2.2.2.2 = 1 then (if a0_3 = true then (if (l0_4.length : Int) > 0 then (some (0, (⟨#[]⟩ : ByteArray), 0, 2)) else (some (bt557.1, bt557.2.1, bt557.2.2.1, bt557.2.2.2.2))) else (some (bt557.1, bt557.2.1, bt557.2.2.1, bt557.2.2.2.2))) else (some (bt557.1, bt557.2.1, bt557.2.2.1, bt557.2.2.2.2)))
theorem spec_Peek.mono : ∀ a0 a1 a2 a3 a4 a5 a6 a7 k, LeO (spec_Peek.f k a0 a1 a2 a3 a4 a5 a6 a7) (spec_Peek.f (k + 1) a0 a1 a2 a3 a4 a5 a6 a7) := by
 intro a0 a1 a2 a3 a4 a5 a6 a7 k
 unfold spec_Peek.f
 have m0 := @spec_GetFrame.mono; exact mo_
set_option maxHeartbeats 8000000 in
set_option maxRecDepth 100000 in
theorem spec_Peek.calls (k : Nat) (a0_0 : Int) (a0_1 : Int) (a0_2 : Int) (a0_3 : Bool) (A0_4 : Option Addr) (c0_4 : Nat) (l0_4 : List Int) (A0_5 : Option Addr) (c0_5 : Nat) (l0_5 : List Int) (a0_6 : Int) (a0_7 : Int) (r1 : Int) (r2 : ByteArray) (r3 : Int) (r4 : Int) (w : World) (hr0_4 : Kd.C (Kd.int .u8) w A0_4 l0_4.length l0_4) (hc0_4 : l0_4.length ≤ c0_4) (hr0_5 : Kd.C (Kd.int .u8) w A0_5 l0_5.length l0_5) (hc0_5 : l0_5.length ≤ c0_5) (h : spec_Peek.f k a0_0 a0_1 a0_2 a0_3 l0_4 l0_5 a0_6 a0_7 = some (r1, r2, r3, r4)) :
  Calls Try.prog 27 #[.agg #[.int .i64 a0_0, .int .i64 a0_1, .int .i64 a0_2, .bool a0_3, .slice A0_4 l0_4.length c0_4, .slice A0_5 l0_5.length c0_5, .int .i64 a0_6, .int .i64 a0_7]] w fun e w' => e = .returned (.tuple #[.agg #[.int .i64 r1, .string r2, .int .i64 r3], .int .i64 r4]) ∧ Below w.heap.size w w' := by
 have hu41 := Try.underlying41
 have hu49 := Try.underlying49
 have HR0_4 := Aside0.mk hr0_4
 have HC0_4 := Aside0.mk hc0_4
 clear hr0_4 hc0_4
 have HR0_5 := Aside0.mk hr0_5
 have HC0_5 := Aside0.mk hc0_5
 clear hr0_5 hc0_5
 have HB := Aside0.mk (Below.refl w.heap.size w)
 have H := h
 unfold spec_Peek.f at H
 clear h
 replace H := bf_ H
 obtain ⟨f_, hf_, ⟨t557, t558, t559, t560, t561⟩, A2, H⟩ := H
 subst hf_
 (try dsimp only at H)
 have HC3 := Aside0.mk H
 clear H
 go_enter Try.func27, Try.ntmps27
 go_upto_region 2 with (first | ((with_reducible refine gate_dst (N := 1) rfl ?_); (try (refine gate_guard (by rfl) ?_; dsimp only)); refine bx_ (N := 1) (cs := #[.int .i64 a0_0, .int .i64 a0_1, .int .i64 a0_2, .bool a0_3, .slice A0_4 l0_4.length c0_4, .slice A0_5 l0_5.length c0_5, .int .i64 a0_6, .int .i64 a0_7]) (t := 41) ?_; intro gb555 hg w4 hbox hb; have BK555 := am_ (hbox); have GW555 := gA_ hg HB; have GE555 := GW555; have IGE555 := gI_ GE555; replace HB := bS_ HB hb; clear hb hbox hg) | ((with_reducible refine gate_dst (N := 2) rfl ?_); (try (refine gate_guard (by rfl) ?_; dsimp only)); refine bx_ (N := 2) (cs := #[.int .i64 0, .string (⟨#[]⟩ : ByteArray), .int .i64 0]) (t := 49) ?_; intro gb556 hg w5 hbox hb; have BK556 := am_ (hbox); have GW556 := gA_ hg HB; have GE556 := GW556; have IGE556 := gI_ GE556; replace HB := bS_ HB hb; have NB555_556 := am_ ((gN_ hg (qK BK555))); have NB556_555 := am_ ((gM_ hg (qK BK555))); replace BK555 := bK_ BK555 hb; clear hb hbox hg; have hnb6 := NB555_556.out; have hnc6 := NB556_555.out; (try clear zK555); have zK555 := cz8 BK555.out; (try clear fK555); have fK555 := fz8 BK555.out) | ((with_reducible refine gate_callee (f := 95) rfl ?_); refine gl_ (some 10) Try.func95 #[.slice A0_4 l0_4.length c0_4] ?_; (with_reducible refine (spec_GetFrame.calls k _ _ l0_4 t557 t558 t559 t560 t561 _ ?side1 ?side2 A2.out).mono ?_); (case side1 => exact qC (Kd.C_below HR0_4.out HB.out)); (case side2 => exact HC0_4.out); rintro e w8 ⟨rfl, hb⟩; refine ⟨_, rfl, ?_⟩; replace BK555 := bK_ BK555 hb; replace BK556 := bK_ BK556 hb; replace HB := bS_ HB hb; (try clear hb)) | ((with_reducible refine gate_dst (N := 4) rfl ?_); (try (refine gate_guard (by rfl) ?_; dsimp only)); refine bx_ (N := 4) (cs := #[.int .i64 0, .string (⟨#[]⟩ : ByteArray), .int .i64 0]) (t := 49) ?_; intro gb562 hg w9 hbox hb; have BK562 := am_ (hbox); have GW562 := gA_ hg HB; have GE562 := GW562; have IGE562 := gI_ GE562; replace HB := bS_ HB hb; have NB555_562 := am_ ((gN_ hg (qK BK555))); have NB562_555 := am_ ((gM_ hg (qK BK555))); replace BK555 := bK_ BK555 hb; have NB556_562 := am_ ((gN_ hg (qK BK556))); have NB562_556 := am_ ((gM_ hg (qK BK556))); replace BK556 := bK_ BK556 hb; clear hb hbox hg; have hnb10 := NB562_555.out; have hnc10 := NB555_562.out; have hnb11 := NB562_556.out; have hnc11 := NB556_562.out; (try clear zK562); have zK562 := cz3 BK562.out; (try clear fK562); have fK562 := fz3 BK562.out))
 (try simp only [Act.put, List.setIfInBounds_toArray, List.set_cons_zero, List.set_cons_succ])
 have H := HC3.out
 clear HC3
 by_cases c13 : t561 = 1
 rotate_left
 ·
  rw [if_neg c13] at H
  have c13b0 : (t561 == 1) = false := beq_eq_false_iff_ne.mpr c13
  have c13b1 : (t561 != 1) = true := bne_iff_ne.mpr c13
  simp only [Option.some.injEq, Prod.mk.injEq] at H
  obtain ⟨rfl, rfl, rfl, rfl⟩ := H
  have hnb33 := NB562_555.out
  have hnc33 := NB555_562.out
  have hnb34 := NB562_556.out
  have hnc34 := NB556_562.out
  (try clear zK562)
  have zK562 := cz3 BK562.out
  (try clear fK562)
  have fK562 := fz3 BK562.out
  have hnb36 := NB556_555.out
  have hnc36 := NB555_556.out
  (try clear zK556)
  have zK556 := cz3 BK556.out
  (try clear fK556)
  have fK556 := fz3 BK556.out
  go_wp2
  refine bodyPost_ret (results_ct rfl _ _ gb556 49 #[.int .i64 t557, .string t558, .int .i64 t559] (0, 0) _ rfl (by (with_reducible repeat (first | refine blk_drewN ?_ _ | refine blk_drew ?_ | refine blk_alloc ?_ _)); refine blk_put (cs := #[.int .i64 t557, .string t558, .int .i64 0]) ?_ 2 _ rfl; (with_reducible repeat (first | refine blk_drewN ?_ _ | refine blk_drew ?_ | refine blk_alloc ?_ _)); refine blk_put (cs := #[.int .i64 t557, .string (⟨#[]⟩ : ByteArray), .int .i64 0]) ?_ 1 _ rfl; (with_reducible repeat (first | refine blk_drewN ?_ _ | refine blk_drew ?_ | refine blk_alloc ?_ _)); refine blk_put (cs := #[.int .i64 0, .string (⟨#[]⟩ : ByteArray), .int .i64 0]) ?_ 0 _ rfl; (with_reducible repeat (first | refine blk_drewN ?_ _ | refine blk_drew ?_ | refine blk_alloc ?_ _)); refine blk_far ?_ NB556_562.out _; (with_reducible repeat (first | refine blk_drewN ?_ _ | refine blk_drew ?_ | refine blk_alloc ?_ _)); refine blk_far ?_ NB556_562.out _; (with_reducible repeat (first | refine blk_drewN ?_ _ | refine blk_drew ?_ | refine blk_alloc ?_ _)); refine blk_far ?_ NB556_562.out _; (with_reducible repeat (first | refine blk_drewN ?_ _ | refine blk_drew ?_ | refine blk_alloc ?_ _)); exact BK556.out) Try.underlying49 rfl (by kernel_rfl)) rfl ?_
  exact ⟨by first | rfl | (simp [errW_none, errW_some] <;> rfl) | (simp [*, errW_none, errW_some] <;> rfl), qB HB⟩
 rw [if_pos c13] at H
 have c13b0 : (t561 == 1) = true := beq_iff_eq.mpr c13
 have c13b1 : (t561 != 1) = false := bne_eq_false_iff_eq.mpr c13
 clear c13
 by_cases c14 : a0_3 = true
 rotate_left
 ·
  replace c14 := Bool.eq_false_iff.mpr c14
  subst c14
  rw [if_neg (show ¬ (false = true) by decide)] at H
  simp only [Option.some.injEq, Prod.mk.injEq] at H
  obtain ⟨rfl, rfl, rfl, rfl⟩ := H
  have hnb27 := NB555_556.out
  have hnc27 := NB556_555.out
  have hnb28 := NB555_562.out
  have hnc28 := NB562_555.out
  (try clear zK555)
  have zK555 := cz8 BK555.out
  (try clear fK555)
  have fK555 := fz8 BK555.out
  have hnb30 := NB562_556.out
  have hnc30 := NB556_562.out
  (try clear zK562)
  have zK562 := cz3 BK562.out
  (try clear fK562)
  have fK562 := fz3 BK562.out
  (try clear zK556)
  have zK556 := cz3 BK556.out
  (try clear fK556)
  have fK556 := fz3 BK556.out
  go_wp2
  refine bodyPost_ret (results_ct rfl _ _ gb556 49 #[.int .i64 t557, .string t558, .int .i64 t559] (0, 0) _ rfl (by (with_reducible repeat (first | refine blk_drewN ?_ _ | refine blk_drew ?_ | refine blk_alloc ?_ _)); refine blk_put (cs := #[.int .i64 t557, .string t558, .int .i64 0]) ?_ 2 _ rfl; (with_reducible repeat (first | refine blk_drewN ?_ _ | refine blk_drew ?_ | refine blk_alloc ?_ _)); refine blk_put (cs := #[.int .i64 t557, .string (⟨#[]⟩ : ByteArray), .int .i64 0]) ?_ 1 _ rfl; (with_reducible repeat (first | refine blk_drewN ?_ _ | refine blk_drew ?_ | refine blk_alloc ?_ _)); refine blk_put (cs := #[.int .i64 0, .string (⟨#[]⟩ : ByteArray), .int .i64 0]) ?_ 0 _ rfl; (with_reducible repeat (first | refine blk_drewN ?_ _ | refine blk_drew ?_ | refine blk_alloc ?_ _)); refine blk_far ?_ NB556_562.out _; (with_reducible repeat (first | refine blk_drewN ?_ _ | refine blk_drew ?_ | refine blk_alloc ?_ _)); refine blk_far ?_ NB556_562.out _; (with_reducible repeat (first | refine blk_drewN ?_ _ | refine blk_drew ?_ | refine blk_alloc ?_ _)); refine blk_far ?_ NB556_562.out _; (with_reducible repeat (first | refine blk_drewN ?_ _ | refine blk_drew ?_ | refine blk_alloc ?_ _)); exact BK556.out) Try.underlying49 rfl (by kernel_rfl)) rfl ?_
  exact ⟨by first | rfl | (simp [errW_none, errW_some] <;> rfl) | (simp [*, errW_none, errW_some] <;> rfl), qB HB⟩
 subst c14
 rw [if_pos rfl] at H
 by_cases c15 : (l0_4.length : Int) > 0
 ·
  rw [if_pos c15] at H
  have c15b0 : decide (0 < (l0_4.length : Int)) = true := decide_eq_true c15
  have c15b1 : decide (0 < l0_4.length) = true := decide_eq_true (by omega)
  clear c15
  simp only [Option.some.injEq, Prod.mk.injEq] at H
  obtain ⟨rfl, rfl, rfl, rfl⟩ := H
  have hnb16 := NB555_556.out
  have hnc16 := NB556_555.out
  have hnb17 := NB555_562.out
  have hnc17 := NB562_555.out
  (try clear zK555)
  have zK555 := cz8 BK555.out
  (try clear fK555)
  have fK555 := fz8 BK555.out
  have hnb19 := NB556_562.out
  have hnc19 := NB562_556.out
  (try clear zK556)
  have zK556 := cz3 BK556.out
  (try clear fK556)
  have fK556 := fz3 BK556.out
  go_wp2
  refine bodyPost_ret (results_ct rfl _ _ gb556 49 #[.int .i64 0, .string (⟨#[]⟩ : ByteArray), .int .i64 0] (0, 0) _ rfl (by (with_reducible repeat (first | refine blk_drewN ?_ _ | refine blk_drew ?_ | refine blk_alloc ?_ _)); refine blk_put (cs := #[.int .i64 0, .string (⟨#[]⟩ : ByteArray), .int .i64 0]) ?_ 2 _ rfl; (with_reducible repeat (first | refine blk_drewN ?_ _ | refine blk_drew ?_ | refine blk_alloc ?_ _)); refine blk_put (cs := #[.int .i64 0, .string (⟨#[]⟩ : ByteArray), .int .i64 0]) ?_ 1 _ rfl; (with_reducible repeat (first | refine blk_drewN ?_ _ | refine blk_drew ?_ | refine blk_alloc ?_ _)); refine blk_put (cs := #[.int .i64 0, .string (⟨#[]⟩ : ByteArray), .int .i64 0]) ?_ 0 _ rfl; (with_reducible repeat (first | refine blk_drewN ?_ _ | refine blk_drew ?_ | refine blk_alloc ?_ _)); refine blk_far ?_ NB556_562.out _; (with_reducible repeat (first | refine blk_drewN ?_ _ | refine blk_drew ?_ | refine blk_alloc ?_ _)); refine blk_far ?_ NB556_562.out _; (with_reducible repeat (first | refine blk_drewN ?_ _ | refine blk_drew ?_ | refine blk_alloc ?_ _)); refine blk_far ?_ NB556_562.out _; (with_reducible repeat (first | refine blk_drewN ?_ _ | refine blk_drew ?_ | refine blk_alloc ?_ _)); exact BK556.out) Try.underlying49 rfl (by kernel_rfl)) rfl ?_
  exact ⟨by first | rfl | (simp [errW_none, errW_some] <;> rfl) | (simp [*, errW_none, errW_some] <;> rfl), qB HB⟩
 rw [if_neg c15] at H
 have c15b0 : decide (0 < (l0_4.length : Int)) = false := decide_eq_false c15
 have c15b1 : decide (0 < l0_4.length) = false := decide_eq_false (by omega)
 clear c15
 simp only [Option.some.injEq, Prod.mk.injEq] at H
 obtain ⟨rfl, rfl, rfl, rfl⟩ := H
 have hnb21 := NB555_556.out
 have hnc21 := NB556_555.out
 have hnb22 := NB555_562.out
 have hnc22 := NB562_555.out
 (try clear zK555)
 have zK555 := cz8 BK555.out
 (try clear fK555)
 have fK555 := fz8 BK555.out
 have hnb24 := NB562_556.out
 have hnc24 := NB556_562.out
 (try clear zK562)
 have zK562 := cz3 BK562.out
 (try clear fK562)
 have fK562 := fz3 BK562.out
 (try clear zK556)
 have zK556 := cz3 BK556.out
 (try clear fK556)
 have fK556 := fz3 BK556.out
 go_wp2
 refine bodyPost_ret (results_ct rfl _ _ gb556 49 #[.int .i64 t557, .string t558, .int .i64 t559] (0, 0) _ rfl (by (with_reducible repeat (first | refine blk_drewN ?_ _ | refine blk_drew ?_ | refine blk_alloc ?_ _)); refine blk_put (cs := #[.int .i64 t557, .string t558, .int .i64 0]) ?_ 2 _ rfl; (with_reducible repeat (first | refine blk_drewN ?_ _ | refine blk_drew ?_ | refine blk_alloc ?_ _)); refine blk_put (cs := #[.int .i64 t557, .string (⟨#[]⟩ : ByteArray), .int .i64 0]) ?_ 1 _ rfl; (with_reducible repeat (first | refine blk_drewN ?_ _ | refine blk_drew ?_ | refine blk_alloc ?_ _)); refine blk_put (cs := #[.int .i64 0, .string (⟨#[]⟩ : ByteArray), .int .i64 0]) ?_ 0 _ rfl; (with_reducible repeat (first | refine blk_drewN ?_ _ | refine blk_drew ?_ | refine blk_alloc ?_ _)); refine blk_far ?_ NB556_562.out _; (with_reducible repeat (first | refine blk_drewN ?_ _ | refine blk_drew ?_ | refine blk_alloc ?_ _)); refine blk_far ?_ NB556_562.out _; (with_reducible repeat (first | refine blk_drewN ?_ _ | refine blk_drew ?_ | refine blk_alloc ?_ _)); refine blk_far ?_ NB556_562.out _; (with_reducible repeat (first | refine blk_drewN ?_ _ | refine blk_drew ?_ | refine blk_alloc ?_ _)); exact BK556.out) Try.underlying49 rfl (by kernel_rfl)) rfl ?_
 exact ⟨by first | rfl | (simp [errW_none, errW_some] <;> rfl) | (simp [*, errW_none, errW_some] <;> rfl), qB HB⟩

end Go.Proofs.Ytiffahfpfgnjnaa.PFnSocks
