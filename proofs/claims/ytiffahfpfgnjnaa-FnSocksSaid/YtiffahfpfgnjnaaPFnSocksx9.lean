-- Written by a program of this session (myprint.py, over the kit's print): contracts of FnSocks
import Derived.Test.YtiffahfpfgnjnaaPFnSocksx0
import Derived.Test.YtiffahfpfgnjnaaPFnSocksx7
import Derived.Test.YtiffahfpfgnjnaaPFnSocksx8
namespace Go.Proofs.Ytiffahfpfgnjnaa.PFnSocks
open Go.RowKit Go.Proofs.YtiffahfpfgnjnaaW.PrintWords Go.Proofs.YtiffahfpfgnjnaaW.PrintLast Go.Proofs.YtiffahfpfgnjnaaW.PrintMore Go.Proofs.YtiffahfpfgnjnaaV
attribute [local go_sem] max2_int min2_int max_two min_two max_three min_three max_four min_four   -- for this text's walks alone
set_option linter.unusedVariables false
set_option linter.unusedSimpArgs false

/-! ### impl_GetFrame: function 94 -/
def impl_GetFrame.j0 : Nat → List Int → Int → Bool → Int → ByteArray → Int → Option (Int × ByteArray × Int × Int × Int)
 | 0, _, _, _, _, _, _ => none
 | k + 1, x0, x6, x31, x504000, x504001, x504002 => if x31 = true then (if (x0.length : Int) < 2 then (some (0, (⟨#[]⟩ : ByteArray), 0, 0, 1)) else (if 1 < (x0.length : Int) then (if (wrap64 (rd x0 1)) > 100 then (some (0, (⟨#[]⟩ : ByteArray), 0, 0, 2)) else (if (x0.length : Int) < (wrap64 (2 + (wrap64 (rd x0 1)))) then (some (0, (⟨#[]⟩ : ByteArray), 0, 0, 1)) else (if 2 ≤ (wrap64 (2 + (wrap64 (rd x0 1)))) then (if (wrap64 (2 + (wrap64 (rd x0 1)))) ≤ (x0.length : Int) then ((impl_FrameOk.f k x504000 (strOfNums ((x0.take ((wrap64 (2 + (wrap64 (rd x0 1)))) : Int).toNat).drop 2)) x504002).bind fun t511 => (if t511 = true then (some (x504000, strOfNums ((x0.take ((wrap64 (2 + (wrap64 (rd x0 1)))) : Int).toNat).drop 2), x504002, wrap64 (2 + (wrap64 (rd x0 1))), 0)) else (some (0, (⟨#[]⟩ : ByteArray), 0, 0, 2)))) else (none)) else (none)))) else (none))) else ((impl_FrameOk.f k x504000 x504001 x504002).bind fun t512 => (if t512 = true then (some (x504000, x504001, x504002, x6, 0)) else (some (0, (⟨#[]⟩ : ByteArray), 0, 0, 2))))
def impl_GetFrame.f (k : Nat) (l0 : List Int) : Option (Int × ByteArray × Int × Int × Int) := if (l0.length : Int) = 0 then (some (0, (⟨#[]⟩ : ByteArray), 0, 0, 1)) else (if 0 < (l0.length : Int) then (if (wrap64 (rd l0 0)) = 3 then ((impl_FrameOk.f k (wrap64 (rd l0 0)) (⟨#[]⟩ : ByteArray) 0).bind fun t504 => (if t504 = true then (some (wrap64 (rd l0 0), (⟨#[]⟩ : ByteArray), 0, 1, 0)) else (some (0, (⟨#[]⟩ : ByteArray), 0, 0, 2)))) else (if (wrap64 (rd l0 0)) = 5 then (if (l0.length : Int) < 2 then (some (0, (⟨#[]⟩ : ByteArray), 0, 0, 1)) else (if 1 < (l0.length : Int) then ((impl_FrameOk.f k (wrap64 (rd l0 0)) (⟨#[]⟩ : ByteArray) (wrap64 (rd l0 1))).bind fun t506 => (if t506 = true then (some (wrap64 (rd l0 0), (⟨#[]⟩ : ByteArray), wrap64 (rd l0 1), 2, 0)) else (some (0, (⟨#[]⟩ : ByteArray), 0, 0, 2)))) else (none))) else (if (wrap64 (rd l0 0)) = 1 then (impl_GetFrame.j0 k l0 1 ((wrap64 (rd l0 0)) == 1) (wrap64 (rd l0 0)) (⟨#[]⟩ : ByteArray) 0) else (if (wrap64 (rd l0 0)) = 2 then (impl_GetFrame.j0 k l0 1 ((wrap64 (rd l0 0)) == 2) (wrap64 (rd l0 0)) (⟨#[]⟩ : ByteArray) 0) else (if (wrap64 (rd l0 0)) = 4 then (impl_GetFrame.j0 k l0 1 ((wrap64 (rd l0 0)) == 4) (wrap64 (rd l0 0)) (⟨#[]⟩ : ByteArray) 0) else (impl_GetFrame.j0 k l0 1 ((wrap64 (rd l0 0)) == 6) (wrap64 (rd l0 0)) (⟨#[]⟩ : ByteArray) 0)))))) else (none))
theorem impl_GetFrame.mono_l : ∀ k, (∀ y0 y1 y2 y3 y4 y5, LeO (impl_GetFrame.j0 k y0 y1 y2 y3 y4 y5) (impl_GetFrame.j0 (k + 1) y0 y1 y2 y3 y4 y5))
 | 0 => fun _ _ _ _ _ _ r h => by simp [impl_GetFrame.j0] at h
 | k + 1 => by
  have ih0 := impl_GetFrame.mono_l k
  ·
   intro y0 y1 y2 y3 y4 y5
   unfold impl_GetFrame.j0
   have m0 := @impl_FrameOk.mono; exact mo_
theorem impl_GetFrame.mono : ∀ a0 k, LeO (impl_GetFrame.f k a0) (impl_GetFrame.f (k + 1) a0) := by
 intro a0 k
 have ih0 := impl_GetFrame.mono_l k
 unfold impl_GetFrame.f
 have m0 := @impl_FrameOk.mono; exact mo_
set_option maxHeartbeats 8000000 in
set_option maxRecDepth 100000 in
theorem impl_GetFrame.calls (k : Nat) (A0 : Option Addr) (c0 : Nat) (l0 : List Int) (r1 : Int) (r2 : ByteArray) (r3 : Int) (r4 : Int) (r5 : Int) (w : World) (hr0 : Kd.C (Kd.int .u8) w A0 l0.length l0) (hc0 : l0.length ≤ c0) (h : impl_GetFrame.f k l0 = some (r1, r2, r3, r4, r5)) :
  Calls Try.prog 94 #[.slice A0 l0.length c0] w fun e w' => e = .returned (.tuple #[.agg #[.int .i64 r1, .string r2, .int .i64 r3], .int .i64 r4, .int .i64 r5]) ∧ Below w.heap.size w w' := by
 have hu49 := Try.underlying49
 have HR0 := Aside0.mk hr0
 have HC0 := Aside0.mk hc0
 clear hr0 hc0
 have HB := Aside0.mk (Below.refl w.heap.size w)
 have H := h
 unfold impl_GetFrame.f at H
 clear h
 have HC2 := Aside0.mk H
 clear H
 go_enter Try.func94, Try.ntmps94
 go_upto_if 9 with (first | ((with_reducible refine gate_dst (N := 2) rfl ?_); refine bx_ (N := 2) (cs := #[.int .i64 0, .string (⟨#[]⟩ : ByteArray), .int .i64 0]) (t := 49) ?_; intro gb501 hg w3 hbox hb; have BK501 := am_ (hbox); have GW501 := gA_ hg HB; have GE501 := GW501; have IGE501 := gI_ GE501; replace HB := bS_ HB hb; clear hb hbox hg))
 (try simp only [Act.put, List.setIfInBounds_toArray, List.set_cons_zero, List.set_cons_succ])
 have H := HC2.out
 clear HC2
 by_cases c4 : (l0.length : Int) = 0
 ·
  rw [if_pos c4] at H
  have c4b0 : ((l0.length : Int) == 0) = true := beq_iff_eq.mpr c4
  have c4b1 : ((l0.length : Int) != 0) = false := bne_eq_false_iff_eq.mpr c4
  clear c4
  (first | rw [c4b0] | rw [c4b1] | (simp only [i64_w, i32_w]; rw [c4b0]) | skip)
  simp only [Option.some.injEq, Prod.mk.injEq] at H
  obtain ⟨rfl, rfl, rfl, rfl, rfl⟩ := H
  (try clear zK501)
  have zK501 := cz3 BK501.out
  (try clear fK501)
  have fK501 := fz3 BK501.out
  go_wp2
  refine bodyPost_ret (results_ctt rfl _ _ gb501 49 #[.int .i64 0, .string (⟨#[]⟩ : ByteArray), .int .i64 0] (0, 0) _ rfl (by exact blk_all3 (qK BK501)) Try.underlying49 rfl (by kernel_rfl)) rfl ?_
  exact ⟨er_, qB HB⟩
 rw [if_neg c4] at H
 have c4b0 : ((l0.length : Int) == 0) = false := beq_eq_false_iff_ne.mpr c4
 have c4b1 : ((l0.length : Int) != 0) = true := bne_iff_ne.mpr c4
 have c4b2 : ¬ (l0 = []) := fun h_ => c4 (by rw [h_]; rfl)
 (first | rw [c4b0] | rw [c4b1] | rw [c4b2] | (simp only [i64_w, i32_w]; rw [c4b0]) | skip)
 by_cases c6 : 0 < (l0.length : Int)
 case neg => exact nn_ c6 H
 rw [if_pos c6] at H
 have c6b0 : decide (0 < (l0.length : Int)) = true := decide_eq_true c6
 have c6b1 : decide (0 < l0.length) = true := decide_eq_true (by omega)
 clear c6
 have HC7 := Aside0.mk H
 clear H
 have p502 : 0 ≤ (0 : Int) := (by omega)
 have q502 : 0 < (l0.length : Int) := od_
 obtain ⟨ad502, e502, hx502_0⟩ := Kd.at_int HR0.out 0 p502 q502
 cases e502
 have qi502 : (0 < l0.length) = True := eq_true (by omega)
 (try rw [show ((0 : Int)).toNat = 0 from rfl] at hx502_0)
 (try rw [Addr.add_zero'] at hx502_0)
 replace hx502_0 := lb_ HB hx502_0
 replace p502 := eq_true p502
 replace q502 := eq_true q502
 go_upto_if 18 with (first | ((with_reducible refine gate_dst (N := 5) rfl ?_); refine bx_ (N := 5) (cs := #[.int .i64 0, .string (⟨#[]⟩ : ByteArray), .int .i64 0]) (t := 49) ?_; intro gb503 hg w8 hbox hb; have BK503 := am_ (hbox); have GW503 := gA_ hg HB; have GE503 := GW503; have IGE503 := gI_ GE503; replace HB := bS_ HB hb; have NB501_503 := am_ ((gN_ hg (qK BK501))); have NB503_501 := am_ ((gM_ hg (qK BK501))); replace BK501 := bK_ BK501 hb; clear hb hbox hg; have hnb9 := NB503_501.out; have hnc9 := NB501_503.out; (try clear zK503); have zK503 := cz3 BK503.out; (try clear fK503); have fK503 := fz3 BK503.out))
 (try simp only [Act.put, List.setIfInBounds_toArray, List.set_cons_zero, List.set_cons_succ])
 have n0_ : Aside0 ((((w8.setCell ⟨gb503, 0, none⟩ (.int .i64 (wrap64 (rd l0 0)))).setCell ⟨gb503, 1, none⟩ (.string (⟨#[]⟩ : ByteArray))).setCell ⟨gb503, 2, none⟩ (.int .i64 0)).heap[gb501]? = some (.cells #[.int .i64 0, .string (⟨#[]⟩ : ByteArray), .int .i64 0] 49 (0, 0))) := ⟨by (with_reducible repeat (first | refine blk_drewN ?_ _ | refine blk_drew ?_ | refine blk_alloc ?_ _)); refine blk_far3 ?_ NB501_503.out; exact qK BK501⟩
 have n1_ : Aside0 ((((w8.setCell ⟨gb503, 0, none⟩ (.int .i64 (wrap64 (rd l0 0)))).setCell ⟨gb503, 1, none⟩ (.string (⟨#[]⟩ : ByteArray))).setCell ⟨gb503, 2, none⟩ (.int .i64 0)).heap[gb503]? = some (.cells #[.int .i64 (wrap64 (rd l0 0)), .string (⟨#[]⟩ : ByteArray), .int .i64 0] 49 (0, 0))) := ⟨by (with_reducible repeat (first | refine blk_drewN ?_ _ | refine blk_drew ?_ | refine blk_alloc ?_ _)); refine blk_all3 (show _ = some (Go.Obj.cells #[.int .i64 0, .string (⟨#[]⟩ : ByteArray), .int .i64 0] _ (0, 0)) from ?_); exact qK BK503⟩
 have n2_ : Aside0 (Below w.heap.size w (((w8.setCell ⟨gb503, 0, none⟩ (.int .i64 (wrap64 (rd l0 0)))).setCell ⟨gb503, 1, none⟩ (.string (⟨#[]⟩ : ByteArray))).setCell ⟨gb503, 2, none⟩ (.int .i64 0))) := ⟨qB HB⟩
 (try clear BK501)
 (try clear BK503)
 (try clear HB)
 generalize (((w8.setCell ⟨gb503, 0, none⟩ (.int .i64 (wrap64 (rd l0 0)))).setCell ⟨gb503, 1, none⟩ (.string (⟨#[]⟩ : ByteArray))).setCell ⟨gb503, 2, none⟩ (.int .i64 0)) = w11 at n0_ n1_ n2_ ⊢
 have BK501 := n0_
 have BK503 := n1_
 have HB := n2_
 clear n0_ n1_ n2_
 have H := HC7.out
 clear HC7
 by_cases c12 : (wrap64 (rd l0 0)) = 3
 ·
  rw [if_pos c12] at H
  have c12b0 : ((wrap64 (rd l0 0)) == 3) = true := beq_iff_eq.mpr c12
  have c12b1 : ((wrap64 (rd l0 0)) != 3) = false := bne_eq_false_iff_eq.mpr c12
  clear c12
  (first | rw [c12b0] | rw [c12b1] | (simp only [i64_w, i32_w]; rw [c12b0]) | skip)
  replace H := bd_ H
  obtain ⟨t504, A13, H⟩ := H
  have HC14 := Aside0.mk H
  clear H
  have hnb15 := NB503_501.out
  have hnc15 := NB501_503.out
  (try clear zK503)
  have zK503 := cz3 BK503.out
  (try clear fK503)
  have fK503 := fz3 BK503.out
  go_upto_if 70 with (first | ((with_reducible refine gate_callee (f := 98) rfl ?_); refine gl_ (some 69) Try.func98 #[.agg #[.int .i64 (wrap64 (rd l0 0)), .string (⟨#[]⟩ : ByteArray), .int .i64 0]] ?_; (with_reducible refine (impl_FrameOk.calls k (wrap64 (rd l0 0)) (⟨#[]⟩ : ByteArray) 0 t504 _ A13.out).mono ?_); rintro e w17 ⟨rfl, hb⟩; refine ⟨_, rfl, ?_⟩; replace BK501 := bK_ BK501 hb; replace BK503 := bK_ BK503 hb; replace HB := bS_ HB hb; (try clear hb)))
  (try simp only [Act.put, List.setIfInBounds_toArray, List.set_cons_zero, List.set_cons_succ])
  have H := HC14.out
  clear HC14
  by_cases c18 : t504 = true
  rotate_left
  ·
   replace c18 := Bool.eq_false_iff.mpr c18
   subst c18
   rw [if_neg (show ¬ (false = true) by decide)] at H
   simp only [Option.some.injEq, Prod.mk.injEq] at H
   obtain ⟨rfl, rfl, rfl, rfl, rfl⟩ := H
   have hnb22 := NB501_503.out
   have hnc22 := NB503_501.out
   (try clear zK501)
   have zK501 := cz3 BK501.out
   (try clear fK501)
   have fK501 := fz3 BK501.out
   go_wp2
   refine bodyPost_ret (results_ctt rfl _ _ gb501 49 #[.int .i64 0, .string (⟨#[]⟩ : ByteArray), .int .i64 0] (0, 0) _ rfl (by exact blk_all3 (qK BK501)) Try.underlying49 rfl (by kernel_rfl)) rfl ?_
   exact ⟨er_, qB HB⟩
  subst c18
  rw [if_pos rfl] at H
  simp only [Option.some.injEq, Prod.mk.injEq] at H
  obtain ⟨rfl, rfl, rfl, rfl, rfl⟩ := H
  have hnb19 := NB503_501.out
  have hnc19 := NB501_503.out
  (try clear zK503)
  have zK503 := cz3 BK503.out
  (try clear fK503)
  have fK503 := fz3 BK503.out
  (try clear zK501)
  have zK501 := cz3 BK501.out
  (try clear fK501)
  have fK501 := fz3 BK501.out
  go_wp2
  refine bodyPost_ret (results_ctt rfl _ _ gb501 49 #[.int .i64 (wrap64 (rd l0 0)), .string (⟨#[]⟩ : ByteArray), .int .i64 0] (0, 0) _ rfl (by exact blk_all3 (qK BK501)) Try.underlying49 rfl (by kernel_rfl)) rfl ?_
  exact ⟨er_, qB HB⟩
 rw [if_neg c12] at H
 have c12b0 : ((wrap64 (rd l0 0)) == 3) = false := beq_eq_false_iff_ne.mpr c12
 have c12b1 : ((wrap64 (rd l0 0)) != 3) = true := bne_iff_ne.mpr c12
 (first | rw [c12b0] | rw [c12b1] | (simp only [i64_w, i32_w]; rw [c12b0]) | skip)
 by_cases c24 : (wrap64 (rd l0 0)) = 5
 ·
  rw [if_pos c24] at H
  have c24b0 : ((wrap64 (rd l0 0)) == 5) = true := beq_iff_eq.mpr c24
  have c24b1 : ((wrap64 (rd l0 0)) != 5) = false := bne_eq_false_iff_eq.mpr c24
  clear c24
  by_cases c25 : (l0.length : Int) < 2
  ·
   rw [if_pos c25] at H
   have c25b0 : decide ((l0.length : Int) < 2) = true := decide_eq_true c25
   have c25b1 : decide (l0.length < 2) = true := decide_eq_true (by omega)
   clear c25
   simp only [Option.some.injEq, Prod.mk.injEq] at H
   obtain ⟨rfl, rfl, rfl, rfl, rfl⟩ := H
   have hnb26 := NB501_503.out
   have hnc26 := NB503_501.out
   (try clear zK501)
   have zK501 := cz3 BK501.out
   (try clear fK501)
   have fK501 := fz3 BK501.out
   go_wp2
   refine bodyPost_ret (results_ctt rfl _ _ gb501 49 #[.int .i64 0, .string (⟨#[]⟩ : ByteArray), .int .i64 0] (0, 0) _ rfl (by exact blk_all3 (qK BK501)) Try.underlying49 rfl (by kernel_rfl)) rfl ?_
   exact ⟨er_, qB HB⟩
  rw [if_neg c25] at H
  have c25b0 : decide ((l0.length : Int) < 2) = false := decide_eq_false c25
  have c25b1 : decide (l0.length < 2) = false := decide_eq_false (by omega)
  clear c25
  by_cases c28 : 1 < (l0.length : Int)
  case neg => exact nn_ c28 H
  rw [if_pos c28] at H
  have c28b0 : decide (1 < (l0.length : Int)) = true := decide_eq_true c28
  have c28b1 : decide (1 < l0.length) = true := decide_eq_true (by omega)
  clear c28
  replace H := bd_ H
  obtain ⟨t506, A29, H⟩ := H
  have HC30 := Aside0.mk H
  clear H
  have p505 : 0 ≤ (1 : Int) := (by omega)
  have q505 : 1 < (l0.length : Int) := od_
  obtain ⟨ad505, e505, hx505_0⟩ := Kd.at_int HR0.out 1 p505 q505
  obtain rfl : ad502 = ad505 := (by injection e505)
  (try simp only [show (1 : Int).toNat = 1 from rfl, Nat.reduceMul, Nat.reduceEqDiff, Go.Addr.add, ↓reduceIte] at hx505_0)
  have qi505 : (1 < l0.length) = True := eq_true (by omega)
  (try rw [show ((1 : Int)).toNat = 1 from rfl] at hx505_0)
  replace hx505_0 := lb_ HB hx505_0
  replace p505 := eq_true p505
  replace q505 := eq_true q505
  have hnb31 := NB503_501.out
  have hnc31 := NB501_503.out
  (try clear zK503)
  have zK503 := cz3 BK503.out
  (try clear fK503)
  have fK503 := fz3 BK503.out
  go_upto_if 70 with (first | ((with_reducible refine gate_callee (f := 98) rfl ?_); refine gl_ (some 69) Try.func98 #[.agg #[.int .i64 (wrap64 (rd l0 0)), .string (⟨#[]⟩ : ByteArray), .int .i64 (wrap64 (rd l0 1))]] ?_; (with_reducible refine (impl_FrameOk.calls k (wrap64 (rd l0 0)) (⟨#[]⟩ : ByteArray) (wrap64 (rd l0 1)) t506 _ A29.out).mono ?_); rintro e w33 ⟨rfl, hb⟩; refine ⟨_, rfl, ?_⟩; replace BK501 := am_ (blk_below (g := gb501) (o := .cells #[.int .i64 0, .string (⟨#[]⟩ : ByteArray), .int .i64 0] 49 (0, 0)) (by (with_reducible repeat (first | refine blk_drewN ?_ _ | refine blk_drew ?_ | refine blk_alloc ?_ _)); refine blk_far ?_ NB501_503.out _; exact qK BK501) hb); replace BK503 := am_ (blk_below (g := gb503) (o := .cells #[.int .i64 (wrap64 (rd l0 0)), .string (⟨#[]⟩ : ByteArray), .int .i64 (wrap64 (rd l0 1))] 49 (0, 0)) (by (with_reducible repeat (first | refine blk_drewN ?_ _ | refine blk_drew ?_ | refine blk_alloc ?_ _)); refine blk_put (cs := #[.int .i64 (wrap64 (rd l0 0)), .string (⟨#[]⟩ : ByteArray), .int .i64 0]) ?_ 2 _ rfl; exact qK BK503) hb); replace HB := bS_ HB hb; (try clear hb)))
  (try simp only [Act.put, List.setIfInBounds_toArray, List.set_cons_zero, List.set_cons_succ])
  have H := HC30.out
  clear HC30
  by_cases c34 : t506 = true
  rotate_left
  ·
   replace c34 := Bool.eq_false_iff.mpr c34
   subst c34
   rw [if_neg (show ¬ (false = true) by decide)] at H
   simp only [Option.some.injEq, Prod.mk.injEq] at H
   obtain ⟨rfl, rfl, rfl, rfl, rfl⟩ := H
   have hnb38 := NB501_503.out
   have hnc38 := NB503_501.out
   (try clear zK501)
   have zK501 := cz3 BK501.out
   (try clear fK501)
   have fK501 := fz3 BK501.out
   go_wp2
   refine bodyPost_ret (results_ctt rfl _ _ gb501 49 #[.int .i64 0, .string (⟨#[]⟩ : ByteArray), .int .i64 0] (0, 0) _ rfl (by exact blk_all3 (qK BK501)) Try.underlying49 rfl (by kernel_rfl)) rfl ?_
   exact ⟨er_, qB HB⟩
  subst c34
  rw [if_pos rfl] at H
  simp only [Option.some.injEq, Prod.mk.injEq] at H
  obtain ⟨rfl, rfl, rfl, rfl, rfl⟩ := H
  have hnb35 := NB503_501.out
  have hnc35 := NB501_503.out
  (try clear zK503)
  have zK503 := cz3 BK503.out
  (try clear fK503)
  have fK503 := fz3 BK503.out
  (try clear zK501)
  have zK501 := cz3 BK501.out
  (try clear fK501)
  have fK501 := fz3 BK501.out
  go_wp2
  refine bodyPost_ret (results_ctt rfl _ _ gb501 49 #[.int .i64 (wrap64 (rd l0 0)), .string (⟨#[]⟩ : ByteArray), .int .i64 (wrap64 (rd l0 1))] (0, 0) _ rfl (by exact blk_all3 (qK BK501)) Try.underlying49 rfl (by kernel_rfl)) rfl ?_
  exact ⟨er_, qB HB⟩
 rw [if_neg c24] at H
 have c24b0 : ((wrap64 (rd l0 0)) == 5) = false := beq_eq_false_iff_ne.mpr c24
 have c24b1 : ((wrap64 (rd l0 0)) != 5) = true := bne_iff_ne.mpr c24
 have HC40 := Aside0.mk H
 clear H
 go_upto_if 31 with (fail)
 go_cut [31] (fun v31 wc => ∃ (kq : Nat) (x31_39 : Bool), v31 = .bool x31_39 ∧ Aside0 (impl_GetFrame.j0 kq l0 1 x31_39 (wrap64 (rd l0 0)) (⟨#[]⟩ : ByteArray) 0 = some (r1, r2, r3, r4, r5)) ∧ Aside0 (kq ≤ k) ∧ Aside0 (wc.heap[gb501]? = some (.cells #[.int .i64 0, .string (⟨#[]⟩ : ByteArray), .int .i64 0] 49 (0, 0))) ∧ Aside0 (wc.heap[gb503]? = some (.cells #[.int .i64 (wrap64 (rd l0 0)), .string (⟨#[]⟩ : ByteArray), .int .i64 0] 49 (0, 0))) ∧ Aside0 (Below w.heap.size w wc))
 case first =>
  have H := HC40.out
  clear HC40
  by_cases c41 : (wrap64 (rd l0 0)) = 1
  ·
   rw [if_pos c41] at H
   have c41b0 : ((wrap64 (rd l0 0)) == 1) = true := beq_iff_eq.mpr c41
   have c41b1 : ((wrap64 (rd l0 0)) != 1) = false := bne_eq_false_iff_eq.mpr c41
   clear c41
   (first | rw [c41b0] | rw [c41b1] | (simp only [i64_w, i32_w]; rw [c41b0]) | skip)
   have H' := Aside0.mk H
   clear H
   go_wp2
   go_meet
   case rel => exact ⟨_, (((wrap64 (rd l0 0)) == 1)), eqq_, H', ⟨by first | omega | exact Nat.le_refl _⟩, ⟨qK BK501⟩, ⟨qK BK503⟩, ⟨qB HB⟩⟩
  rw [if_neg c41] at H
  have c41b0 : ((wrap64 (rd l0 0)) == 1) = false := beq_eq_false_iff_ne.mpr c41
  have c41b1 : ((wrap64 (rd l0 0)) != 1) = true := bne_iff_ne.mpr c41
  (first | rw [c41b0] | rw [c41b1] | (simp only [i64_w, i32_w]; rw [c41b0]) | skip)
  by_cases c42 : (wrap64 (rd l0 0)) = 2
  ·
   rw [if_pos c42] at H
   have c42b0 : ((wrap64 (rd l0 0)) == 2) = true := beq_iff_eq.mpr c42
   have c42b1 : ((wrap64 (rd l0 0)) != 2) = false := bne_eq_false_iff_eq.mpr c42
   clear c42
   have H' := Aside0.mk H
   clear H
   go_wp2
   go_meet
   case rel => exact ⟨_, (((wrap64 (rd l0 0)) == 2)), eqq_, H', ⟨by first | omega | exact Nat.le_refl _⟩, ⟨qK BK501⟩, ⟨qK BK503⟩, ⟨qB HB⟩⟩
  rw [if_neg c42] at H
  have c42b0 : ((wrap64 (rd l0 0)) == 2) = false := beq_eq_false_iff_ne.mpr c42
  have c42b1 : ((wrap64 (rd l0 0)) != 2) = true := bne_iff_ne.mpr c42
  by_cases c43 : (wrap64 (rd l0 0)) = 4
  rotate_left
  ·
   rw [if_neg c43] at H
   have c43b0 : ((wrap64 (rd l0 0)) == 4) = false := beq_eq_false_iff_ne.mpr c43
   have c43b1 : ((wrap64 (rd l0 0)) != 4) = true := bne_iff_ne.mpr c43
   have H' := Aside0.mk H
   clear H
   go_wp2
   go_meet
   case rel => exact ⟨_, (((wrap64 (rd l0 0)) == 6)), eqq_, H', ⟨by first | omega | exact Nat.le_refl _⟩, ⟨qK BK501⟩, ⟨qK BK503⟩, ⟨qB HB⟩⟩
  rw [if_pos c43] at H
  have c43b0 : ((wrap64 (rd l0 0)) == 4) = true := beq_iff_eq.mpr c43
  have c43b1 : ((wrap64 (rd l0 0)) != 4) = false := bne_eq_false_iff_eq.mpr c43
  clear c43
  have H' := Aside0.mk H
  clear H
  go_wp2
  go_meet
  case rel => exact ⟨_, (((wrap64 (rd l0 0)) == 4)), eqq_, H', ⟨by first | omega | exact Nat.le_refl _⟩, ⟨qK BK501⟩, ⟨qK BK503⟩, ⟨qB HB⟩⟩
 case rest =>
  clear HC40
  try clear c1
  try clear c2
  try clear p2
  try clear c3
  try clear c4
  try clear c4b0
  try clear c4b1
  try clear c4b2
  try clear p5
  try clear q5
  try clear hx5
  try clear qi5
  try clear c6
  try clear c6b0
  try clear c6b1
  try clear p6
  try clear c9
  try clear c12
  try clear c12b0
  try clear c12b1
  try clear c15
  try clear c18
  try clear c19
  try clear c22
  try clear c24
  try clear c24b0
  try clear c24b1
  try clear c25
  try clear c25b0
  try clear c25b1
  try clear c26
  try clear c28
  try clear c28b0
  try clear c28b1
  try clear c31
  try clear c34
  try clear c35
  try clear c38
  try clear c41
  try clear c41b0
  try clear c41b1
  try clear c42
  try clear c42b0
  try clear c42b1
  try clear c43
  try clear c43b0
  try clear c43b1
  (try clear zK503)
  (try clear zK503)
  (try clear zK503)
  (try clear zK501)
  (try clear zK501)
  (try clear zK501)
  (try clear zK503)
  (try clear zK503)
  (try clear zK501)
  (try clear zK501)
  (try clear zK501)
  (try clear fK503)
  (try clear fK503)
  (try clear fK503)
  (try clear fK501)
  (try clear fK501)
  (try clear fK501)
  (try clear fK503)
  (try clear fK503)
  (try clear fK501)
  (try clear fK501)
  (try clear fK501)
  try clear hx502_0
  try clear hx505_0
  try clear p502
  try clear p505
  try clear q502
  try clear q505
  obtain ⟨kq, x31_39, rfl, HA, HJ39, BK501, BK503, HB⟩ := hcut
  cases kq with
  | zero => exact absurd HA.out (by simp [impl_GetFrame.j0])
  | succ kj39 =>
   have H := HA.out
   clear HA
   simp only [impl_GetFrame.j0] at H
   by_cases c44 : x31_39 = true
   rotate_left
   ·
    replace c44 := Bool.eq_false_iff.mpr c44
    subst c44
    rw [if_neg (show ¬ (false = true) by decide)] at H
    replace H := bd_ H
    obtain ⟨t512, A70, H⟩ := H
    have HC71 := Aside0.mk H
    clear H
    have hnb72 := NB503_501.out
    have hnc72 := NB501_503.out
    (try clear zK503)
    have zK503 := cz3 BK503.out
    (try clear fK503)
    have fK503 := fz3 BK503.out
    go_upto_if 70 with (first | ((with_reducible refine gate_callee (f := 98) rfl ?_); refine gl_ (some 69) Try.func98 #[.agg #[.int .i64 (wrap64 (rd l0 0)), .string (⟨#[]⟩ : ByteArray), .int .i64 0]] ?_; (with_reducible refine (impl_FrameOk.calls kj39 (wrap64 (rd l0 0)) (⟨#[]⟩ : ByteArray) 0 t512 _ A70.out).mono ?_); rintro e w74 ⟨rfl, hb⟩; refine ⟨_, rfl, ?_⟩; replace BK501 := bK_ BK501 hb; replace BK503 := bK_ BK503 hb; replace HB := bS_ HB hb; (try clear hb)))
    (try simp only [Act.put, List.setIfInBounds_toArray, List.set_cons_zero, List.set_cons_succ])
    have H := HC71.out
    clear HC71
    by_cases c75 : t512 = true
    rotate_left
    ·
     replace c75 := Bool.eq_false_iff.mpr c75
     subst c75
     rw [if_neg (show ¬ (false = true) by decide)] at H
     simp only [Option.some.injEq, Prod.mk.injEq] at H
     obtain ⟨rfl, rfl, rfl, rfl, rfl⟩ := H
     have hnb79 := NB501_503.out
     have hnc79 := NB503_501.out
     (try clear zK501)
     have zK501 := cz3 BK501.out
     (try clear fK501)
     have fK501 := fz3 BK501.out
     go_wp2
     refine bodyPost_ret (results_ctt rfl _ _ gb501 49 #[.int .i64 0, .string (⟨#[]⟩ : ByteArray), .int .i64 0] (0, 0) _ rfl (by exact blk_all3 (qK BK501)) Try.underlying49 rfl (by kernel_rfl)) rfl ?_
     exact ⟨er_, qB HB⟩
    subst c75
    rw [if_pos rfl] at H
    simp only [Option.some.injEq, Prod.mk.injEq] at H
    obtain ⟨rfl, rfl, rfl, rfl, rfl⟩ := H
    have hnb76 := NB503_501.out
    have hnc76 := NB501_503.out
    (try clear zK503)
    have zK503 := cz3 BK503.out
    (try clear fK503)
    have fK503 := fz3 BK503.out
    (try clear zK501)
    have zK501 := cz3 BK501.out
    (try clear fK501)
    have fK501 := fz3 BK501.out
    go_wp2
    refine bodyPost_ret (results_ctt rfl _ _ gb501 49 #[.int .i64 (wrap64 (rd l0 0)), .string (⟨#[]⟩ : ByteArray), .int .i64 0] (0, 0) _ rfl (by exact blk_all3 (qK BK501)) Try.underlying49 rfl (by kernel_rfl)) rfl ?_
    exact ⟨er_, qB HB⟩
   subst c44
   rw [if_pos rfl] at H
   by_cases c45 : (l0.length : Int) < 2
   ·
    rw [if_pos c45] at H
    have c45b0 : decide ((l0.length : Int) < 2) = true := decide_eq_true c45
    have c45b1 : decide (l0.length < 2) = true := decide_eq_true (by omega)
    clear c45
    simp only [Option.some.injEq, Prod.mk.injEq] at H
    obtain ⟨rfl, rfl, rfl, rfl, rfl⟩ := H
    have hnb46 := NB501_503.out
    have hnc46 := NB503_501.out
    (try clear zK501)
    have zK501 := cz3 BK501.out
    (try clear fK501)
    have fK501 := fz3 BK501.out
    go_wp2
    refine bodyPost_ret (results_ctt rfl _ _ gb501 49 #[.int .i64 0, .string (⟨#[]⟩ : ByteArray), .int .i64 0] (0, 0) _ rfl (by exact blk_all3 (qK BK501)) Try.underlying49 rfl (by kernel_rfl)) rfl ?_
    exact ⟨er_, qB HB⟩
   rw [if_neg c45] at H
   have c45b0 : decide ((l0.length : Int) < 2) = false := decide_eq_false c45
   have c45b1 : decide (l0.length < 2) = false := decide_eq_false (by omega)
   clear c45
   by_cases c48 : 1 < (l0.length : Int)
   case neg => exact nn_ c48 H
   rw [if_pos c48] at H
   have c48b0 : decide (1 < (l0.length : Int)) = true := decide_eq_true c48
   have c48b1 : decide (1 < l0.length) = true := decide_eq_true (by omega)
   clear c48
   by_cases c49 : (wrap64 (rd l0 1)) > 100
   ·
    rw [if_pos c49] at H
    have c49b0 : decide (100 < (wrap64 (rd l0 1))) = true := decide_eq_true c49
    clear c49
    simp only [Option.some.injEq, Prod.mk.injEq] at H
    obtain ⟨rfl, rfl, rfl, rfl, rfl⟩ := H
    have p507 : 0 ≤ (1 : Int) := (by omega)
    have q507 : 1 < (l0.length : Int) := od_
    obtain ⟨ad507, e507, hx507_0⟩ := Kd.at_int HR0.out 1 p507 q507
    obtain rfl : ad502 = ad507 := (by injection e507)
    (try simp only [show (1 : Int).toNat = 1 from rfl, Nat.reduceMul, Nat.reduceEqDiff, Go.Addr.add, ↓reduceIte] at hx507_0)
    have qi507 : (1 < l0.length) = True := eq_true (by omega)
    (try rw [show ((1 : Int)).toNat = 1 from rfl] at hx507_0)
    replace hx507_0 := lb_ HB hx507_0
    replace p507 := eq_true p507
    replace q507 := eq_true q507
    have hnb50 := NB501_503.out
    have hnc50 := NB503_501.out
    (try clear zK501)
    have zK501 := cz3 BK501.out
    (try clear fK501)
    have fK501 := fz3 BK501.out
    go_wp2
    refine bodyPost_ret (results_ctt rfl _ _ gb501 49 #[.int .i64 0, .string (⟨#[]⟩ : ByteArray), .int .i64 0] (0, 0) _ rfl (by exact blk_all3 (qK BK501)) Try.underlying49 rfl (by kernel_rfl)) rfl ?_
    exact ⟨er_, qB HB⟩
   rw [if_neg c49] at H
   have c49b0 : decide (100 < (wrap64 (rd l0 1))) = false := decide_eq_false c49
   clear c49
   by_cases c52 : (l0.length : Int) < (wrap64 (2 + (wrap64 (rd l0 1))))
   ·
    rw [if_pos c52] at H
    have c52b0 : decide ((l0.length : Int) < (wrap64 (2 + (wrap64 (rd l0 1))))) = true := decide_eq_true c52
    clear c52
    simp only [Option.some.injEq, Prod.mk.injEq] at H
    obtain ⟨rfl, rfl, rfl, rfl, rfl⟩ := H
    have p507 : 0 ≤ (1 : Int) := (by omega)
    have q507 : 1 < (l0.length : Int) := od_
    obtain ⟨ad507, e507, hx507_0⟩ := Kd.at_int HR0.out 1 p507 q507
    obtain rfl : ad502 = ad507 := (by injection e507)
    (try simp only [show (1 : Int).toNat = 1 from rfl, Nat.reduceMul, Nat.reduceEqDiff, Go.Addr.add, ↓reduceIte] at hx507_0)
    have qi507 : (1 < l0.length) = True := eq_true (by omega)
    (try rw [show ((1 : Int)).toNat = 1 from rfl] at hx507_0)
    replace hx507_0 := lb_ HB hx507_0
    replace p507 := eq_true p507
    replace q507 := eq_true q507
    have p508 : 0 ≤ (1 : Int) := (by omega)
    have q508 : 1 < (l0.length : Int) := od_
    obtain ⟨ad508, e508, hx508_0⟩ := Kd.at_int HR0.out 1 p508 q508
    obtain rfl : ad502 = ad508 := (by injection e508)
    (try simp only [show (1 : Int).toNat = 1 from rfl, Nat.reduceMul, Nat.reduceEqDiff, Go.Addr.add, ↓reduceIte] at hx508_0)
    have qi508 : (1 < l0.length) = True := eq_true (by omega)
    (try rw [show ((1 : Int)).toNat = 1 from rfl] at hx508_0)
    replace hx508_0 := lb_ HB hx508_0
    replace p508 := eq_true p508
    replace q508 := eq_true q508
    have hnb53 := NB501_503.out
    have hnc53 := NB503_501.out
    (try clear zK501)
    have zK501 := cz3 BK501.out
    (try clear fK501)
    have fK501 := fz3 BK501.out
    go_wp2
    refine bodyPost_ret (results_ctt rfl _ _ gb501 49 #[.int .i64 0, .string (⟨#[]⟩ : ByteArray), .int .i64 0] (0, 0) _ rfl (by exact blk_all3 (qK BK501)) Try.underlying49 rfl (by kernel_rfl)) rfl ?_
    exact ⟨er_, qB HB⟩
   rw [if_neg c52] at H
   have c52b0 : decide ((l0.length : Int) < (wrap64 (2 + (wrap64 (rd l0 1))))) = false := decide_eq_false c52
   clear c52
   by_cases c55 : 2 ≤ (wrap64 (2 + (wrap64 (rd l0 1))))
   case neg => exact nn_ c55 H
   rw [if_pos c55] at H
   have c55b0 := eq_true c55
   have c55b1 : decide (2 ≤ (wrap64 (2 + (wrap64 (rd l0 1))))) = true := decide_eq_true c55
   by_cases c56 : (wrap64 (2 + (wrap64 (rd l0 1)))) ≤ (l0.length : Int)
   case neg => exact nn_ c56 H
   rw [if_pos c56] at H
   have c56b0 := eq_true c56
   have c56b1 : decide ((wrap64 (2 + (wrap64 (rd l0 1)))) ≤ (l0.length : Int)) = true := decide_eq_true c56
   replace H := bd_ H
   obtain ⟨t511, A57, H⟩ := H
   have HC58 := Aside0.mk H
   clear H
   have p507 : 0 ≤ (1 : Int) := (by omega)
   have q507 : 1 < (l0.length : Int) := od_
   obtain ⟨ad507, e507, hx507_0⟩ := Kd.at_int HR0.out 1 p507 q507
   obtain rfl : ad502 = ad507 := (by injection e507)
   (try simp only [show (1 : Int).toNat = 1 from rfl, Nat.reduceMul, Nat.reduceEqDiff, Go.Addr.add, ↓reduceIte] at hx507_0)
   have qi507 : (1 < l0.length) = True := eq_true (by omega)
   (try rw [show ((1 : Int)).toNat = 1 from rfl] at hx507_0)
   replace hx507_0 := lb_ HB hx507_0
   replace p507 := eq_true p507
   replace q507 := eq_true q507
   have p508 : 0 ≤ (1 : Int) := (by omega)
   have q508 : 1 < (l0.length : Int) := od_
   obtain ⟨ad508, e508, hx508_0⟩ := Kd.at_int HR0.out 1 p508 q508
   obtain rfl : ad502 = ad508 := (by injection e508)
   (try simp only [show (1 : Int).toNat = 1 from rfl, Nat.reduceMul, Nat.reduceEqDiff, Go.Addr.add, ↓reduceIte] at hx508_0)
   have qi508 : (1 < l0.length) = True := eq_true (by omega)
   (try rw [show ((1 : Int)).toNat = 1 from rfl] at hx508_0)
   replace hx508_0 := lb_ HB hx508_0
   replace p508 := eq_true p508
   replace q508 := eq_true q508
   have p509 : 0 ≤ (1 : Int) := (by omega)
   have q509 : 1 < (l0.length : Int) := od_
   obtain ⟨ad509, e509, hx509_0⟩ := Kd.at_int HR0.out 1 p509 q509
   obtain rfl : ad502 = ad509 := (by injection e509)
   (try simp only [show (1 : Int).toNat = 1 from rfl, Nat.reduceMul, Nat.reduceEqDiff, Go.Addr.add, ↓reduceIte] at hx509_0)
   have qi509 : (1 < l0.length) = True := eq_true (by omega)
   (try rw [show ((1 : Int)).toNat = 1 from rfl] at hx509_0)
   replace hx509_0 := lb_ HB hx509_0
   replace p509 := eq_true p509
   replace q509 := eq_true q509
   obtain ⟨i059, hi059, _, hsz59, _⟩ := info_parts info5
   obtain ⟨A59, hcut59, hA59, hC59⟩ := print_mid_of (P := Try.prog) (Value.int .u8) 0 22 5 .i64 .i64 Try.underlying22 hi059 hsz59 (some ad502) c0 l0 2 (wrap64 (2 + (wrap64 (rd l0 1)))) (by omega) (by first | omega | exact od_) od_ HC0.out
   have HR510 := Aside0.mk (Kd.C_of_reads (h1 := fun _ => rfl) (hA59 _ (Kd.reads_of_C HR0.out)))
   have HC510 := Aside0.mk hC59
   clear hA59 hC59 hi059 hsz59
   have hcv60 := conv_len (Kd.C_string (P := Try.prog) (A := A59) (c := (c0 - 2)) Try.underlying22 Try.underlying5 Try.underlying9 (Kd.C_below HR510.out HB.out))
   have hnb61 := NB503_501.out
   have hnc61 := NB501_503.out
   (try clear zK503)
   have zK503 := cz3 BK503.out
   (try clear fK503)
   have fK503 := fz3 BK503.out
   go_upto_if 70 with (first | ((with_reducible refine gate_callee (f := 98) rfl ?_); refine gl_ (some 69) Try.func98 #[.agg #[.int .i64 (wrap64 (rd l0 0)), .string (strOfNums ((l0.take ((wrap64 (2 + (wrap64 (rd l0 1)))) : Int).toNat).drop 2)), .int .i64 0]] ?_; (with_reducible refine (impl_FrameOk.calls kj39 (wrap64 (rd l0 0)) (strOfNums ((l0.take ((wrap64 (2 + (wrap64 (rd l0 1)))) : Int).toNat).drop 2)) 0 t511 _ A57.out).mono ?_); rintro e w63 ⟨rfl, hb⟩; refine ⟨_, rfl, ?_⟩; replace BK501 := am_ (blk_below (g := gb501) (o := .cells #[.int .i64 0, .string (⟨#[]⟩ : ByteArray), .int .i64 0] 49 (0, 0)) (by (with_reducible repeat (first | refine blk_drewN ?_ _ | refine blk_drew ?_ | refine blk_alloc ?_ _)); refine blk_far ?_ NB501_503.out _; exact qK BK501) hb); replace BK503 := am_ (blk_below (g := gb503) (o := .cells #[.int .i64 (wrap64 (rd l0 0)), .string (strOfNums ((l0.take ((wrap64 (2 + (wrap64 (rd l0 1)))) : Int).toNat).drop 2)), .int .i64 0] 49 (0, 0)) (by (with_reducible repeat (first | refine blk_drewN ?_ _ | refine blk_drew ?_ | refine blk_alloc ?_ _)); refine blk_put (cs := #[.int .i64 (wrap64 (rd l0 0)), .string (⟨#[]⟩ : ByteArray), .int .i64 0]) ?_ 1 _ rfl; exact qK BK503) hb); replace HB := bS_ HB hb; (try clear hb)))
   (try simp only [Act.put, List.setIfInBounds_toArray, List.set_cons_zero, List.set_cons_succ])
   have H := HC58.out
   clear HC58
   by_cases c64 : t511 = true
   rotate_left
   ·
    replace c64 := Bool.eq_false_iff.mpr c64
    subst c64
    rw [if_neg (show ¬ (false = true) by decide)] at H
    simp only [Option.some.injEq, Prod.mk.injEq] at H
    obtain ⟨rfl, rfl, rfl, rfl, rfl⟩ := H
    have hnb68 := NB501_503.out
    have hnc68 := NB503_501.out
    (try clear zK501)
    have zK501 := cz3 BK501.out
    (try clear fK501)
    have fK501 := fz3 BK501.out
    go_wp2
    refine bodyPost_ret (results_ctt rfl _ _ gb501 49 #[.int .i64 0, .string (⟨#[]⟩ : ByteArray), .int .i64 0] (0, 0) _ rfl (by exact blk_all3 (qK BK501)) Try.underlying49 rfl (by kernel_rfl)) rfl ?_
    exact ⟨er_, qB HB⟩
   subst c64
   rw [if_pos rfl] at H
   simp only [Option.some.injEq, Prod.mk.injEq] at H
   obtain ⟨rfl, rfl, rfl, rfl, rfl⟩ := H
   have hnb65 := NB503_501.out
   have hnc65 := NB501_503.out
   (try clear zK503)
   have zK503 := cz3 BK503.out
   (try clear zK501)
   have zK501 := cz3 BK501.out
   (try clear fK501)
   have fK501 := fz3 BK501.out
   go_wp2
   refine bodyPost_ret (results_ctt rfl _ _ gb501 49 #[.int .i64 (wrap64 (rd l0 0)), .string (strOfNums ((l0.take ((wrap64 (2 + (wrap64 (rd l0 1)))) : Int).toNat).drop 2)), .int .i64 0] (0, 0) _ rfl (by exact blk_all3 (qK BK501)) Try.underlying49 rfl (by kernel_rfl)) rfl ?_
   exact ⟨er_, qB HB⟩

/-! ### impl_Eat: function 25 -/
def impl_Eat.f (k : Nat) (a0_0 : Int) (a0_1 : Int) (a0_2 : Int) (a0_3 : Bool) (l0_4 : List Int) (l0_5 : List Int) (a0_6 : Int) (a0_7 : Int) : Option (Int × Int × Int × Bool × List Int × List Int × Int × Int) := (impl_sockCopy.f a0_0 a0_1 a0_2 a0_3 l0_4 l0_5 a0_6 a0_7).bind fun bt515 => ((impl_GetFrame.f k l0_4).bind fun bt528 => (if 0 ≤ bt528.2.2.2.1 then (if bt528.2.2.2.1 ≤ (bt515.2.2.2.2.1.length : Int) then (some (bt515.1, bt515.2.1, bt515.2.2.1, bt515.2.2.2.1, (bt515.2.2.2.2.1.drop (bt528.2.2.2.1 : Int).toNat), bt515.2.2.2.2.2.1, bt515.2.2.2.2.2.2.1, bt515.2.2.2.2.2.2.2)) else (none)) else (none)))
theorem impl_Eat.mono : ∀ a0 a1 a2 a3 a4 a5 a6 a7 k, LeO (impl_Eat.f k a0 a1 a2 a3 a4 a5 a6 a7) (impl_Eat.f (k + 1) a0 a1 a2 a3 a4 a5 a6 a7) := by
 intro a0 a1 a2 a3 a4 a5 a6 a7 k
 unfold impl_Eat.f
 have m0 := @impl_GetFrame.mono; exact mo_
set_option maxHeartbeats 8000000 in
set_option maxRecDepth 100000 in
theorem impl_Eat.calls (k : Nat) (a0_0 : Int) (a0_1 : Int) (a0_2 : Int) (a0_3 : Bool) (A0_4 : Option Addr) (c0_4 : Nat) (l0_4 : List Int) (A0_5 : Option Addr) (c0_5 : Nat) (l0_5 : List Int) (a0_6 : Int) (a0_7 : Int) (r1 : Int) (r2 : Int) (r3 : Int) (r4 : Bool) (r5 : List Int) (r6 : List Int) (r7 : Int) (r8 : Int) (w : World) (hr0_4 : Kd.C (Kd.int .u8) w A0_4 l0_4.length l0_4) (hc0_4 : l0_4.length ≤ c0_4) (hr0_5 : Kd.C (Kd.int .u8) w A0_5 l0_5.length l0_5) (hc0_5 : l0_5.length ≤ c0_5) (h : impl_Eat.f k a0_0 a0_1 a0_2 a0_3 l0_4 l0_5 a0_6 a0_7 = some (r1, r2, r3, r4, r5, r6, r7, r8)) :
  Calls Try.prog 25 #[.agg #[.int .i64 a0_0, .int .i64 a0_1, .int .i64 a0_2, .bool a0_3, .slice A0_4 l0_4.length c0_4, .slice A0_5 l0_5.length c0_5, .int .i64 a0_6, .int .i64 a0_7]] w fun e w' => ∃ v4_ v5_ : Value, e = .returned (.agg #[.int .i64 r1, .int .i64 r2, .int .i64 r3, .bool r4, v4_, v5_, .int .i64 r7, .int .i64 r8]) ∧ Kd.Q (Kd.int .u8) 5 w' w.heap.size (fun k_ => some k_ ≠ (v5_ : Value).ownBlock) v4_ r5 ∧ Kd.R (Kd.int .u8) 5 w' w.heap.size (fun k_ => some k_ ≠ (v4_ : Value).ownBlock) v5_ r6 ∧ Below w.heap.size w w' := by
 have hu41 := Try.underlying41
 have hu49 := Try.underlying49
 have HR0_4 := Aside0.mk hr0_4
 have HC0_4 := Aside0.mk hc0_4
 clear hr0_4 hc0_4
 have HR0_5 := Aside0.mk hr0_5
 have HC0_5 := Aside0.mk hc0_5
 clear hr0_5 hc0_5
 have HB := Aside0.mk (Below.refl w.heap.size w)
 have H := h
 unfold impl_Eat.f at H
 clear h
 replace H := bf_ H
 obtain ⟨f_, hf_, ⟨t515, t516, t517, t518, t519, t522, t525, t526⟩, A2, H⟩ := H
 subst hf_
 (try dsimp only at H)
 replace H := bf_ H
 obtain ⟨f_, hf_, ⟨t528, t529, t530, t531, t532⟩, A3, H⟩ := H
 subst hf_
 (try dsimp only at H)
 by_cases c4 : 0 ≤ t531
 case neg => exact nn_ c4 H
 rw [if_pos c4] at H
 have c4b0 := eq_true c4
 have c4b1 : decide (0 ≤ t531) = true := decide_eq_true c4
 clear c4
 by_cases c5 : t531 ≤ (t519.length : Int)
 case neg => exact nn_ c5 H
 rw [if_pos c5] at H
 have c5b0 := eq_true c5
 have c5b1 : decide (t531 ≤ (t519.length : Int)) = true := decide_eq_true c5
 clear c5
 obtain ⟨y534, hy534⟩ : ∃ y_ : List Int, y_ = (t519.drop (t531 : Int).toNat) := ⟨_, rfl⟩
 rw [← hy534] at H
 have Ny534 := Aside0.mk hy534
 clear hy534
 simp only [Option.some.injEq, Prod.mk.injEq] at H
 obtain ⟨rfl, rfl, rfl, rfl, rfl, rfl, rfl, rfl⟩ := H
 go_enter Try.func25, Try.ntmps25
 go_wp2_with (first | ((with_reducible refine gate_dst (N := 1) rfl ?_); refine box_event ?hg (N := 1) ?hd (cs := #[.int .i64 a0_0, .int .i64 a0_1, .int .i64 a0_2, .bool a0_3, .slice A0_4 l0_4.length c0_4, .slice A0_5 l0_5.length c0_5, .int .i64 a0_6, .int .i64 a0_7]) (t := 41) ?hr ?_; (case hd => rfl); (case hg => rfl); (case hr => first | (go_simp; done) | (go_simp; rfl) | ((try (obtain ⟨_, _, rfl⟩ := Kd.R_slice HO521.out)); (try (obtain ⟨_, _, rfl⟩ := Kd.R_slice HO524.out)); first | (go_simp; done) | (go_simp; rfl))); intro gb513 hg w6 hbox hb; have BK513 := am_ (hbox); have GW513 := gA_ hg HB; have GE513 := GW513; have IGE513 := gI_ GE513; replace HB := bS_ HB hb; clear hb hbox hg) | ((with_reducible refine gate_dst (N := 2) rfl ?_); refine box_event ?hg (N := 2) ?hd (cs := #[.int .i64 0, .int .i64 0, .int .i64 0, .bool false, .slice none 0 0, .slice none 0 0, .int .i64 0, .int .i64 0]) (t := 41) ?hr ?_; (case hd => rfl); (case hg => rfl); (case hr => first | (go_simp; done) | (go_simp; rfl) | ((try (obtain ⟨_, _, rfl⟩ := Kd.R_slice HO521.out)); (try (obtain ⟨_, _, rfl⟩ := Kd.R_slice HO524.out)); first | (go_simp; done) | (go_simp; rfl))); intro gb514 hg w7 hbox hb; have BK514 := am_ (hbox); have GW514 := gA_ hg HB; have GE514 := GW514; have IGE514 := gI_ GE514; replace HB := bS_ HB hb; have NB513_514 := am_ ((gN_ hg (qK BK513))); have NB514_513 := am_ ((gM_ hg (qK BK513))); replace BK513 := bK_ BK513 hb; clear hb hbox hg; have hnb8 := NB513_514.out; have hnc8 := NB514_513.out; (try clear zK513); have zK513 := cz8 BK513.out; (try clear fK513); have fK513 := fz8 BK513.out) | ((with_reducible refine gate_callee (f := 92) rfl ?_); refine gl_ (some 8) Try.func92 #[.agg #[.int .i64 a0_0, .int .i64 a0_1, .int .i64 a0_2, .bool a0_3, .slice A0_4 l0_4.length c0_4, .slice A0_5 l0_5.length c0_5, .int .i64 a0_6, .int .i64 a0_7]] ?_; (with_reducible refine (impl_sockCopy.calls a0_0 a0_1 a0_2 a0_3 _ _ l0_4 _ _ l0_5 a0_6 a0_7 t515 t516 t517 t518 t519 t522 t525 t526 _ ?side1 ?side2 ?side3 ?side4 A2.out).mono ?_); (case side1 => exact qC (Kd.C_below HR0_4.out HB.out)); (case side2 => exact HC0_4.out); (case side3 => exact qC (Kd.C_below HR0_5.out HB.out)); (case side4 => exact HC0_5.out); rintro e w10 ⟨v520, v523, rfl, ho0, ho1, hb⟩; refine ⟨_, rfl, ?_⟩; have HO521 := am_ (Kd.R_lower ho0 (below_size (qB HB))); have HO524 := am_ (Kd.R_lower ho1 (below_size (qB HB))); replace BK513 := bK_ BK513 hb; replace BK514 := bK_ BK514 hb; replace HB := bS_ HB hb; (try clear hb); (try clear ho0); (try clear ho1)) | ((with_reducible refine gate_dst (N := 3) rfl ?_); refine box_event ?hg (N := 3) ?hd (cs := #[.int .i64 0, .int .i64 0, .int .i64 0, .bool false, .slice none 0 0, .slice none 0 0, .int .i64 0, .int .i64 0]) (t := 41) ?hr ?_; (case hd => rfl); (case hg => rfl); (case hr => first | (go_simp; done) | (go_simp; rfl) | ((try (obtain ⟨_, _, rfl⟩ := Kd.R_slice HO521.out)); (try (obtain ⟨_, _, rfl⟩ := Kd.R_slice HO524.out)); first | (go_simp; done) | (go_simp; rfl))); intro gb527 hg w11 hbox hb; replace HO521 := rB_ HO521 hb; replace HO524 := rB_ HO524 hb; have BK527 := am_ (hbox); have GW527 := gA_ hg HB; have GE527 := GW527; have IGE527 := gI_ GE527; replace HB := bS_ HB hb; have NB513_527 := am_ ((gN_ hg (qK BK513))); have NB527_513 := am_ ((gM_ hg (qK BK513))); replace BK513 := bK_ BK513 hb; have NB514_527 := am_ ((gN_ hg (qK BK514))); have NB527_514 := am_ ((gM_ hg (qK BK514))); replace BK514 := bK_ BK514 hb; clear hb hbox hg; have hnb12 := NB527_513.out; have hnc12 := NB513_527.out; have hnb13 := NB527_514.out; have hnc13 := NB514_527.out; (try clear zK527); have zK527 := cz8 BK527.out; (try clear fK527); have fK527 := fz8 BK527.out; obtain ⟨Ao15, co15, eo15⟩ := Kd.R_slice HO521.out; subst eo15; obtain ⟨Ao16, co16, eo16⟩ := Kd.R_slice HO524.out; subst eo16; (try clear zK513); have zK513 := cz8 BK513.out; (try clear fK513); have fK513 := fz8 BK513.out) | ((with_reducible refine gate_callee (f := 94) rfl ?_); refine gl_ (some 12) Try.func94 #[.slice A0_4 l0_4.length c0_4] ?_; (with_reducible refine (impl_GetFrame.calls k _ _ l0_4 t528 t529 t530 t531 t532 _ ?side1 ?side2 A3.out).mono ?_); (case side1 => exact Kd.C_below HR0_4.out (qB HB)); (case side2 => exact HC0_4.out); rintro e w18 ⟨rfl, hb⟩; refine ⟨_, rfl, ?_⟩; replace HO521 := am_ (Kd.R_below (fR2_ HO521 BK527) hb); replace HO524 := am_ (Kd.R_below (fR2_ HO524 BK527) hb); replace BK513 := am_ (blk_below (g := gb513) (o := .cells #[.int .i64 a0_0, .int .i64 a0_1, .int .i64 a0_2, .bool a0_3, .slice A0_4 l0_4.length c0_4, .slice A0_5 l0_5.length c0_5, .int .i64 a0_6, .int .i64 a0_7] 41 (0, 0)) (by (with_reducible repeat (first | refine blk_drewN ?_ _ | refine blk_drew ?_ | refine blk_alloc ?_ _)); refine blk_far8 ?_ NB513_527.out; (with_reducible repeat (first | refine blk_drewN ?_ _ | refine blk_drew ?_ | refine blk_alloc ?_ _)); exact BK513.out) hb); replace BK514 := am_ (blk_below (g := gb514) (o := .cells #[.int .i64 0, .int .i64 0, .int .i64 0, .bool false, .slice none 0 0, .slice none 0 0, .int .i64 0, .int .i64 0] 41 (0, 0)) (by (with_reducible repeat (first | refine blk_drewN ?_ _ | refine blk_drew ?_ | refine blk_alloc ?_ _)); refine blk_far8 ?_ NB514_527.out; (with_reducible repeat (first | refine blk_drewN ?_ _ | refine blk_drew ?_ | refine blk_alloc ?_ _)); exact BK514.out) hb); replace BK527 := am_ (blk_below (g := gb527) (o := .cells #[.int .i64 t515, .int .i64 t516, .int .i64 t517, .bool t518, .slice Ao15 t519.length co15, .slice Ao16 t522.length co16, .int .i64 t525, .int .i64 t526] 41 (0, 0)) (by (with_reducible repeat (first | refine blk_drewN ?_ _ | refine blk_drew ?_ | refine blk_alloc ?_ _)); refine blk_all8 (show _ = some (Go.Obj.cells #[.int .i64 0, .int .i64 0, .int .i64 0, .bool false, .slice none 0 0, .slice none 0 0, .int .i64 0, .int .i64 0] _ (0, 0)) from ?_); (with_reducible repeat (first | refine blk_drewN ?_ _ | refine blk_drew ?_ | refine blk_alloc ?_ _)); exact BK527.out) hb); replace HB := bS_ HB hb; (try clear hb)) | ((with_reducible refine gate_dst (N := 4) rfl ?_); refine box_event ?hg (N := 4) ?hd (cs := #[.int .i64 0, .string (⟨#[]⟩ : ByteArray), .int .i64 0]) (t := 49) ?hr ?_; (case hd => rfl); (case hg => rfl); (case hr => first | (go_simp; done) | (go_simp; rfl) | ((try (obtain ⟨_, _, rfl⟩ := Kd.R_slice HO521.out)); (try (obtain ⟨_, _, rfl⟩ := Kd.R_slice HO524.out)); first | (go_simp; done) | (go_simp; rfl))); intro gb533 hg w19 hbox hb; replace HO521 := rB_ HO521 hb; replace HO524 := rB_ HO524 hb; have BK533 := am_ (hbox); have GW533 := gA_ hg HB; have GE533 := GW533; have IGE533 := gI_ GE533; replace HB := bS_ HB hb; have NB513_533 := am_ ((gN_ hg (qK BK513))); have NB533_513 := am_ ((gM_ hg (qK BK513))); replace BK513 := bK_ BK513 hb; have NB514_533 := am_ ((gN_ hg (qK BK514))); have NB533_514 := am_ ((gM_ hg (qK BK514))); replace BK514 := bK_ BK514 hb; have NB527_533 := am_ ((gN_ hg (qK BK527))); have NB533_527 := am_ ((gM_ hg (qK BK527))); replace BK527 := bK_ BK527 hb; clear hb hbox hg; have hnb20 := NB533_513.out; have hnc20 := NB513_533.out; have hnb21 := NB533_514.out; have hnc21 := NB514_533.out; have hnb22 := NB533_527.out; have hnc22 := NB527_533.out; (try clear zK533); have zK533 := cz3 BK533.out; (try clear fK533); have fK533 := fz3 BK533.out) | ((with_reducible refine gate_store (t := 49) (p := 4) rfl ?_); refine store_evs (t := 49) (p := 4) (j := 0) (cs := [.int .i64 t528, .string t529, .int .i64 t530]) (qK BK533) ?_; intro w24 hw; have n0_ := fR0_ hw HO521 BK533; have n1_ := fR0_ hw HO524 BK533; replace BK513 := sK_ hw BK513 NB513_533; replace BK514 := sK_ hw BK514 NB514_533; replace BK527 := sK_ hw BK527 NB527_533; replace HB := sB_ hw HB; replace BK533 := sW_ hw BK533; clear hw; clear HO521 HO524; have HO521 := n0_; have HO524 := n1_; clear n0_ n1_; (try clear zK527); have zK527 := cz8 BK527.out; (try clear fK527); have fK527 := fz8 BK527.out; have q26 : (t531 : Int) ≤ ((t519.length : Int) : Int) := od_; obtain ⟨i026, hi026, _, hsz26, _⟩ := info_parts info5; have hcut26 := cut_from (P := Try.prog) 22 5 .i64 Try.underlying22 hi026 1 hsz26 Ao15 t519.length co15 t531 od_ q26; have hr26 := Kd.Q_drop (k := (t531 : Int).toNat) (Kd.Q_of_R HO521.out) (by omega); obtain ⟨A26, hA26⟩ : ∃ A1, A1 = (if co15 = (t531 : Int).toNat then Ao15 else (Ao15 : Option Addr).map (·.add ((t531 : Int).toNat * 1))) := ⟨_, rfl⟩; obtain ⟨c26, hc26⟩ : ∃ c1, c1 = co15 - (t531 : Int).toNat := ⟨_, rfl⟩; have hy26 : y534.length = t519.length - (t531 : Int).toNat := (by rw [Ny534.out, List.length_drop]); rw [← Ny534.out] at hr26; rw [← hy26, ← hA26, ← hc26] at hcut26; replace hr26 : Kd.Q (Kd.int .u8) 5 w24 w.heap.size (fun k_ => some k_ ≠ (.slice Ao16 t522.length co16 : Value).ownBlock) (.slice A26 y534.length c26) y534 := (by rw [hA26, hc26, hy26]; exact hr26); have HE26 : Aside0 ((Value.slice A26 y534.length c26).ownBlock = (.slice Ao15 t519.length co15 : Value).ownBlock) := ⟨by rw [hA26]; split <;> (cases (Ao15 : Option Addr) <;> first | rfl | (simp only [Option.map_some, Option.map_none, Value.ownBlock, add_block]; done) | (simp [Value.ownBlock, add_block]; done))⟩; clear hy26 hi026 hsz26 HO521 hA26 hc26; have HO536 := Aside0.mk hr26; clear hr26; replace q26 := eq_true q26; have n_ := Aside0.mk (Kd.R_mono (ok' := fun k_ => some k_ ≠ (.slice A26 y534.length c26 : Value).ownBlock) HO524.out (fun k_ hk => (by rw [HE26.out]; exact hk))); clear HO524; have HO524 := n_; clear n_; (try clear zK514); have zK514 := cz8 BK514.out; (try clear fK514); have fK514 := fz8 BK514.out))
 refine bodyPost_ret (results_cell_row rfl _ _ gb514 41 #[.int .i64 t515, .int .i64 t516, .int .i64 t517, .bool t518, .slice A26 y534.length c26, .slice Ao16 t522.length co16, .int .i64 t525, .int .i64 t526] (0, 0) _ rfl (by (with_reducible repeat (first | refine blk_drewN ?_ _ | refine blk_drew ?_ | refine blk_alloc ?_ _)); refine blk_put (cs := #[.int .i64 t515, .int .i64 t516, .int .i64 t517, .bool t518, .slice A26 y534.length c26, .slice Ao16 t522.length co16, .int .i64 t525, .int .i64 0]) ?_ 7 _ rfl; (with_reducible repeat (first | refine blk_drewN ?_ _ | refine blk_drew ?_ | refine blk_alloc ?_ _)); refine blk_put (cs := #[.int .i64 t515, .int .i64 t516, .int .i64 t517, .bool t518, .slice A26 y534.length c26, .slice Ao16 t522.length co16, .int .i64 0, .int .i64 0]) ?_ 6 _ rfl; (with_reducible repeat (first | refine blk_drewN ?_ _ | refine blk_drew ?_ | refine blk_alloc ?_ _)); refine blk_put (cs := #[.int .i64 t515, .int .i64 t516, .int .i64 t517, .bool t518, .slice A26 y534.length c26, .slice none 0 0, .int .i64 0, .int .i64 0]) ?_ 5 _ rfl; (with_reducible repeat (first | refine blk_drewN ?_ _ | refine blk_drew ?_ | refine blk_alloc ?_ _)); refine blk_put (cs := #[.int .i64 t515, .int .i64 t516, .int .i64 t517, .bool t518, .slice none 0 0, .slice none 0 0, .int .i64 0, .int .i64 0]) ?_ 4 _ rfl; (with_reducible repeat (first | refine blk_drewN ?_ _ | refine blk_drew ?_ | refine blk_alloc ?_ _)); refine blk_put (cs := #[.int .i64 t515, .int .i64 t516, .int .i64 t517, .bool false, .slice none 0 0, .slice none 0 0, .int .i64 0, .int .i64 0]) ?_ 3 _ rfl; (with_reducible repeat (first | refine blk_drewN ?_ _ | refine blk_drew ?_ | refine blk_alloc ?_ _)); refine blk_put (cs := #[.int .i64 t515, .int .i64 t516, .int .i64 0, .bool false, .slice none 0 0, .slice none 0 0, .int .i64 0, .int .i64 0]) ?_ 2 _ rfl; (with_reducible repeat (first | refine blk_drewN ?_ _ | refine blk_drew ?_ | refine blk_alloc ?_ _)); refine blk_put (cs := #[.int .i64 t515, .int .i64 0, .int .i64 0, .bool false, .slice none 0 0, .slice none 0 0, .int .i64 0, .int .i64 0]) ?_ 1 _ rfl; (with_reducible repeat (first | refine blk_drewN ?_ _ | refine blk_drew ?_ | refine blk_alloc ?_ _)); refine blk_put (cs := #[.int .i64 0, .int .i64 0, .int .i64 0, .bool false, .slice none 0 0, .slice none 0 0, .int .i64 0, .int .i64 0]) ?_ 0 _ rfl; (with_reducible repeat (first | refine blk_drewN ?_ _ | refine blk_drew ?_ | refine blk_alloc ?_ _)); refine blk_far ?_ NB514_527.out _; (with_reducible repeat (first | refine blk_drewN ?_ _ | refine blk_drew ?_ | refine blk_alloc ?_ _)); exact BK514.out) Try.underlying41 rfl (by kernel_rfl)) rfl ?_
 exact ⟨_, _, by first | rfl | (simp [errW_none, errW_some] <;> rfl) | (simp [*, errW_none, errW_some] <;> rfl), by (with_reducible repeat (first | apply Kd.Q_alloc | apply Kd.Q_drewN | apply Kd.Q_drew)); exact Kd.Q_mono (Kd.Q_far (p := ⟨gb514, 7, none⟩) (Kd.Q_far (p := ⟨gb514, 6, none⟩) (Kd.Q_far (p := ⟨gb514, 5, none⟩) (Kd.Q_far (p := ⟨gb514, 4, none⟩) (Kd.Q_far (p := ⟨gb514, 3, none⟩) (Kd.Q_far (p := ⟨gb514, 2, none⟩) (Kd.Q_far (p := ⟨gb514, 1, none⟩) (Kd.Q_far (p := ⟨gb514, 0, none⟩) (Kd.Q_far (p := ⟨gb527, 4, none⟩) (Kd.Q_types (Kd.Q_types HO536.out BK527.out (by decide)) BK514.out (by decide)) (fun _ hk => hk.1.2) (.slice A26 y534.length c26)) (fun _ hk => hk.2) (.int .i64 t515)) (fun _ hk => hk.2) (.int .i64 t516)) (fun _ hk => hk.2) (.int .i64 t517)) (fun _ hk => hk.2) (.bool t518)) (fun _ hk => hk.2) (.slice A26 y534.length c26)) (fun _ hk => hk.2) (.slice Ao16 t522.length co16)) (fun _ hk => hk.2) (.int .i64 t525)) (fun _ hk => hk.2) (.int .i64 t526)) (fun _ hk => hk.1.1), by (with_reducible repeat (first | apply Kd.R_alloc | apply Kd.R_drewN | apply Kd.R_drew)); exact Kd.R_mono (R_far8 (g := gb514) (Kd.R_far (p := ⟨gb527, 4, none⟩) (Kd.R_types (Kd.R_types HO524.out BK527.out (by decide)) BK514.out (by decide)) (fun _ hk => hk.1.2) (.slice A26 y534.length c26)) (fun _ hk => hk.2)) (fun _ hk => hk.1.1), qB HB⟩

end Go.Proofs.Ytiffahfpfgnjnaa.PFnSocks
