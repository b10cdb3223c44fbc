-- Written by a program of this session (myprint.py, over the kit's print): contracts of FnFar
import Derived.Test.YtaimfkfpglhijaaPFnFarx0
import Derived.Test.YtaimfkfpglhijaaPFnFarx6
import Derived.Test.YtaimfkfpglhijaaPFnFarx7
namespace Go.Proofs.Ytaimfkfpglhijaa.PFnFar
open Go.RowKit Go.Proofs.YtaimfkfpglhijaaW.PrintWords Go.Proofs.YtaimfkfpglhijaaW.PrintLast Go.Proofs.YtaimfkfpglhijaaW.PrintMore Go.Proofs.YtaimfkfpglhijaaV
attribute [local go_sem] max2_int min2_int max_two min_two max_three min_three max_four min_four   -- for this text's walks alone
set_option linter.unusedVariables false
set_option linter.unusedSimpArgs false

/-! ### impl_GetFrame: function 28 -/
def impl_GetFrame.j0 : Nat → List Int → Int → Bool → Int → ByteArray → Int → Option (Int × ByteArray × Int × Int × Int)
 | 0, _, _, _, _, _, _ => none
 | k + 1, x0, x6, x31, x410000, x410001, x410002 => if x31 = true then (if (x0.length : Int) < 2 then (some (0, (⟨#[]⟩ : ByteArray), 0, 0, 1)) else (if 1 < (x0.length : Int) then (if (wrap64 (rd x0 1)) > 100 then (some (0, (⟨#[]⟩ : ByteArray), 0, 0, 2)) else (if (x0.length : Int) < (wrap64 (2 + (wrap64 (rd x0 1)))) then (some (0, (⟨#[]⟩ : ByteArray), 0, 0, 1)) else (if 2 ≤ (wrap64 (2 + (wrap64 (rd x0 1)))) then (if (wrap64 (2 + (wrap64 (rd x0 1)))) ≤ (x0.length : Int) then ((impl_FrameOk.f k x410000 (strOfNums ((x0.take ((wrap64 (2 + (wrap64 (rd x0 1)))) : Int).toNat).drop 2)) x410002).bind fun t417 => (if t417 = true then (some (x410000, strOfNums ((x0.take ((wrap64 (2 + (wrap64 (rd x0 1)))) : Int).toNat).drop 2), x410002, wrap64 (2 + (wrap64 (rd x0 1))), 0)) else (some (0, (⟨#[]⟩ : ByteArray), 0, 0, 2)))) else (none)) else (none)))) else (none))) else ((impl_FrameOk.f k x410000 x410001 x410002).bind fun t418 => (if t418 = true then (some (x410000, x410001, x410002, x6, 0)) else (some (0, (⟨#[]⟩ : ByteArray), 0, 0, 2))))
def impl_GetFrame.f (k : Nat) (l0 : List Int) : Option (Int × ByteArray × Int × Int × Int) := if (l0.length : Int) = 0 then (some (0, (⟨#[]⟩ : ByteArray), 0, 0, 1)) else (if 0 < (l0.length : Int) then (if (wrap64 (rd l0 0)) = 3 then ((impl_FrameOk.f k (wrap64 (rd l0 0)) (⟨#[]⟩ : ByteArray) 0).bind fun t410 => (if t410 = true then (some (wrap64 (rd l0 0), (⟨#[]⟩ : ByteArray), 0, 1, 0)) else (some (0, (⟨#[]⟩ : ByteArray), 0, 0, 2)))) else (if (wrap64 (rd l0 0)) = 5 then (if (l0.length : Int) < 2 then (some (0, (⟨#[]⟩ : ByteArray), 0, 0, 1)) else (if 1 < (l0.length : Int) then ((impl_FrameOk.f k (wrap64 (rd l0 0)) (⟨#[]⟩ : ByteArray) (wrap64 (rd l0 1))).bind fun t412 => (if t412 = true then (some (wrap64 (rd l0 0), (⟨#[]⟩ : ByteArray), wrap64 (rd l0 1), 2, 0)) else (some (0, (⟨#[]⟩ : ByteArray), 0, 0, 2)))) else (none))) else (if (wrap64 (rd l0 0)) = 1 then (impl_GetFrame.j0 k l0 1 ((wrap64 (rd l0 0)) == 1) (wrap64 (rd l0 0)) (⟨#[]⟩ : ByteArray) 0) else (if (wrap64 (rd l0 0)) = 2 then (impl_GetFrame.j0 k l0 1 ((wrap64 (rd l0 0)) == 2) (wrap64 (rd l0 0)) (⟨#[]⟩ : ByteArray) 0) else (if (wrap64 (rd l0 0)) = 4 then (impl_GetFrame.j0 k l0 1 ((wrap64 (rd l0 0)) == 4) (wrap64 (rd l0 0)) (⟨#[]⟩ : ByteArray) 0) else (impl_GetFrame.j0 k l0 1 ((wrap64 (rd l0 0)) == 6) (wrap64 (rd l0 0)) (⟨#[]⟩ : ByteArray) 0)))))) else (none))
theorem impl_GetFrame.mono_l : ∀ k, (∀ y0 y1 y2 y3 y4 y5, LeO (impl_GetFrame.j0 k y0 y1 y2 y3 y4 y5) (impl_GetFrame.j0 (k + 1) y0 y1 y2 y3 y4 y5))
 | 0 => fun _ _ _ _ _ _ r h => by simp [impl_GetFrame.j0] at h
 | k + 1 => by
  have ih0 := impl_GetFrame.mono_l k
  ·
   intro y0 y1 y2 y3 y4 y5
   unfold impl_GetFrame.j0
   repeat' first
   | (with_reducible exact ih0 _ _ _ _ _ _)
   | (with_reducible exact impl_FrameOk.mono _ _ _ _)
   | (with_reducible exact LeO.refl _)
   | (with_reducible exact LeO.none _)
   | (with_reducible refine LeO.ite ?_ ?_)
   | (with_reducible refine LeO.bind ?_ (fun _ => ?_))
   | exact ih0 _ _ _ _ _ _
   | exact impl_FrameOk.mono _ _ _ _
   | exact LeO.none _
   | refine LeO.ite ?_ ?_
   | refine LeO.bind ?_ (fun _ => ?_)
theorem impl_GetFrame.mono : ∀ a0 k, LeO (impl_GetFrame.f k a0) (impl_GetFrame.f (k + 1) a0) := by
 intro a0 k
 have ih0 := impl_GetFrame.mono_l k
 unfold impl_GetFrame.f
 repeat' first
   | (with_reducible exact ih0 _ _ _ _ _ _)
   | (with_reducible exact impl_FrameOk.mono _ _ _ _)
   | (with_reducible exact LeO.refl _)
   | (with_reducible exact LeO.none _)
   | (with_reducible refine LeO.ite ?_ ?_)
   | (with_reducible refine LeO.bind ?_ (fun _ => ?_))
   | exact ih0 _ _ _ _ _ _
   | exact impl_FrameOk.mono _ _ _ _
   | exact LeO.none _
   | refine LeO.ite ?_ ?_
   | refine LeO.bind ?_ (fun _ => ?_)
set_option maxHeartbeats 8000000 in
set_option maxRecDepth 100000 in
theorem impl_GetFrame.calls (k : Nat) (A0 : Option Addr) (c0 : Nat) (l0 : List Int) (r1 : Int) (r2 : ByteArray) (r3 : Int) (r4 : Int) (r5 : Int) (w : World) (hr0 : Kd.C (Kd.int .u8) w A0 l0.length l0) (hc0 : l0.length ≤ c0) (h : impl_GetFrame.f k l0 = some (r1, r2, r3, r4, r5)) :
  Calls Try.prog 28 #[.slice A0 l0.length c0] w fun e w' => e = .returned (.tuple #[.agg #[.int .i64 r1, .string r2, .int .i64 r3], .int .i64 r4, .int .i64 r5]) ∧ Below w.heap.size w w' := by
 have hu47 := Try.underlying47
 have HR0 := Aside0.mk hr0
 have HC0 := Aside0.mk hc0
 clear hr0 hc0
 have HB := Aside0.mk (Below.refl w.heap.size w)
 have H : (if (l0.length : Int) = 0 then (some (0, (⟨#[]⟩ : ByteArray), 0, 0, 1)) else (if 0 < (l0.length : Int) then (if (wrap64 (rd l0 0)) = 3 then ((impl_FrameOk.f k (wrap64 (rd l0 0)) (⟨#[]⟩ : ByteArray) 0).bind fun t410 => (if t410 = true then (some (wrap64 (rd l0 0), (⟨#[]⟩ : ByteArray), 0, 1, 0)) else (some (0, (⟨#[]⟩ : ByteArray), 0, 0, 2)))) else (if (wrap64 (rd l0 0)) = 5 then (if (l0.length : Int) < 2 then (some (0, (⟨#[]⟩ : ByteArray), 0, 0, 1)) else (if 1 < (l0.length : Int) then ((impl_FrameOk.f k (wrap64 (rd l0 0)) (⟨#[]⟩ : ByteArray) (wrap64 (rd l0 1))).bind fun t412 => (if t412 = true then (some (wrap64 (rd l0 0), (⟨#[]⟩ : ByteArray), wrap64 (rd l0 1), 2, 0)) else (some (0, (⟨#[]⟩ : ByteArray), 0, 0, 2)))) else (none))) else (if (wrap64 (rd l0 0)) = 1 then (impl_GetFrame.j0 k l0 1 ((wrap64 (rd l0 0)) == 1) (wrap64 (rd l0 0)) (⟨#[]⟩ : ByteArray) 0) else (if (wrap64 (rd l0 0)) = 2 then (impl_GetFrame.j0 k l0 1 ((wrap64 (rd l0 0)) == 2) (wrap64 (rd l0 0)) (⟨#[]⟩ : ByteArray) 0) else (if (wrap64 (rd l0 0)) = 4 then (impl_GetFrame.j0 k l0 1 ((wrap64 (rd l0 0)) == 4) (wrap64 (rd l0 0)) (⟨#[]⟩ : ByteArray) 0) else (impl_GetFrame.j0 k l0 1 ((wrap64 (rd l0 0)) == 6) (wrap64 (rd l0 0)) (⟨#[]⟩ : ByteArray) 0)))))) else (none))) = some (r1, r2, r3, r4, r5) := h
 clear h
 have HC2 := Aside0.mk H
 clear H
 go_enter Try.func28, Try.ntmps28
 go_upto_if 9 with (first | ((with_reducible refine gate_dst (N := 2) rfl ?_); refine box_event ?hg (N := 2) ?hd (cs := #[.int .i64 0, .string (⟨#[]⟩ : ByteArray), .int .i64 0]) (t := 47) ?hr ?_; (case hd => rfl); (case hg => rfl); (case hr => first | (go_simp; done) | (go_simp; rfl)); intro gb407 hg w3 hbox hb; have BK407 := am_ (hbox); have GW407 := am_ ((gG_ hg (qB HB))); have IGW407 := gI_ GW407; have GE407 := am_ ((gG_ hg (qB HB))); have IGE407 := gI_ GE407; replace HB := am_ (below_step (qB HB) hb); clear hb hbox hg))
 (try simp only [Act.put, List.setIfInBounds_toArray, List.set_cons_zero, List.set_cons_succ])
 have H := HC2.out
 clear HC2
 by_cases c4 : (l0.length : Int) = 0
 ·
  rw [if_pos c4] at H
  have c4b0 : ((l0.length : Int) == 0) = true := beq_iff_eq.mpr c4
  have c4b1 : ((l0.length : Int) != 0) = false := bne_eq_false_iff_eq.mpr c4
  clear c4
  (first | rw [c4b0] | rw [c4b1] | (simp only [i64_w, i32_w]; rw [c4b0]) | skip)
  simp only [Option.some.injEq, Prod.mk.injEq] at H
  obtain ⟨rfl, rfl, rfl, rfl, rfl⟩ := H
  obtain ⟨z5_0, z5_1, z5_2⟩ := cz3 BK407.out
  obtain ⟨f5_0, f5_1, f5_2⟩ := fz3 BK407.out
  go_wp2
  refine bodyPost_ret (results_ctt rfl _ _ gb407 47 #[.int .i64 0, .string (⟨#[]⟩ : ByteArray), .int .i64 0] (0, 0) _ rfl (by refine blk_all3 (show _ = some (Go.Obj.cells #[.int .i64 0, .string (⟨#[]⟩ : ByteArray), .int .i64 0] _ (0, 0)) from ?_); exact qK BK407) Try.underlying47 rfl (by kernel_rfl)) rfl ?_
  exact ⟨er_, qB HB⟩
 ·
  rw [if_neg c4] at H
  have c4b0 : ((l0.length : Int) == 0) = false := beq_eq_false_iff_ne.mpr c4
  have c4b1 : ((l0.length : Int) != 0) = true := bne_iff_ne.mpr c4
  have c4b2 : ¬ (l0 = []) := fun h_ => c4 (by rw [h_]; rfl)
  (first | rw [c4b0] | rw [c4b1] | rw [c4b2] | (simp only [i64_w, i32_w]; rw [c4b0]) | skip)
  by_cases c6 : 0 < (l0.length : Int)
  case neg => exact nn_ c6 H
  rw [if_pos c6] at H
  have c6b0 : decide (0 < (l0.length : Int)) = true := decide_eq_true c6
  have c6b1 : decide (0 < l0.length) = true := decide_eq_true (by omega)
  clear c6
  have HC7 := Aside0.mk H
  clear H
  have p408 : 0 ≤ (0 : Int) := (by omega)
  have q408 : 0 < (l0.length : Int) := od_
  obtain ⟨ad408, e408, hx408_0⟩ := Kd.at_int HR0.out 0 p408 q408
  cases e408
  have qi408 : (0 < l0.length) = True := eq_true (by omega)
  (try rw [show ((0 : Int)).toNat = 0 from rfl] at hx408_0)
  (try rw [Addr.add_zero'] at hx408_0)
  replace hx408_0 := lb_ HB hx408_0
  replace p408 := eq_true p408
  replace q408 := eq_true q408
  go_upto_if 18 with (first | ((with_reducible refine gate_dst (N := 5) rfl ?_); refine box_event ?hg (N := 5) ?hd (cs := #[.int .i64 0, .string (⟨#[]⟩ : ByteArray), .int .i64 0]) (t := 47) ?hr ?_; (case hd => rfl); (case hg => rfl); (case hr => first | (go_simp; done) | (go_simp; rfl)); intro gb409 hg w8 hbox hb; have BK409 := am_ (hbox); have GW409 := am_ ((gG_ hg (qB HB))); have IGW409 := gI_ GW409; have GE409 := am_ ((gG_ hg (qB HB))); have IGE409 := gI_ GE409; replace HB := am_ (below_step (qB HB) hb); have NB407_409 := am_ ((gN_ hg (qK BK407))); have NB409_407 := am_ ((gM_ hg (qK BK407))); replace BK407 := am_ (blk_below (qK BK407) hb); clear hb hbox hg; have hnb9 := NB409_407.out; have hnc9 := NB407_409.out; obtain ⟨z10_0, z10_1, z10_2⟩ := cz3 BK409.out; obtain ⟨f10_0, f10_1, f10_2⟩ := fz3 BK409.out))
  (try simp only [Act.put, List.setIfInBounds_toArray, List.set_cons_zero, List.set_cons_succ])
  have n0_ : Aside0 ((((w8.setCell ⟨gb409, 0, none⟩ (.int .i64 (wrap64 (rd l0 0)))).setCell ⟨gb409, 1, none⟩ (.string (⟨#[]⟩ : ByteArray))).setCell ⟨gb409, 2, none⟩ (.int .i64 0)).heap[gb407]? = some (.cells #[.int .i64 0, .string (⟨#[]⟩ : ByteArray), .int .i64 0] 47 (0, 0))) := ⟨by (with_reducible repeat (first | refine blk_drewN ?_ _ | refine blk_drew ?_ | refine blk_alloc ?_ _)); refine Go.Proofs.YtaimfkfpglhijaaV.blk_far3 ?_ NB407_409.out; exact qK BK407⟩
  have n1_ : Aside0 ((((w8.setCell ⟨gb409, 0, none⟩ (.int .i64 (wrap64 (rd l0 0)))).setCell ⟨gb409, 1, none⟩ (.string (⟨#[]⟩ : ByteArray))).setCell ⟨gb409, 2, none⟩ (.int .i64 0)).heap[gb409]? = some (.cells #[.int .i64 (wrap64 (rd l0 0)), .string (⟨#[]⟩ : ByteArray), .int .i64 0] 47 (0, 0))) := ⟨by (with_reducible repeat (first | refine blk_drewN ?_ _ | refine blk_drew ?_ | refine blk_alloc ?_ _)); refine Go.Proofs.YtaimfkfpglhijaaV.blk_all3 (show _ = some (Go.Obj.cells #[.int .i64 0, .string (⟨#[]⟩ : ByteArray), .int .i64 0] _ (0, 0)) from ?_); exact qK BK409⟩
  have n2_ : Aside0 (Below w.heap.size w (((w8.setCell ⟨gb409, 0, none⟩ (.int .i64 (wrap64 (rd l0 0)))).setCell ⟨gb409, 1, none⟩ (.string (⟨#[]⟩ : ByteArray))).setCell ⟨gb409, 2, none⟩ (.int .i64 0))) := ⟨qB HB⟩
  (try clear BK407)
  (try clear BK409)
  (try clear HB)
  generalize (((w8.setCell ⟨gb409, 0, none⟩ (.int .i64 (wrap64 (rd l0 0)))).setCell ⟨gb409, 1, none⟩ (.string (⟨#[]⟩ : ByteArray))).setCell ⟨gb409, 2, none⟩ (.int .i64 0)) = w11 at n0_ n1_ n2_ ⊢
  have BK407 := n0_
  have BK409 := n1_
  have HB := n2_
  clear n0_ n1_ n2_
  have H := HC7.out
  clear HC7
  by_cases c12 : (wrap64 (rd l0 0)) = 3
  ·
   rw [if_pos c12] at H
   have c12b0 : ((wrap64 (rd l0 0)) == 3) = true := beq_iff_eq.mpr c12
   have c12b1 : ((wrap64 (rd l0 0)) != 3) = false := bne_eq_false_iff_eq.mpr c12
   clear c12
   (first | rw [c12b0] | rw [c12b1] | (simp only [i64_w, i32_w]; rw [c12b0]) | skip)
   obtain ⟨t410, A13, H⟩ := bd_ H
   have HC14 := Aside0.mk H
   clear H
   have hnb15 := NB409_407.out
   have hnc15 := NB407_409.out
   obtain ⟨z16_0, z16_1, z16_2⟩ := cz3 BK409.out
   obtain ⟨f16_0, f16_1, f16_2⟩ := fz3 BK409.out
   go_upto_if 70 with (first | ((with_reducible refine gate_callee (f := 135) rfl ?_); refine goesL_ (some 69) rfl rfl Try.func135 (by kernel_rfl) rfl #[.agg #[.int .i64 (wrap64 (rd l0 0)), .string (⟨#[]⟩ : ByteArray), .int .i64 0]] rfl la_ ?_; (with_reducible refine (impl_FrameOk.calls k (wrap64 (rd l0 0)) (⟨#[]⟩ : ByteArray) 0 t410 _ A13.out).mono ?_); rintro e w17 ⟨rfl, hb⟩; refine ⟨_, rfl, ?_⟩; replace BK407 := am_ (blk_below (qK BK407) hb); replace BK409 := am_ (blk_below (qK BK409) hb); replace HB := am_ (below_step (qB HB) hb); (try clear hb); (try clear hb2); (try clear hk); (try clear hi)))
   (try simp only [Act.put, List.setIfInBounds_toArray, List.set_cons_zero, List.set_cons_succ])
   have H := HC14.out
   clear HC14
   by_cases c18 : t410 = true
   ·
    subst c18
    rw [if_pos rfl] at H
    simp only [Option.some.injEq, Prod.mk.injEq] at H
    obtain ⟨rfl, rfl, rfl, rfl, rfl⟩ := H
    have hnb19 := NB409_407.out
    have hnc19 := NB407_409.out
    obtain ⟨z20_0, z20_1, z20_2⟩ := cz3 BK409.out
    obtain ⟨f20_0, f20_1, f20_2⟩ := fz3 BK409.out
    obtain ⟨z21_0, z21_1, z21_2⟩ := cz3 BK407.out
    obtain ⟨f21_0, f21_1, f21_2⟩ := fz3 BK407.out
    go_wp2
    refine bodyPost_ret (results_ctt rfl _ _ gb407 47 #[.int .i64 (wrap64 (rd l0 0)), .string (⟨#[]⟩ : ByteArray), .int .i64 0] (0, 0) _ rfl (by refine blk_all3 (show _ = some (Go.Obj.cells #[.int .i64 0, .string (⟨#[]⟩ : ByteArray), .int .i64 0] _ (0, 0)) from ?_); exact qK BK407) Try.underlying47 rfl (by kernel_rfl)) rfl ?_
    exact ⟨er_, qB HB⟩
   ·
    replace c18 := Bool.eq_false_iff.mpr c18
    subst c18
    rw [if_neg (show ¬ (false = true) by decide)] at H
    simp only [Option.some.injEq, Prod.mk.injEq] at H
    obtain ⟨rfl, rfl, rfl, rfl, rfl⟩ := H
    have hnb22 := NB407_409.out
    have hnc22 := NB409_407.out
    obtain ⟨z23_0, z23_1, z23_2⟩ := cz3 BK407.out
    obtain ⟨f23_0, f23_1, f23_2⟩ := fz3 BK407.out
    go_wp2
    refine bodyPost_ret (results_ctt rfl _ _ gb407 47 #[.int .i64 0, .string (⟨#[]⟩ : ByteArray), .int .i64 0] (0, 0) _ rfl (by refine blk_all3 (show _ = some (Go.Obj.cells #[.int .i64 0, .string (⟨#[]⟩ : ByteArray), .int .i64 0] _ (0, 0)) from ?_); exact qK BK407) Try.underlying47 rfl (by kernel_rfl)) rfl ?_
    exact ⟨er_, qB HB⟩
  ·
   rw [if_neg c12] at H
   have c12b0 : ((wrap64 (rd l0 0)) == 3) = false := beq_eq_false_iff_ne.mpr c12
   have c12b1 : ((wrap64 (rd l0 0)) != 3) = true := bne_iff_ne.mpr c12
   (first | rw [c12b0] | rw [c12b1] | (simp only [i64_w, i32_w]; rw [c12b0]) | skip)
   by_cases c24 : (wrap64 (rd l0 0)) = 5
   ·
    rw [if_pos c24] at H
    have c24b0 : ((wrap64 (rd l0 0)) == 5) = true := beq_iff_eq.mpr c24
    have c24b1 : ((wrap64 (rd l0 0)) != 5) = false := bne_eq_false_iff_eq.mpr c24
    clear c24
    by_cases c25 : (l0.length : Int) < 2
    ·
     rw [if_pos c25] at H
     have c25b0 : decide ((l0.length : Int) < 2) = true := decide_eq_true c25
     have c25b1 : decide (l0.length < 2) = true := decide_eq_true (by omega)
     clear c25
     simp only [Option.some.injEq, Prod.mk.injEq] at H
     obtain ⟨rfl, rfl, rfl, rfl, rfl⟩ := H
     have hnb26 := NB407_409.out
     have hnc26 := NB409_407.out
     obtain ⟨z27_0, z27_1, z27_2⟩ := cz3 BK407.out
     obtain ⟨f27_0, f27_1, f27_2⟩ := fz3 BK407.out
     go_wp2
     refine bodyPost_ret (results_ctt rfl _ _ gb407 47 #[.int .i64 0, .string (⟨#[]⟩ : ByteArray), .int .i64 0] (0, 0) _ rfl (by refine blk_all3 (show _ = some (Go.Obj.cells #[.int .i64 0, .string (⟨#[]⟩ : ByteArray), .int .i64 0] _ (0, 0)) from ?_); exact qK BK407) Try.underlying47 rfl (by kernel_rfl)) rfl ?_
     exact ⟨er_, qB HB⟩
    ·
     rw [if_neg c25] at H
     have c25b0 : decide ((l0.length : Int) < 2) = false := decide_eq_false c25
     have c25b1 : decide (l0.length < 2) = false := decide_eq_false (by omega)
     clear c25
     by_cases c28 : 1 < (l0.length : Int)
     case neg => exact nn_ c28 H
     rw [if_pos c28] at H
     have c28b0 : decide (1 < (l0.length : Int)) = true := decide_eq_true c28
     have c28b1 : decide (1 < l0.length) = true := decide_eq_true (by omega)
     clear c28
     obtain ⟨t412, A29, H⟩ := bd_ H
     have HC30 := Aside0.mk H
     clear H
     have p411 : 0 ≤ (1 : Int) := (by omega)
     have q411 : 1 < (l0.length : Int) := od_
     obtain ⟨ad411, e411, hx411_0⟩ := Kd.at_int HR0.out 1 p411 q411
     obtain rfl : ad408 = ad411 := (by injection e411)
     (try simp only [show (1 : Int).toNat = 1 from rfl, Nat.reduceMul, Nat.reduceEqDiff, Go.Addr.add, ↓reduceIte] at hx411_0)
     have qi411 : (1 < l0.length) = True := eq_true (by omega)
     (try rw [show ((1 : Int)).toNat = 1 from rfl] at hx411_0)
     replace hx411_0 := lb_ HB hx411_0
     replace p411 := eq_true p411
     replace q411 := eq_true q411
     have hnb31 := NB409_407.out
     have hnc31 := NB407_409.out
     obtain ⟨z32_0, z32_1, z32_2⟩ := cz3 BK409.out
     obtain ⟨f32_0, f32_1, f32_2⟩ := fz3 BK409.out
     go_upto_if 70 with (first | ((with_reducible refine gate_callee (f := 135) rfl ?_); refine goesL_ (some 69) rfl rfl Try.func135 (by kernel_rfl) rfl #[.agg #[.int .i64 (wrap64 (rd l0 0)), .string (⟨#[]⟩ : ByteArray), .int .i64 (wrap64 (rd l0 1))]] rfl la_ ?_; (with_reducible refine (impl_FrameOk.calls k (wrap64 (rd l0 0)) (⟨#[]⟩ : ByteArray) (wrap64 (rd l0 1)) t412 _ A29.out).mono ?_); rintro e w33 ⟨rfl, hb⟩; refine ⟨_, rfl, ?_⟩; replace BK407 := am_ (blk_below (g := gb407) (o := .cells #[.int .i64 0, .string (⟨#[]⟩ : ByteArray), .int .i64 0] 47 (0, 0)) (by (with_reducible repeat (first | refine blk_drewN ?_ _ | refine blk_drew ?_ | refine blk_alloc ?_ _)); refine blk_far ?_ NB407_409.out _; exact qK BK407) hb); replace BK409 := am_ (blk_below (g := gb409) (o := .cells #[.int .i64 (wrap64 (rd l0 0)), .string (⟨#[]⟩ : ByteArray), .int .i64 (wrap64 (rd l0 1))] 47 (0, 0)) (by (with_reducible repeat (first | refine blk_drewN ?_ _ | refine blk_drew ?_ | refine blk_alloc ?_ _)); refine blk_put (cs := #[.int .i64 (wrap64 (rd l0 0)), .string (⟨#[]⟩ : ByteArray), .int .i64 0]) ?_ 2 _ rfl; exact qK BK409) hb); replace HB := am_ (below_step (qB HB) hb); (try clear hb); (try clear hb2); (try clear hk); (try clear hi)))
     (try simp only [Act.put, List.setIfInBounds_toArray, List.set_cons_zero, List.set_cons_succ])
     have H := HC30.out
     clear HC30
     by_cases c34 : t412 = true
     ·
      subst c34
      rw [if_pos rfl] at H
      simp only [Option.some.injEq, Prod.mk.injEq] at H
      obtain ⟨rfl, rfl, rfl, rfl, rfl⟩ := H
      have hnb35 := NB409_407.out
      have hnc35 := NB407_409.out
      obtain ⟨z36_0, z36_1, z36_2⟩ := cz3 BK409.out
      obtain ⟨f36_0, f36_1, f36_2⟩ := fz3 BK409.out
      obtain ⟨z37_0, z37_1, z37_2⟩ := cz3 BK407.out
      obtain ⟨f37_0, f37_1, f37_2⟩ := fz3 BK407.out
      go_wp2
      refine bodyPost_ret (results_ctt rfl _ _ gb407 47 #[.int .i64 (wrap64 (rd l0 0)), .string (⟨#[]⟩ : ByteArray), .int .i64 (wrap64 (rd l0 1))] (0, 0) _ rfl (by refine blk_all3 (show _ = some (Go.Obj.cells #[.int .i64 0, .string (⟨#[]⟩ : ByteArray), .int .i64 0] _ (0, 0)) from ?_); exact qK BK407) Try.underlying47 rfl (by kernel_rfl)) rfl ?_
      exact ⟨er_, qB HB⟩
     ·
      replace c34 := Bool.eq_false_iff.mpr c34
      subst c34
      rw [if_neg (show ¬ (false = true) by decide)] at H
      simp only [Option.some.injEq, Prod.mk.injEq] at H
      obtain ⟨rfl, rfl, rfl, rfl, rfl⟩ := H
      have hnb38 := NB407_409.out
      have hnc38 := NB409_407.out
      obtain ⟨z39_0, z39_1, z39_2⟩ := cz3 BK407.out
      obtain ⟨f39_0, f39_1, f39_2⟩ := fz3 BK407.out
      go_wp2
      refine bodyPost_ret (results_ctt rfl _ _ gb407 47 #[.int .i64 0, .string (⟨#[]⟩ : ByteArray), .int .i64 0] (0, 0) _ rfl (by refine blk_all3 (show _ = some (Go.Obj.cells #[.int .i64 0, .string (⟨#[]⟩ : ByteArray), .int .i64 0] _ (0, 0)) from ?_); exact qK BK407) Try.underlying47 rfl (by kernel_rfl)) rfl ?_
      exact ⟨er_, qB HB⟩
   ·
    rw [if_neg c24] at H
    have c24b0 : ((wrap64 (rd l0 0)) == 5) = false := beq_eq_false_iff_ne.mpr c24
    have c24b1 : ((wrap64 (rd l0 0)) != 5) = true := bne_iff_ne.mpr c24
    have HC40 := Aside0.mk H
    clear H
    go_upto_if 31 with (fail)
    go_cut [31] (fun v31 wc => ∃ (kq : Nat) (x31_39 : Bool), v31 = .bool x31_39 ∧ Aside0 (impl_GetFrame.j0 kq l0 1 x31_39 (wrap64 (rd l0 0)) (⟨#[]⟩ : ByteArray) 0 = some (r1, r2, r3, r4, r5)) ∧ Aside0 (kq ≤ k) ∧ Aside0 (wc.heap[gb407]? = some (.cells #[.int .i64 0, .string (⟨#[]⟩ : ByteArray), .int .i64 0] 47 (0, 0))) ∧ Aside0 (wc.heap[gb409]? = some (.cells #[.int .i64 (wrap64 (rd l0 0)), .string (⟨#[]⟩ : ByteArray), .int .i64 0] 47 (0, 0))) ∧ Aside0 (Below w.heap.size w wc))
    case first =>
     have H := HC40.out
     clear HC40
     by_cases c41 : (wrap64 (rd l0 0)) = 1
     ·
      rw [if_pos c41] at H
      have c41b0 : ((wrap64 (rd l0 0)) == 1) = true := beq_iff_eq.mpr c41
      have c41b1 : ((wrap64 (rd l0 0)) != 1) = false := bne_eq_false_iff_eq.mpr c41
      clear c41
      (first | rw [c41b0] | rw [c41b1] | (simp only [i64_w, i32_w]; rw [c41b0]) | skip)
      have H' := Aside0.mk H
      clear H
      go_wp2
      go_meet
      case rel => exact ⟨_, (((wrap64 (rd l0 0)) == 1)), eqq_, H', ⟨by first | omega | exact Nat.le_refl _⟩, ⟨qK BK407⟩, ⟨qK BK409⟩, ⟨qB HB⟩⟩
     ·
      rw [if_neg c41] at H
      have c41b0 : ((wrap64 (rd l0 0)) == 1) = false := beq_eq_false_iff_ne.mpr c41
      have c41b1 : ((wrap64 (rd l0 0)) != 1) = true := bne_iff_ne.mpr c41
      (first | rw [c41b0] | rw [c41b1] | (simp only [i64_w, i32_w]; rw [c41b0]) | skip)
      by_cases c42 : (wrap64 (rd l0 0)) = 2
      ·
       rw [if_pos c42] at H
       have c42b0 : ((wrap64 (rd l0 0)) == 2) = true := beq_iff_eq.mpr c42
       have c42b1 : ((wrap64 (rd l0 0)) != 2) = false := bne_eq_false_iff_eq.mpr c42
       clear c42
       have H' := Aside0.mk H
       clear H
       go_wp2
       go_meet
       case rel => exact ⟨_, (((wrap64 (rd l0 0)) == 2)), eqq_, H', ⟨by first | omega | exact Nat.le_refl _⟩, ⟨qK BK407⟩, ⟨qK BK409⟩, ⟨qB HB⟩⟩
      ·
       rw [if_neg c42] at H
       have c42b0 : ((wrap64 (rd l0 0)) == 2) = false := beq_eq_false_iff_ne.mpr c42
       have c42b1 : ((wrap64 (rd l0 0)) != 2) = true := bne_iff_ne.mpr c42
       by_cases c43 : (wrap64 (rd l0 0)) = 4
       ·
        rw [if_pos c43] at H
        have c43b0 : ((wrap64 (rd l0 0)) == 4) = true := beq_iff_eq.mpr c43
        have c43b1 : ((wrap64 (rd l0 0)) != 4) = false := bne_eq_false_iff_eq.mpr c43
        clear c43
        have H' := Aside0.mk H
        clear H
        go_wp2
        go_meet
        case rel => exact ⟨_, (((wrap64 (rd l0 0)) == 4)), eqq_, H', ⟨by first | omega | exact Nat.le_refl _⟩, ⟨qK BK407⟩, ⟨qK BK409⟩, ⟨qB HB⟩⟩
       ·
        rw [if_neg c43] at H
        have c43b0 : ((wrap64 (rd l0 0)) == 4) = false := beq_eq_false_iff_ne.mpr c43
        have c43b1 : ((wrap64 (rd l0 0)) != 4) = true := bne_iff_ne.mpr c43
        have H' := Aside0.mk H
        clear H
        go_wp2
        go_meet
        case rel => exact ⟨_, (((wrap64 (rd l0 0)) == 6)), eqq_, H', ⟨by first | omega | exact Nat.le_refl _⟩, ⟨qK BK407⟩, ⟨qK BK409⟩, ⟨qB HB⟩⟩
    case rest =>
     clear HC40
     try clear c1
     try clear c2
     try clear p2
     try clear c3
     try clear c4
     try clear c4b0
     try clear c4b1
     try clear c4b2
     try clear p4
     try clear q4
     try clear hx4
     try clear qi4
     try clear c6
     try clear c6b0
     try clear c6b1
     try clear p6
     try clear c9
     try clear c12
     try clear c12b0
     try clear c12b1
     try clear c13
     try clear c15
     try clear c18
     try clear c19
     try clear c22
     try clear c24
     try clear c24b0
     try clear c24b1
     try clear c25
     try clear c25b0
     try clear c25b1
     try clear c26
     try clear c28
     try clear c28b0
     try clear c28b1
     try clear c31
     try clear c34
     try clear c35
     try clear c38
     try clear p40
     try clear q40
     try clear hx40
     try clear qi40
     try clear c41
     try clear c41b0
     try clear c41b1
     try clear p41
     try clear q41
     try clear hx41
     try clear qi41
     try clear c42
     try clear c42b0
     try clear c42b1
     try clear c43
     try clear c43b0
     try clear c43b1
     (try clear z10_0 z10_1 z10_2)
     (try clear z16_0 z16_1 z16_2)
     (try clear z20_0 z20_1 z20_2)
     (try clear z21_0 z21_1 z21_2)
     (try clear z23_0 z23_1 z23_2)
     (try clear z27_0 z27_1 z27_2)
     (try clear z32_0 z32_1 z32_2)
     (try clear z36_0 z36_1 z36_2)
     (try clear z37_0 z37_1 z37_2)
     (try clear z39_0 z39_1 z39_2)
     (try clear z5_0 z5_1 z5_2)
     (try clear f10_0 f10_1 f10_2)
     (try clear f16_0 f16_1 f16_2)
     (try clear f20_0 f20_1 f20_2)
     (try clear f21_0 f21_1 f21_2)
     (try clear f23_0 f23_1 f23_2)
     (try clear f27_0 f27_1 f27_2)
     (try clear f32_0 f32_1 f32_2)
     (try clear f36_0 f36_1 f36_2)
     (try clear f37_0 f37_1 f37_2)
     (try clear f39_0 f39_1 f39_2)
     (try clear f5_0 f5_1 f5_2)
     try clear hx408_0
     try clear hx411_0
     try clear p408
     try clear p411
     try clear q408
     try clear q411
     obtain ⟨kq, x31_39, rfl, HA, HJ39, BK407, BK409, HB⟩ := hcut
     cases kq with
     | zero => exact absurd HA.out (by simp [impl_GetFrame.j0])
     | succ kj39 =>
      have H := HA.out
      clear HA
      simp only [impl_GetFrame.j0] at H
      by_cases c44 : x31_39 = true
      ·
       subst c44
       rw [if_pos rfl] at H
       by_cases c45 : (l0.length : Int) < 2
       ·
        rw [if_pos c45] at H
        have c45b0 : decide ((l0.length : Int) < 2) = true := decide_eq_true c45
        have c45b1 : decide (l0.length < 2) = true := decide_eq_true (by omega)
        clear c45
        simp only [Option.some.injEq, Prod.mk.injEq] at H
        obtain ⟨rfl, rfl, rfl, rfl, rfl⟩ := H
        have hnb46 := NB407_409.out
        have hnc46 := NB409_407.out
        obtain ⟨z47_0, z47_1, z47_2⟩ := cz3 BK407.out
        obtain ⟨f47_0, f47_1, f47_2⟩ := fz3 BK407.out
        go_wp2
        refine bodyPost_ret (results_ctt rfl _ _ gb407 47 #[.int .i64 0, .string (⟨#[]⟩ : ByteArray), .int .i64 0] (0, 0) _ rfl (by refine blk_all3 (show _ = some (Go.Obj.cells #[.int .i64 0, .string (⟨#[]⟩ : ByteArray), .int .i64 0] _ (0, 0)) from ?_); exact qK BK407) Try.underlying47 rfl (by kernel_rfl)) rfl ?_
        exact ⟨er_, qB HB⟩
       ·
        rw [if_neg c45] at H
        have c45b0 : decide ((l0.length : Int) < 2) = false := decide_eq_false c45
        have c45b1 : decide (l0.length < 2) = false := decide_eq_false (by omega)
        clear c45
        by_cases c48 : 1 < (l0.length : Int)
        case neg => exact nn_ c48 H
        rw [if_pos c48] at H
        have c48b0 : decide (1 < (l0.length : Int)) = true := decide_eq_true c48
        have c48b1 : decide (1 < l0.length) = true := decide_eq_true (by omega)
        clear c48
        by_cases c49 : (wrap64 (rd l0 1)) > 100
        ·
         rw [if_pos c49] at H
         have c49b0 : decide (100 < (wrap64 (rd l0 1))) = true := decide_eq_true c49
         clear c49
         simp only [Option.some.injEq, Prod.mk.injEq] at H
         obtain ⟨rfl, rfl, rfl, rfl, rfl⟩ := H
         have p413 : 0 ≤ (1 : Int) := (by omega)
         have q413 : 1 < (l0.length : Int) := od_
         obtain ⟨ad413, e413, hx413_0⟩ := Kd.at_int HR0.out 1 p413 q413
         obtain rfl : ad408 = ad413 := (by injection e413)
         (try simp only [show (1 : Int).toNat = 1 from rfl, Nat.reduceMul, Nat.reduceEqDiff, Go.Addr.add, ↓reduceIte] at hx413_0)
         have qi413 : (1 < l0.length) = True := eq_true (by omega)
         (try rw [show ((1 : Int)).toNat = 1 from rfl] at hx413_0)
         replace hx413_0 := lb_ HB hx413_0
         replace p413 := eq_true p413
         replace q413 := eq_true q413
         have hnb50 := NB407_409.out
         have hnc50 := NB409_407.out
         obtain ⟨z51_0, z51_1, z51_2⟩ := cz3 BK407.out
         obtain ⟨f51_0, f51_1, f51_2⟩ := fz3 BK407.out
         go_wp2
         refine bodyPost_ret (results_ctt rfl _ _ gb407 47 #[.int .i64 0, .string (⟨#[]⟩ : ByteArray), .int .i64 0] (0, 0) _ rfl (by refine blk_all3 (show _ = some (Go.Obj.cells #[.int .i64 0, .string (⟨#[]⟩ : ByteArray), .int .i64 0] _ (0, 0)) from ?_); exact qK BK407) Try.underlying47 rfl (by kernel_rfl)) rfl ?_
         exact ⟨er_, qB HB⟩
        ·
         rw [if_neg c49] at H
         have c49b0 : decide (100 < (wrap64 (rd l0 1))) = false := decide_eq_false c49
         clear c49
         by_cases c52 : (l0.length : Int) < (wrap64 (2 + (wrap64 (rd l0 1))))
         ·
          rw [if_pos c52] at H
          have c52b0 : decide ((l0.length : Int) < (wrap64 (2 + (wrap64 (rd l0 1))))) = true := decide_eq_true c52
          clear c52
          simp only [Option.some.injEq, Prod.mk.injEq] at H
          obtain ⟨rfl, rfl, rfl, rfl, rfl⟩ := H
          have p413 : 0 ≤ (1 : Int) := (by omega)
          have q413 : 1 < (l0.length : Int) := od_
          obtain ⟨ad413, e413, hx413_0⟩ := Kd.at_int HR0.out 1 p413 q413
          obtain rfl : ad408 = ad413 := (by injection e413)
          (try simp only [show (1 : Int).toNat = 1 from rfl, Nat.reduceMul, Nat.reduceEqDiff, Go.Addr.add, ↓reduceIte] at hx413_0)
          have qi413 : (1 < l0.length) = True := eq_true (by omega)
          (try rw [show ((1 : Int)).toNat = 1 from rfl] at hx413_0)
          replace hx413_0 := lb_ HB hx413_0
          replace p413 := eq_true p413
          replace q413 := eq_true q413
          have p414 : 0 ≤ (1 : Int) := (by omega)
          have q414 : 1 < (l0.length : Int) := od_
          obtain ⟨ad414, e414, hx414_0⟩ := Kd.at_int HR0.out 1 p414 q414
          obtain rfl : ad408 = ad414 := (by injection e414)
          (try simp only [show (1 : Int).toNat = 1 from rfl, Nat.reduceMul, Nat.reduceEqDiff, Go.Addr.add, ↓reduceIte] at hx414_0)
          have qi414 : (1 < l0.length) = True := eq_true (by omega)
          (try rw [show ((1 : Int)).toNat = 1 from rfl] at hx414_0)
          replace hx414_0 := lb_ HB hx414_0
          replace p414 := eq_true p414
          replace q414 := eq_true q414
          have hnb53 := NB407_409.out
          have hnc53 := NB409_407.out
          obtain ⟨z54_0, z54_1, z54_2⟩ := cz3 BK407.out
          obtain ⟨f54_0, f54_1, f54_2⟩ := fz3 BK407.out
          go_wp2
          refine bodyPost_ret (results_ctt rfl _ _ gb407 47 #[.int .i64 0, .string (⟨#[]⟩ : ByteArray), .int .i64 0] (0, 0) _ rfl (by refine blk_all3 (show _ = some (Go.Obj.cells #[.int .i64 0, .string (⟨#[]⟩ : ByteArray), .int .i64 0] _ (0, 0)) from ?_); exact qK BK407) Try.underlying47 rfl (by kernel_rfl)) rfl ?_
          exact ⟨er_, qB HB⟩
         ·
          rw [if_neg c52] at H
          have c52b0 : decide ((l0.length : Int) < (wrap64 (2 + (wrap64 (rd l0 1))))) = false := decide_eq_false c52
          clear c52
          by_cases c55 : 2 ≤ (wrap64 (2 + (wrap64 (rd l0 1))))
          case neg => exact nn_ c55 H
          rw [if_pos c55] at H
          have c55b0 := eq_true c55
          have c55b1 : decide (2 ≤ (wrap64 (2 + (wrap64 (rd l0 1))))) = true := decide_eq_true c55
          by_cases c56 : (wrap64 (2 + (wrap64 (rd l0 1)))) ≤ (l0.length : Int)
          case neg => exact nn_ c56 H
          rw [if_pos c56] at H
          have c56b0 := eq_true c56
          have c56b1 : decide ((wrap64 (2 + (wrap64 (rd l0 1)))) ≤ (l0.length : Int)) = true := decide_eq_true c56
          obtain ⟨t417, A57, H⟩ := bd_ H
          have HC58 := Aside0.mk H
          clear H
          have p413 : 0 ≤ (1 : Int) := (by omega)
          have q413 : 1 < (l0.length : Int) := od_
          obtain ⟨ad413, e413, hx413_0⟩ := Kd.at_int HR0.out 1 p413 q413
          obtain rfl : ad408 = ad413 := (by injection e413)
          (try simp only [show (1 : Int).toNat = 1 from rfl, Nat.reduceMul, Nat.reduceEqDiff, Go.Addr.add, ↓reduceIte] at hx413_0)
          have qi413 : (1 < l0.length) = True := eq_true (by omega)
          (try rw [show ((1 : Int)).toNat = 1 from rfl] at hx413_0)
          replace hx413_0 := lb_ HB hx413_0
          replace p413 := eq_true p413
          replace q413 := eq_true q413
          have p414 : 0 ≤ (1 : Int) := (by omega)
          have q414 : 1 < (l0.length : Int) := od_
          obtain ⟨ad414, e414, hx414_0⟩ := Kd.at_int HR0.out 1 p414 q414
          obtain rfl : ad408 = ad414 := (by injection e414)
          (try simp only [show (1 : Int).toNat = 1 from rfl, Nat.reduceMul, Nat.reduceEqDiff, Go.Addr.add, ↓reduceIte] at hx414_0)
          have qi414 : (1 < l0.length) = True := eq_true (by omega)
          (try rw [show ((1 : Int)).toNat = 1 from rfl] at hx414_0)
          replace hx414_0 := lb_ HB hx414_0
          replace p414 := eq_true p414
          replace q414 := eq_true q414
          have p415 : 0 ≤ (1 : Int) := (by omega)
          have q415 : 1 < (l0.length : Int) := od_
          obtain ⟨ad415, e415, hx415_0⟩ := Kd.at_int HR0.out 1 p415 q415
          obtain rfl : ad408 = ad415 := (by injection e415)
          (try simp only [show (1 : Int).toNat = 1 from rfl, Nat.reduceMul, Nat.reduceEqDiff, Go.Addr.add, ↓reduceIte] at hx415_0)
          have qi415 : (1 < l0.length) = True := eq_true (by omega)
          (try rw [show ((1 : Int)).toNat = 1 from rfl] at hx415_0)
          replace hx415_0 := lb_ HB hx415_0
          replace p415 := eq_true p415
          replace q415 := eq_true q415
          obtain ⟨i059, hi059, _, hsz59, _⟩ := info_parts info5
          obtain ⟨A59, hcut59, hA59, hC59⟩ := print_mid_of (P := Try.prog) (Value.int .u8) 0 22 5 .i64 .i64 Try.underlying22 hi059 hsz59 (some ad408) c0 l0 2 (wrap64 (2 + (wrap64 (rd l0 1)))) (by omega) (by first | omega | exact od_) od_ HC0.out
          have HR416 := Aside0.mk (Kd.C_of_reads (h1 := fun _ => rfl) (hA59 _ (Kd.reads_of_C HR0.out)))
          have HC416 := Aside0.mk hC59
          clear hA59 hC59 hi059 hsz59
          have hcv60 := Go.Proofs.YtaimfkfpglhijaaV.conv_len (Kd.C_string (P := Try.prog) (A := A59) (c := (c0 - 2)) Try.underlying22 Try.underlying5 Try.underlying9 (Kd.C_below HR416.out HB.out))
          have hnb61 := NB409_407.out
          have hnc61 := NB407_409.out
          obtain ⟨z62_0, z62_1, z62_2⟩ := cz3 BK409.out
          obtain ⟨f62_0, f62_1, f62_2⟩ := fz3 BK409.out
          go_upto_if 70 with (first | ((with_reducible refine gate_callee (f := 135) rfl ?_); refine goesL_ (some 69) rfl rfl Try.func135 (by kernel_rfl) rfl #[.agg #[.int .i64 (wrap64 (rd l0 0)), .string (strOfNums ((l0.take ((wrap64 (2 + (wrap64 (rd l0 1)))) : Int).toNat).drop 2)), .int .i64 0]] rfl la_ ?_; (with_reducible refine (impl_FrameOk.calls kj39 (wrap64 (rd l0 0)) (strOfNums ((l0.take ((wrap64 (2 + (wrap64 (rd l0 1)))) : Int).toNat).drop 2)) 0 t417 _ A57.out).mono ?_); rintro e w63 ⟨rfl, hb⟩; refine ⟨_, rfl, ?_⟩; replace BK407 := am_ (blk_below (g := gb407) (o := .cells #[.int .i64 0, .string (⟨#[]⟩ : ByteArray), .int .i64 0] 47 (0, 0)) (by (with_reducible repeat (first | refine blk_drewN ?_ _ | refine blk_drew ?_ | refine blk_alloc ?_ _)); refine blk_far ?_ NB407_409.out _; exact qK BK407) hb); replace BK409 := am_ (blk_below (g := gb409) (o := .cells #[.int .i64 (wrap64 (rd l0 0)), .string (strOfNums ((l0.take ((wrap64 (2 + (wrap64 (rd l0 1)))) : Int).toNat).drop 2)), .int .i64 0] 47 (0, 0)) (by (with_reducible repeat (first | refine blk_drewN ?_ _ | refine blk_drew ?_ | refine blk_alloc ?_ _)); refine blk_put (cs := #[.int .i64 (wrap64 (rd l0 0)), .string (⟨#[]⟩ : ByteArray), .int .i64 0]) ?_ 1 _ rfl; exact qK BK409) hb); replace HB := am_ (below_step (qB HB) hb); (try clear hb); (try clear hb2); (try clear hk); (try clear hi)))
          (try simp only [Act.put, List.setIfInBounds_toArray, List.set_cons_zero, List.set_cons_succ])
          have H := HC58.out
          clear HC58
          by_cases c64 : t417 = true
          ·
           subst c64
           rw [if_pos rfl] at H
           simp only [Option.some.injEq, Prod.mk.injEq] at H
           obtain ⟨rfl, rfl, rfl, rfl, rfl⟩ := H
           have hnb65 := NB409_407.out
           have hnc65 := NB407_409.out
           obtain ⟨z66_0, z66_1, z66_2⟩ := cz3 BK409.out
           obtain ⟨f66_0, f66_1, f66_2⟩ := fz3 BK409.out
           obtain ⟨z67_0, z67_1, z67_2⟩ := cz3 BK407.out
           obtain ⟨f67_0, f67_1, f67_2⟩ := fz3 BK407.out
           go_wp2
           refine bodyPost_ret (results_ctt rfl _ _ gb407 47 #[.int .i64 (wrap64 (rd l0 0)), .string (strOfNums ((l0.take ((wrap64 (2 + (wrap64 (rd l0 1)))) : Int).toNat).drop 2)), .int .i64 0] (0, 0) _ rfl (by refine blk_all3 (show _ = some (Go.Obj.cells #[.int .i64 0, .string (⟨#[]⟩ : ByteArray), .int .i64 0] _ (0, 0)) from ?_); exact qK BK407) Try.underlying47 rfl (by kernel_rfl)) rfl ?_
           exact ⟨er_, qB HB⟩
          ·
           replace c64 := Bool.eq_false_iff.mpr c64
           subst c64
           rw [if_neg (show ¬ (false = true) by decide)] at H
           simp only [Option.some.injEq, Prod.mk.injEq] at H
           obtain ⟨rfl, rfl, rfl, rfl, rfl⟩ := H
           have hnb68 := NB407_409.out
           have hnc68 := NB409_407.out
           obtain ⟨z69_0, z69_1, z69_2⟩ := cz3 BK407.out
           obtain ⟨f69_0, f69_1, f69_2⟩ := fz3 BK407.out
           go_wp2
           refine bodyPost_ret (results_ctt rfl _ _ gb407 47 #[.int .i64 0, .string (⟨#[]⟩ : ByteArray), .int .i64 0] (0, 0) _ rfl (by refine blk_all3 (show _ = some (Go.Obj.cells #[.int .i64 0, .string (⟨#[]⟩ : ByteArray), .int .i64 0] _ (0, 0)) from ?_); exact qK BK407) Try.underlying47 rfl (by kernel_rfl)) rfl ?_
           exact ⟨er_, qB HB⟩
      ·
       replace c44 := Bool.eq_false_iff.mpr c44
       subst c44
       rw [if_neg (show ¬ (false = true) by decide)] at H
       obtain ⟨t418, A70, H⟩ := bd_ H
       have HC71 := Aside0.mk H
       clear H
       have hnb72 := NB409_407.out
       have hnc72 := NB407_409.out
       obtain ⟨z73_0, z73_1, z73_2⟩ := cz3 BK409.out
       obtain ⟨f73_0, f73_1, f73_2⟩ := fz3 BK409.out
       go_upto_if 70 with (first | ((with_reducible refine gate_callee (f := 135) rfl ?_); refine goesL_ (some 69) rfl rfl Try.func135 (by kernel_rfl) rfl #[.agg #[.int .i64 (wrap64 (rd l0 0)), .string (⟨#[]⟩ : ByteArray), .int .i64 0]] rfl la_ ?_; (with_reducible refine (impl_FrameOk.calls kj39 (wrap64 (rd l0 0)) (⟨#[]⟩ : ByteArray) 0 t418 _ A70.out).mono ?_); rintro e w74 ⟨rfl, hb⟩; refine ⟨_, rfl, ?_⟩; replace BK407 := am_ (blk_below (qK BK407) hb); replace BK409 := am_ (blk_below (qK BK409) hb); replace HB := am_ (below_step (qB HB) hb); (try clear hb); (try clear hb2); (try clear hk); (try clear hi)))
       (try simp only [Act.put, List.setIfInBounds_toArray, List.set_cons_zero, List.set_cons_succ])
       have H := HC71.out
       clear HC71
       by_cases c75 : t418 = true
       ·
        subst c75
        rw [if_pos rfl] at H
        simp only [Option.some.injEq, Prod.mk.injEq] at H
        obtain ⟨rfl, rfl, rfl, rfl, rfl⟩ := H
        have hnb76 := NB409_407.out
        have hnc76 := NB407_409.out
        obtain ⟨z77_0, z77_1, z77_2⟩ := cz3 BK409.out
        obtain ⟨f77_0, f77_1, f77_2⟩ := fz3 BK409.out
        obtain ⟨z78_0, z78_1, z78_2⟩ := cz3 BK407.out
        obtain ⟨f78_0, f78_1, f78_2⟩ := fz3 BK407.out
        go_wp2
        refine bodyPost_ret (results_ctt rfl _ _ gb407 47 #[.int .i64 (wrap64 (rd l0 0)), .string (⟨#[]⟩ : ByteArray), .int .i64 0] (0, 0) _ rfl (by refine blk_all3 (show _ = some (Go.Obj.cells #[.int .i64 0, .string (⟨#[]⟩ : ByteArray), .int .i64 0] _ (0, 0)) from ?_); exact qK BK407) Try.underlying47 rfl (by kernel_rfl)) rfl ?_
        exact ⟨er_, qB HB⟩
       ·
        replace c75 := Bool.eq_false_iff.mpr c75
        subst c75
        rw [if_neg (show ¬ (false = true) by decide)] at H
        simp only [Option.some.injEq, Prod.mk.injEq] at H
        obtain ⟨rfl, rfl, rfl, rfl, rfl⟩ := H
        have hnb79 := NB407_409.out
        have hnc79 := NB409_407.out
        obtain ⟨z80_0, z80_1, z80_2⟩ := cz3 BK407.out
        obtain ⟨f80_0, f80_1, f80_2⟩ := fz3 BK407.out
        go_wp2
        refine bodyPost_ret (results_ctt rfl _ _ gb407 47 #[.int .i64 0, .string (⟨#[]⟩ : ByteArray), .int .i64 0] (0, 0) _ rfl (by refine blk_all3 (show _ = some (Go.Obj.cells #[.int .i64 0, .string (⟨#[]⟩ : ByteArray), .int .i64 0] _ (0, 0)) from ?_); exact qK BK407) Try.underlying47 rfl (by kernel_rfl)) rfl ?_
        exact ⟨er_, qB HB⟩/-! ### impl_sockIdOk: function 113 -/
def impl_sockIdOk.f (a0 : Int) : Option (Bool) := (impl_isIn.f a0 1 9999).bind fun t419 => (some t419)
set_option maxHeartbeats 8000000 in
set_option maxRecDepth 100000 in
theorem impl_sockIdOk.calls (a0 : Int) (r : Bool) (w : World) (h : impl_sockIdOk.f a0 = some r) :
  Calls Try.prog 113 #[.int .i64 a0] w fun e w' => e = .returned (.bool r) ∧ Drawn0 w w' := by
 have H : ((impl_isIn.f a0 1 9999).bind fun t419 => (some t419)) = some r := h
 clear h
 obtain ⟨t419, A2, H⟩ := bd_ H
 obtain rfl := Option.some.inj H
 go_enter Try.func113, Try.ntmps113
 go_wp2_with (first | ((with_reducible refine gate_callee (f := 121) rfl ?_); refine goesL_ (some 4) rfl rfl Try.func121 (by kernel_rfl) rfl #[.int .i64 a0, .int .i64 1, .int .i64 9999] rfl la_ ?_; (with_reducible refine (impl_isIn.calls a0 1 9999 t419 _ A2.out).mono ?_); rintro e w' ⟨rfl, ⟨nd, rfl⟩⟩; refine ⟨_, rfl, ?_⟩))
 go_ret
 exact ⟨by first | rfl | (simp; done) | (simp [*]; done), by repeat (first | exact Drawn0.refl _ | apply Drawn0.step)⟩

end Go.Proofs.Ytaimfkfpglhijaa.PFnFar
