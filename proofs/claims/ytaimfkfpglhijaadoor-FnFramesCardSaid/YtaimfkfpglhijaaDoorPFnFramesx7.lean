-- Written by a program of this session (myprint.py, over the kit's print): contracts of FnFrames
import Derived.Test.YtaimfkfpglhijaaDoorPFnFramesx0
import Derived.Test.YtaimfkfpglhijaaDoorPFnFramesx3
namespace Go.Proofs.YtaimfkfpglhijaaDoor.PFnFrames
open Go.RowKit Go.Proofs.YtaimfkfpglhijaaDoorW.PrintWords Go.Proofs.YtaimfkfpglhijaaDoorW.PrintLast Go.Proofs.YtaimfkfpglhijaaDoorW.PrintMore Go.Proofs.YtaimfkfpglhijaaDoorV
attribute [local go_sem] max2_int min2_int max_two min_two max_three min_three max_four min_four   -- for this text's walks alone
set_option linter.unusedVariables false
set_option linter.unusedSimpArgs false

/-! ### impl_GetFrame: function 12 -/
def impl_GetFrame.j0 : Nat → List Int → Int → Bool → Int → ByteArray → Int → Option (Int × ByteArray × Int × Int × Int)
 | 0, _, _, _, _, _, _ => none
 | k + 1, x0, x6, x31, x384000, x384001, x384002 => if x31 = true then (if (x0.length : Int) < 2 then (some (0, (⟨#[]⟩ : ByteArray), 0, 0, 1)) else (if 1 < (x0.length : Int) then (if (wrap64 (rd x0 1)) > 100 then (some (0, (⟨#[]⟩ : ByteArray), 0, 0, 2)) else (if (x0.length : Int) < (wrap64 (2 + (wrap64 (rd x0 1)))) then (some (0, (⟨#[]⟩ : ByteArray), 0, 0, 1)) else (if 2 ≤ (wrap64 (2 + (wrap64 (rd x0 1)))) then (if (wrap64 (2 + (wrap64 (rd x0 1)))) ≤ (x0.length : Int) then ((impl_FrameOk.f k x384000 (strOfNums ((x0.take ((wrap64 (2 + (wrap64 (rd x0 1)))) : Int).toNat).drop 2)) x384002).bind fun t391 => (if t391 = true then (some (x384000, strOfNums ((x0.take ((wrap64 (2 + (wrap64 (rd x0 1)))) : Int).toNat).drop 2), x384002, wrap64 (2 + (wrap64 (rd x0 1))), 0)) else (some (0, (⟨#[]⟩ : ByteArray), 0, 0, 2)))) else (none)) else (none)))) else (none))) else ((impl_FrameOk.f k x384000 x384001 x384002).bind fun t392 => (if t392 = true then (some (x384000, x384001, x384002, x6, 0)) else (some (0, (⟨#[]⟩ : ByteArray), 0, 0, 2))))
def impl_GetFrame.f (k : Nat) (l0 : List Int) : Option (Int × ByteArray × Int × Int × Int) := if (l0.length : Int) = 0 then (some (0, (⟨#[]⟩ : ByteArray), 0, 0, 1)) else (if 0 < (l0.length : Int) then (if (wrap64 (rd l0 0)) = 3 then ((impl_FrameOk.f k (wrap64 (rd l0 0)) (⟨#[]⟩ : ByteArray) 0).bind fun t384 => (if t384 = true then (some (wrap64 (rd l0 0), (⟨#[]⟩ : ByteArray), 0, 1, 0)) else (some (0, (⟨#[]⟩ : ByteArray), 0, 0, 2)))) else (if (wrap64 (rd l0 0)) = 5 then (if (l0.length : Int) < 2 then (some (0, (⟨#[]⟩ : ByteArray), 0, 0, 1)) else (if 1 < (l0.length : Int) then ((impl_FrameOk.f k (wrap64 (rd l0 0)) (⟨#[]⟩ : ByteArray) (wrap64 (rd l0 1))).bind fun t386 => (if t386 = true then (some (wrap64 (rd l0 0), (⟨#[]⟩ : ByteArray), wrap64 (rd l0 1), 2, 0)) else (some (0, (⟨#[]⟩ : ByteArray), 0, 0, 2)))) else (none))) else (if (wrap64 (rd l0 0)) = 1 then (impl_GetFrame.j0 k l0 1 ((wrap64 (rd l0 0)) == 1) (wrap64 (rd l0 0)) (⟨#[]⟩ : ByteArray) 0) else (if (wrap64 (rd l0 0)) = 2 then (impl_GetFrame.j0 k l0 1 ((wrap64 (rd l0 0)) == 2) (wrap64 (rd l0 0)) (⟨#[]⟩ : ByteArray) 0) else (if (wrap64 (rd l0 0)) = 4 then (impl_GetFrame.j0 k l0 1 ((wrap64 (rd l0 0)) == 4) (wrap64 (rd l0 0)) (⟨#[]⟩ : ByteArray) 0) else (impl_GetFrame.j0 k l0 1 ((wrap64 (rd l0 0)) == 6) (wrap64 (rd l0 0)) (⟨#[]⟩ : ByteArray) 0)))))) else (none))
theorem impl_GetFrame.mono_l : ∀ k, (∀ y0 y1 y2 y3 y4 y5, LeO (impl_GetFrame.j0 k y0 y1 y2 y3 y4 y5) (impl_GetFrame.j0 (k + 1) y0 y1 y2 y3 y4 y5))
 | 0 => fun _ _ _ _ _ _ r h => by simp [impl_GetFrame.j0] at h
 | k + 1 => by
  have ih0 := impl_GetFrame.mono_l k
  ·
   intro y0 y1 y2 y3 y4 y5
   unfold impl_GetFrame.j0
   repeat' first
   | (with_reducible exact ih0 _ _ _ _ _ _)
   | (with_reducible exact impl_FrameOk.mono _ _ _ _)
   | (with_reducible exact LeO.refl _)
   | (with_reducible exact LeO.none _)
   | (with_reducible refine LeO.ite ?_ ?_)
   | (with_reducible refine LeO.bind ?_ (fun _ => ?_))
   | exact ih0 _ _ _ _ _ _
   | exact impl_FrameOk.mono _ _ _ _
   | exact LeO.none _
   | refine LeO.ite ?_ ?_
   | refine LeO.bind ?_ (fun _ => ?_)
theorem impl_GetFrame.mono : ∀ a0 k, LeO (impl_GetFrame.f k a0) (impl_GetFrame.f (k + 1) a0) := by
 intro a0 k
 have ih0 := impl_GetFrame.mono_l k
 unfold impl_GetFrame.f
 repeat' first
   | (with_reducible exact ih0 _ _ _ _ _ _)
   | (with_reducible exact impl_FrameOk.mono _ _ _ _)
   | (with_reducible exact LeO.refl _)
   | (with_reducible exact LeO.none _)
   | (with_reducible refine LeO.ite ?_ ?_)
   | (with_reducible refine LeO.bind ?_ (fun _ => ?_))
   | exact ih0 _ _ _ _ _ _
   | exact impl_FrameOk.mono _ _ _ _
   | exact LeO.none _
   | refine LeO.ite ?_ ?_
   | refine LeO.bind ?_ (fun _ => ?_)
set_option maxHeartbeats 8000000 in
set_option maxRecDepth 100000 in
theorem impl_GetFrame.calls (k : Nat) (A0 : Option Addr) (c0 : Nat) (l0 : List Int) (r1 : Int) (r2 : ByteArray) (r3 : Int) (r4 : Int) (r5 : Int) (w : World) (hr0 : Kd.C (Kd.int .u8) w A0 l0.length l0) (hc0 : l0.length ≤ c0) (h : impl_GetFrame.f k l0 = some (r1, r2, r3, r4, r5)) :
  Calls Tryd.prog 12 #[.slice A0 l0.length c0] w fun e w' => e = .returned (.tuple #[.agg #[.int .i64 r1, .string r2, .int .i64 r3], .int .i64 r4, .int .i64 r5]) ∧ Below w.heap.size w w' := by
 have hu25 := Tryd.underlying25
 have HR0 := Aside0.mk hr0
 have HC0 := Aside0.mk hc0
 clear hr0 hc0
 have HB := Aside0.mk (Below.refl w.heap.size w)
 have H : (if (l0.length : Int) = 0 then (some (0, (⟨#[]⟩ : ByteArray), 0, 0, 1)) else (if 0 < (l0.length : Int) then (if (wrap64 (rd l0 0)) = 3 then ((impl_FrameOk.f k (wrap64 (rd l0 0)) (⟨#[]⟩ : ByteArray) 0).bind fun t384 => (if t384 = true then (some (wrap64 (rd l0 0), (⟨#[]⟩ : ByteArray), 0, 1, 0)) else (some (0, (⟨#[]⟩ : ByteArray), 0, 0, 2)))) else (if (wrap64 (rd l0 0)) = 5 then (if (l0.length : Int) < 2 then (some (0, (⟨#[]⟩ : ByteArray), 0, 0, 1)) else (if 1 < (l0.length : Int) then ((impl_FrameOk.f k (wrap64 (rd l0 0)) (⟨#[]⟩ : ByteArray) (wrap64 (rd l0 1))).bind fun t386 => (if t386 = true then (some (wrap64 (rd l0 0), (⟨#[]⟩ : ByteArray), wrap64 (rd l0 1), 2, 0)) else (some (0, (⟨#[]⟩ : ByteArray), 0, 0, 2)))) else (none))) else (if (wrap64 (rd l0 0)) = 1 then (impl_GetFrame.j0 k l0 1 ((wrap64 (rd l0 0)) == 1) (wrap64 (rd l0 0)) (⟨#[]⟩ : ByteArray) 0) else (if (wrap64 (rd l0 0)) = 2 then (impl_GetFrame.j0 k l0 1 ((wrap64 (rd l0 0)) == 2) (wrap64 (rd l0 0)) (⟨#[]⟩ : ByteArray) 0) else (if (wrap64 (rd l0 0)) = 4 then (impl_GetFrame.j0 k l0 1 ((wrap64 (rd l0 0)) == 4) (wrap64 (rd l0 0)) (⟨#[]⟩ : ByteArray) 0) else (impl_GetFrame.j0 k l0 1 ((wrap64 (rd l0 0)) == 6) (wrap64 (rd l0 0)) (⟨#[]⟩ : ByteArray) 0)))))) else (none))) = some (r1, r2, r3, r4, r5) := h
 clear h
 have HC2 := Aside0.mk H
 clear H
 go_enter Tryd.func12, Tryd.ntmps12
 go_upto_if 9 with (first | ((with_reducible refine gate_dst (N := 2) rfl ?_); refine box_event ?hg (N := 2) ?hd (cs := #[.int .i64 0, .string (⟨#[]⟩ : ByteArray), .int .i64 0]) (t := 25) ?hr ?_; (case hd => rfl); (case hg => rfl); (case hr => first | (go_simp; done) | (go_simp; rfl)); intro gb381 hg w3 hbox hb; have BK381 := am_ (hbox); have GW381 := am_ ((gG_ hg (qB HB))); have IGW381 := gI_ GW381; have GE381 := am_ ((gG_ hg (qB HB))); have IGE381 := gI_ GE381; replace HB := am_ (below_step (qB HB) hb); clear hb hbox hg))
 (try simp only [Act.put, List.setIfInBounds_toArray, List.set_cons_zero, List.set_cons_succ])
 have H := HC2.out
 clear HC2
 by_cases c4 : (l0.length : Int) = 0
 ·
  rw [if_pos c4] at H
  have c4b0 : ((l0.length : Int) == 0) = true := beq_iff_eq.mpr c4
  have c4b1 : ((l0.length : Int) != 0) = false := bne_eq_false_iff_eq.mpr c4
  clear c4
  (first | rw [c4b0] | rw [c4b1] | (simp only [i64_w, i32_w]; rw [c4b0]) | skip)
  simp only [Option.some.injEq, Prod.mk.injEq] at H
  obtain ⟨rfl, rfl, rfl, rfl, rfl⟩ := H
  obtain ⟨z5_0, z5_1, z5_2⟩ := cz3 BK381.out
  obtain ⟨f5_0, f5_1, f5_2⟩ := fz3 BK381.out
  go_wp2
  refine bodyPost_ret (results_ctt rfl _ _ gb381 25 #[.int .i64 0, .string (⟨#[]⟩ : ByteArray), .int .i64 0] (0, 0) _ rfl (by (with_reducible repeat (first | refine blk_drewN ?_ _ | refine blk_drew ?_ | refine blk_alloc ?_ _)); refine blk_put (cs := #[.int .i64 0, .string (⟨#[]⟩ : ByteArray), .int .i64 0]) ?_ 2 _ rfl; (with_reducible repeat (first | refine blk_drewN ?_ _ | refine blk_drew ?_ | refine blk_alloc ?_ _)); refine blk_put (cs := #[.int .i64 0, .string (⟨#[]⟩ : ByteArray), .int .i64 0]) ?_ 1 _ rfl; (with_reducible repeat (first | refine blk_drewN ?_ _ | refine blk_drew ?_ | refine blk_alloc ?_ _)); refine blk_put (cs := #[.int .i64 0, .string (⟨#[]⟩ : ByteArray), .int .i64 0]) ?_ 0 _ rfl; (with_reducible repeat (first | refine blk_drewN ?_ _ | refine blk_drew ?_ | refine blk_alloc ?_ _)); exact BK381.out) Tryd.underlying25 rfl (by kernel_rfl)) rfl ?_
  exact ⟨by first | rfl | (simp [errW_none, errW_some] <;> rfl) | (simp [*, errW_none, errW_some] <;> rfl), qB HB⟩
 ·
  rw [if_neg c4] at H
  have c4b0 : ((l0.length : Int) == 0) = false := beq_eq_false_iff_ne.mpr c4
  have c4b1 : ((l0.length : Int) != 0) = true := bne_iff_ne.mpr c4
  have c4b2 : ¬ (l0 = []) := fun h_ => c4 (by rw [h_]; rfl)
  (first | rw [c4b0] | rw [c4b1] | rw [c4b2] | (simp only [i64_w, i32_w]; rw [c4b0]) | skip)
  by_cases c6 : 0 < (l0.length : Int)
  ·
   rw [if_pos c6] at H
   have c6b0 : decide (0 < (l0.length : Int)) = true := decide_eq_true c6
   have c6b1 : decide (0 < l0.length) = true := decide_eq_true (by omega)
   clear c6
   have HC7 := Aside0.mk H
   clear H
   have p382 : 0 ≤ (0 : Int) := (by omega)
   have q382 : 0 < (l0.length : Int) := od_
   obtain ⟨ad382, e382, hx382_0⟩ := Kd.at_int HR0.out 0 p382 q382
   cases e382
   have qi382 : (0 < l0.length) = True := eq_true (by omega)
   (try rw [show ((0 : Int)).toNat = 0 from rfl] at hx382_0)
   (try rw [Addr.add_zero'] at hx382_0)
   replace hx382_0 := lb_ HB hx382_0
   replace p382 := eq_true p382
   replace q382 := eq_true q382
   go_upto_if 18 with (first | ((with_reducible refine gate_dst (N := 5) rfl ?_); refine box_event ?hg (N := 5) ?hd (cs := #[.int .i64 0, .string (⟨#[]⟩ : ByteArray), .int .i64 0]) (t := 25) ?hr ?_; (case hd => rfl); (case hg => rfl); (case hr => first | (go_simp; done) | (go_simp; rfl)); intro gb383 hg w8 hbox hb; have BK383 := am_ (hbox); have GW383 := am_ ((gG_ hg (qB HB))); have IGW383 := gI_ GW383; have GE383 := am_ ((gG_ hg (qB HB))); have IGE383 := gI_ GE383; replace HB := am_ (below_step (qB HB) hb); have NB381_383 := am_ ((gN_ hg (qK BK381))); have NB383_381 := am_ ((gM_ hg (qK BK381))); replace BK381 := am_ (blk_below (qK BK381) hb); clear hb hbox hg; have hnb9 := NB383_381.out; have hnc9 := NB381_383.out; obtain ⟨z10_0, z10_1, z10_2⟩ := cz3 BK383.out; obtain ⟨f10_0, f10_1, f10_2⟩ := fz3 BK383.out))
   (try simp only [Act.put, List.setIfInBounds_toArray, List.set_cons_zero, List.set_cons_succ])
   have n0_ : Aside0 ((((w8.setCell ⟨gb383, 0, none⟩ (.int .i64 (wrap64 (rd l0 0)))).setCell ⟨gb383, 1, none⟩ (.string (⟨#[]⟩ : ByteArray))).setCell ⟨gb383, 2, none⟩ (.int .i64 0)).heap[gb381]? = some (.cells #[.int .i64 0, .string (⟨#[]⟩ : ByteArray), .int .i64 0] 25 (0, 0))) := ⟨by (with_reducible repeat (first | refine blk_drewN ?_ _ | refine blk_drew ?_ | refine blk_alloc ?_ _)); refine Go.Proofs.YtaimfkfpglhijaaDoorV.blk_far3 ?_ NB381_383.out; (with_reducible repeat (first | refine blk_drewN ?_ _ | refine blk_drew ?_ | refine blk_alloc ?_ _)); exact BK381.out⟩
   have n1_ : Aside0 ((((w8.setCell ⟨gb383, 0, none⟩ (.int .i64 (wrap64 (rd l0 0)))).setCell ⟨gb383, 1, none⟩ (.string (⟨#[]⟩ : ByteArray))).setCell ⟨gb383, 2, none⟩ (.int .i64 0)).heap[gb383]? = some (.cells #[.int .i64 (wrap64 (rd l0 0)), .string (⟨#[]⟩ : ByteArray), .int .i64 0] 25 (0, 0))) := ⟨by (with_reducible repeat (first | refine blk_drewN ?_ _ | refine blk_drew ?_ | refine blk_alloc ?_ _)); refine Go.Proofs.YtaimfkfpglhijaaDoorV.blk_all3 (show _ = some (Go.Obj.cells #[.int .i64 0, .string (⟨#[]⟩ : ByteArray), .int .i64 0] _ (0, 0)) from ?_); (with_reducible repeat (first | refine blk_drewN ?_ _ | refine blk_drew ?_ | refine blk_alloc ?_ _)); exact BK383.out⟩
   have n2_ : Aside0 (Below w.heap.size w (((w8.setCell ⟨gb383, 0, none⟩ (.int .i64 (wrap64 (rd l0 0)))).setCell ⟨gb383, 1, none⟩ (.string (⟨#[]⟩ : ByteArray))).setCell ⟨gb383, 2, none⟩ (.int .i64 0))) := ⟨qB HB⟩
   (try clear BK381)
   (try clear BK383)
   (try clear HB)
   generalize (((w8.setCell ⟨gb383, 0, none⟩ (.int .i64 (wrap64 (rd l0 0)))).setCell ⟨gb383, 1, none⟩ (.string (⟨#[]⟩ : ByteArray))).setCell ⟨gb383, 2, none⟩ (.int .i64 0)) = w11 at n0_ n1_ n2_ ⊢
   have BK381 := n0_
   have BK383 := n1_
   have HB := n2_
   clear n0_ n1_ n2_
   have H := HC7.out
   clear HC7
   by_cases c12 : (wrap64 (rd l0 0)) = 3
   ·
    rw [if_pos c12] at H
    have c12b0 : ((wrap64 (rd l0 0)) == 3) = true := beq_iff_eq.mpr c12
    have c12b1 : ((wrap64 (rd l0 0)) != 3) = false := bne_eq_false_iff_eq.mpr c12
    clear c12
    (first | rw [c12b0] | rw [c12b1] | (simp only [i64_w, i32_w]; rw [c12b0]) | skip)
    obtain ⟨t384, A13, H⟩ := bd_ H
    have HC14 := Aside0.mk H
    clear H
    have hnb15 := NB383_381.out
    have hnc15 := NB381_383.out
    obtain ⟨z16_0, z16_1, z16_2⟩ := cz3 BK383.out
    obtain ⟨f16_0, f16_1, f16_2⟩ := fz3 BK383.out
    go_upto_if 70 with (first | ((with_reducible refine gate_callee (f := 7) rfl ?_); refine goesL_ (some 69) rfl rfl Tryd.func7 (by kernel_rfl) rfl #[.agg #[.int .i64 (wrap64 (rd l0 0)), .string (⟨#[]⟩ : ByteArray), .int .i64 0]] rfl la_ ?_; (with_reducible refine (impl_FrameOk.calls k (wrap64 (rd l0 0)) (⟨#[]⟩ : ByteArray) 0 t384 _ A13.out).mono ?_); rintro e w17 ⟨rfl, hb⟩; refine ⟨_, rfl, ?_⟩; replace BK381 := am_ (blk_below (qK BK381) hb); replace BK383 := am_ (blk_below (qK BK383) hb); replace HB := am_ (below_step (qB HB) hb); (try clear hb); (try clear hb2); (try clear hk); (try clear hi)))
    (try simp only [Act.put, List.setIfInBounds_toArray, List.set_cons_zero, List.set_cons_succ])
    have H := HC14.out
    clear HC14
    by_cases c18 : t384 = true
    ·
     subst c18
     rw [if_pos rfl] at H
     simp only [Option.some.injEq, Prod.mk.injEq] at H
     obtain ⟨rfl, rfl, rfl, rfl, rfl⟩ := H
     have hnb19 := NB383_381.out
     have hnc19 := NB381_383.out
     obtain ⟨z20_0, z20_1, z20_2⟩ := cz3 BK383.out
     obtain ⟨f20_0, f20_1, f20_2⟩ := fz3 BK383.out
     obtain ⟨z21_0, z21_1, z21_2⟩ := cz3 BK381.out
     obtain ⟨f21_0, f21_1, f21_2⟩ := fz3 BK381.out
     go_wp2
     refine bodyPost_ret (results_ctt rfl _ _ gb381 25 #[.int .i64 (wrap64 (rd l0 0)), .string (⟨#[]⟩ : ByteArray), .int .i64 0] (0, 0) _ rfl (by (with_reducible repeat (first | refine blk_drewN ?_ _ | refine blk_drew ?_ | refine blk_alloc ?_ _)); refine blk_put (cs := #[.int .i64 (wrap64 (rd l0 0)), .string (⟨#[]⟩ : ByteArray), .int .i64 0]) ?_ 2 _ rfl; (with_reducible repeat (first | refine blk_drewN ?_ _ | refine blk_drew ?_ | refine blk_alloc ?_ _)); refine blk_put (cs := #[.int .i64 (wrap64 (rd l0 0)), .string (⟨#[]⟩ : ByteArray), .int .i64 0]) ?_ 1 _ rfl; (with_reducible repeat (first | refine blk_drewN ?_ _ | refine blk_drew ?_ | refine blk_alloc ?_ _)); refine blk_put (cs := #[.int .i64 0, .string (⟨#[]⟩ : ByteArray), .int .i64 0]) ?_ 0 _ rfl; (with_reducible repeat (first | refine blk_drewN ?_ _ | refine blk_drew ?_ | refine blk_alloc ?_ _)); exact BK381.out) Tryd.underlying25 rfl (by kernel_rfl)) rfl ?_
     exact ⟨by first | rfl | (simp [errW_none, errW_some] <;> rfl) | (simp [*, errW_none, errW_some] <;> rfl), qB HB⟩
    ·
     replace c18 := Bool.eq_false_iff.mpr c18
     subst c18
     rw [if_neg (show ¬ (false = true) by decide)] at H
     simp only [Option.some.injEq, Prod.mk.injEq] at H
     obtain ⟨rfl, rfl, rfl, rfl, rfl⟩ := H
     have hnb22 := NB381_383.out
     have hnc22 := NB383_381.out
     obtain ⟨z23_0, z23_1, z23_2⟩ := cz3 BK381.out
     obtain ⟨f23_0, f23_1, f23_2⟩ := fz3 BK381.out
     go_wp2
     refine bodyPost_ret (results_ctt rfl _ _ gb381 25 #[.int .i64 0, .string (⟨#[]⟩ : ByteArray), .int .i64 0] (0, 0) _ rfl (by (with_reducible repeat (first | refine blk_drewN ?_ _ | refine blk_drew ?_ | refine blk_alloc ?_ _)); refine blk_put (cs := #[.int .i64 0, .string (⟨#[]⟩ : ByteArray), .int .i64 0]) ?_ 2 _ rfl; (with_reducible repeat (first | refine blk_drewN ?_ _ | refine blk_drew ?_ | refine blk_alloc ?_ _)); refine blk_put (cs := #[.int .i64 0, .string (⟨#[]⟩ : ByteArray), .int .i64 0]) ?_ 1 _ rfl; (with_reducible repeat (first | refine blk_drewN ?_ _ | refine blk_drew ?_ | refine blk_alloc ?_ _)); refine blk_put (cs := #[.int .i64 0, .string (⟨#[]⟩ : ByteArray), .int .i64 0]) ?_ 0 _ rfl; (with_reducible repeat (first | refine blk_drewN ?_ _ | refine blk_drew ?_ | refine blk_alloc ?_ _)); exact BK381.out) Tryd.underlying25 rfl (by kernel_rfl)) rfl ?_
     exact ⟨by first | rfl | (simp [errW_none, errW_some] <;> rfl) | (simp [*, errW_none, errW_some] <;> rfl), qB HB⟩
   ·
    rw [if_neg c12] at H
    have c12b0 : ((wrap64 (rd l0 0)) == 3) = false := beq_eq_false_iff_ne.mpr c12
    have c12b1 : ((wrap64 (rd l0 0)) != 3) = true := bne_iff_ne.mpr c12
    (first | rw [c12b0] | rw [c12b1] | (simp only [i64_w, i32_w]; rw [c12b0]) | skip)
    by_cases c24 : (wrap64 (rd l0 0)) = 5
    ·
     rw [if_pos c24] at H
     have c24b0 : ((wrap64 (rd l0 0)) == 5) = true := beq_iff_eq.mpr c24
     have c24b1 : ((wrap64 (rd l0 0)) != 5) = false := bne_eq_false_iff_eq.mpr c24
     clear c24
     by_cases c25 : (l0.length : Int) < 2
     ·
      rw [if_pos c25] at H
      have c25b0 : decide ((l0.length : Int) < 2) = true := decide_eq_true c25
      have c25b1 : decide (l0.length < 2) = true := decide_eq_true (by omega)
      clear c25
      simp only [Option.some.injEq, Prod.mk.injEq] at H
      obtain ⟨rfl, rfl, rfl, rfl, rfl⟩ := H
      have hnb26 := NB381_383.out
      have hnc26 := NB383_381.out
      obtain ⟨z27_0, z27_1, z27_2⟩ := cz3 BK381.out
      obtain ⟨f27_0, f27_1, f27_2⟩ := fz3 BK381.out
      go_wp2
      refine bodyPost_ret (results_ctt rfl _ _ gb381 25 #[.int .i64 0, .string (⟨#[]⟩ : ByteArray), .int .i64 0] (0, 0) _ rfl (by (with_reducible repeat (first | refine blk_drewN ?_ _ | refine blk_drew ?_ | refine blk_alloc ?_ _)); refine blk_put (cs := #[.int .i64 0, .string (⟨#[]⟩ : ByteArray), .int .i64 0]) ?_ 2 _ rfl; (with_reducible repeat (first | refine blk_drewN ?_ _ | refine blk_drew ?_ | refine blk_alloc ?_ _)); refine blk_put (cs := #[.int .i64 0, .string (⟨#[]⟩ : ByteArray), .int .i64 0]) ?_ 1 _ rfl; (with_reducible repeat (first | refine blk_drewN ?_ _ | refine blk_drew ?_ | refine blk_alloc ?_ _)); refine blk_put (cs := #[.int .i64 0, .string (⟨#[]⟩ : ByteArray), .int .i64 0]) ?_ 0 _ rfl; (with_reducible repeat (first | refine blk_drewN ?_ _ | refine blk_drew ?_ | refine blk_alloc ?_ _)); exact BK381.out) Tryd.underlying25 rfl (by kernel_rfl)) rfl ?_
      exact ⟨by first | rfl | (simp [errW_none, errW_some] <;> rfl) | (simp [*, errW_none, errW_some] <;> rfl), qB HB⟩
     ·
      rw [if_neg c25] at H
      have c25b0 : decide ((l0.length : Int) < 2) = false := decide_eq_false c25
      have c25b1 : decide (l0.length < 2) = false := decide_eq_false (by omega)
      clear c25
      by_cases c28 : 1 < (l0.length : Int)
      ·
       rw [if_pos c28] at H
       have c28b0 : decide (1 < (l0.length : Int)) = true := decide_eq_true c28
       have c28b1 : decide (1 < l0.length) = true := decide_eq_true (by omega)
       clear c28
       obtain ⟨t386, A29, H⟩ := bd_ H
       have HC30 := Aside0.mk H
       clear H
       have p385 : 0 ≤ (1 : Int) := (by omega)
       have q385 : 1 < (l0.length : Int) := od_
       obtain ⟨ad385, e385, hx385_0⟩ := Kd.at_int HR0.out 1 p385 q385
       obtain rfl : ad382 = ad385 := (by injection e385)
       (try simp only [show (1 : Int).toNat = 1 from rfl, Nat.reduceMul, Nat.reduceEqDiff, Go.Addr.add, ↓reduceIte] at hx385_0)
       have qi385 : (1 < l0.length) = True := eq_true (by omega)
       (try rw [show ((1 : Int)).toNat = 1 from rfl] at hx385_0)
       replace hx385_0 := lb_ HB hx385_0
       replace p385 := eq_true p385
       replace q385 := eq_true q385
       have hnb31 := NB383_381.out
       have hnc31 := NB381_383.out
       obtain ⟨z32_0, z32_1, z32_2⟩ := cz3 BK383.out
       obtain ⟨f32_0, f32_1, f32_2⟩ := fz3 BK383.out
       go_upto_if 70 with (first | ((with_reducible refine gate_callee (f := 7) rfl ?_); refine goesL_ (some 69) rfl rfl Tryd.func7 (by kernel_rfl) rfl #[.agg #[.int .i64 (wrap64 (rd l0 0)), .string (⟨#[]⟩ : ByteArray), .int .i64 (wrap64 (rd l0 1))]] rfl la_ ?_; (with_reducible refine (impl_FrameOk.calls k (wrap64 (rd l0 0)) (⟨#[]⟩ : ByteArray) (wrap64 (rd l0 1)) t386 _ A29.out).mono ?_); rintro e w33 ⟨rfl, hb⟩; refine ⟨_, rfl, ?_⟩; replace BK381 := am_ (blk_below (g := gb381) (o := .cells #[.int .i64 0, .string (⟨#[]⟩ : ByteArray), .int .i64 0] 25 (0, 0)) (by (with_reducible repeat (first | refine blk_drewN ?_ _ | refine blk_drew ?_ | refine blk_alloc ?_ _)); refine blk_far ?_ NB381_383.out _; (with_reducible repeat (first | refine blk_drewN ?_ _ | refine blk_drew ?_ | refine blk_alloc ?_ _)); exact BK381.out) hb); replace BK383 := am_ (blk_below (g := gb383) (o := .cells #[.int .i64 (wrap64 (rd l0 0)), .string (⟨#[]⟩ : ByteArray), .int .i64 (wrap64 (rd l0 1))] 25 (0, 0)) (by (with_reducible repeat (first | refine blk_drewN ?_ _ | refine blk_drew ?_ | refine blk_alloc ?_ _)); refine blk_put (cs := #[.int .i64 (wrap64 (rd l0 0)), .string (⟨#[]⟩ : ByteArray), .int .i64 0]) ?_ 2 _ rfl; (with_reducible repeat (first | refine blk_drewN ?_ _ | refine blk_drew ?_ | refine blk_alloc ?_ _)); exact BK383.out) hb); replace HB := am_ (below_step (qB HB) hb); (try clear hb); (try clear hb2); (try clear hk); (try clear hi)))
       (try simp only [Act.put, List.setIfInBounds_toArray, List.set_cons_zero, List.set_cons_succ])
       have H := HC30.out
       clear HC30
       by_cases c34 : t386 = true
       ·
        subst c34
        rw [if_pos rfl] at H
        simp only [Option.some.injEq, Prod.mk.injEq] at H
        obtain ⟨rfl, rfl, rfl, rfl, rfl⟩ := H
        have hnb35 := NB383_381.out
        have hnc35 := NB381_383.out
        obtain ⟨z36_0, z36_1, z36_2⟩ := cz3 BK383.out
        obtain ⟨f36_0, f36_1, f36_2⟩ := fz3 BK383.out
        obtain ⟨z37_0, z37_1, z37_2⟩ := cz3 BK381.out
        obtain ⟨f37_0, f37_1, f37_2⟩ := fz3 BK381.out
        go_wp2
        refine bodyPost_ret (results_ctt rfl _ _ gb381 25 #[.int .i64 (wrap64 (rd l0 0)), .string (⟨#[]⟩ : ByteArray), .int .i64 (wrap64 (rd l0 1))] (0, 0) _ rfl (by (with_reducible repeat (first | refine blk_drewN ?_ _ | refine blk_drew ?_ | refine blk_alloc ?_ _)); refine blk_put (cs := #[.int .i64 (wrap64 (rd l0 0)), .string (⟨#[]⟩ : ByteArray), .int .i64 0]) ?_ 2 _ rfl; (with_reducible repeat (first | refine blk_drewN ?_ _ | refine blk_drew ?_ | refine blk_alloc ?_ _)); refine blk_put (cs := #[.int .i64 (wrap64 (rd l0 0)), .string (⟨#[]⟩ : ByteArray), .int .i64 0]) ?_ 1 _ rfl; (with_reducible repeat (first | refine blk_drewN ?_ _ | refine blk_drew ?_ | refine blk_alloc ?_ _)); refine blk_put (cs := #[.int .i64 0, .string (⟨#[]⟩ : ByteArray), .int .i64 0]) ?_ 0 _ rfl; (with_reducible repeat (first | refine blk_drewN ?_ _ | refine blk_drew ?_ | refine blk_alloc ?_ _)); exact BK381.out) Tryd.underlying25 rfl (by kernel_rfl)) rfl ?_
        exact ⟨by first | rfl | (simp [errW_none, errW_some] <;> rfl) | (simp [*, errW_none, errW_some] <;> rfl), qB HB⟩
       ·
        replace c34 := Bool.eq_false_iff.mpr c34
        subst c34
        rw [if_neg (show ¬ (false = true) by decide)] at H
        simp only [Option.some.injEq, Prod.mk.injEq] at H
        obtain ⟨rfl, rfl, rfl, rfl, rfl⟩ := H
        have hnb38 := NB381_383.out
        have hnc38 := NB383_381.out
        obtain ⟨z39_0, z39_1, z39_2⟩ := cz3 BK381.out
        obtain ⟨f39_0, f39_1, f39_2⟩ := fz3 BK381.out
        go_wp2
        refine bodyPost_ret (results_ctt rfl _ _ gb381 25 #[.int .i64 0, .string (⟨#[]⟩ : ByteArray), .int .i64 0] (0, 0) _ rfl (by (with_reducible repeat (first | refine blk_drewN ?_ _ | refine blk_drew ?_ | refine blk_alloc ?_ _)); refine blk_put (cs := #[.int .i64 0, .string (⟨#[]⟩ : ByteArray), .int .i64 0]) ?_ 2 _ rfl; (with_reducible repeat (first | refine blk_drewN ?_ _ | refine blk_drew ?_ | refine blk_alloc ?_ _)); refine blk_put (cs := #[.int .i64 0, .string (⟨#[]⟩ : ByteArray), .int .i64 0]) ?_ 1 _ rfl; (with_reducible repeat (first | refine blk_drewN ?_ _ | refine blk_drew ?_ | refine blk_alloc ?_ _)); refine blk_put (cs := #[.int .i64 0, .string (⟨#[]⟩ : ByteArray), .int .i64 0]) ?_ 0 _ rfl; (with_reducible repeat (first | refine blk_drewN ?_ _ | refine blk_drew ?_ | refine blk_alloc ?_ _)); exact BK381.out) Tryd.underlying25 rfl (by kernel_rfl)) rfl ?_
        exact ⟨by first | rfl | (simp [errW_none, errW_some] <;> rfl) | (simp [*, errW_none, errW_some] <;> rfl), qB HB⟩
      ·
       rw [if_neg c28] at H
       exact absurd H (by simp)
    ·
     rw [if_neg c24] at H
     have c24b0 : ((wrap64 (rd l0 0)) == 5) = false := beq_eq_false_iff_ne.mpr c24
     have c24b1 : ((wrap64 (rd l0 0)) != 5) = true := bne_iff_ne.mpr c24
     have HC40 := Aside0.mk H
     clear H
     go_upto_if 31 with (fail)
     go_cut [31] (fun v31 wc => ∃ (kq : Nat) (x31_39 : Bool), v31 = .bool x31_39 ∧ Aside0 (impl_GetFrame.j0 kq l0 1 x31_39 (wrap64 (rd l0 0)) (⟨#[]⟩ : ByteArray) 0 = some (r1, r2, r3, r4, r5)) ∧ Aside0 (kq ≤ k) ∧ Aside0 (wc.heap[gb381]? = some (.cells #[.int .i64 0, .string (⟨#[]⟩ : ByteArray), .int .i64 0] 25 (0, 0))) ∧ Aside0 (wc.heap[gb383]? = some (.cells #[.int .i64 (wrap64 (rd l0 0)), .string (⟨#[]⟩ : ByteArray), .int .i64 0] 25 (0, 0))) ∧ Aside0 (Below w.heap.size w wc))
     case first =>
      have H := HC40.out
      clear HC40
      by_cases c41 : (wrap64 (rd l0 0)) = 1
      ·
       rw [if_pos c41] at H
       have c41b0 : ((wrap64 (rd l0 0)) == 1) = true := beq_iff_eq.mpr c41
       have c41b1 : ((wrap64 (rd l0 0)) != 1) = false := bne_eq_false_iff_eq.mpr c41
       clear c41
       (first | rw [c41b0] | rw [c41b1] | (simp only [i64_w, i32_w]; rw [c41b0]) | skip)
       have H' := Aside0.mk H
       clear H
       go_wp2
       go_meet
       case rel => exact ⟨_, (((wrap64 (rd l0 0)) == 1)), eqq_, H', ⟨by first | omega | exact Nat.le_refl _⟩, ⟨qK BK381⟩, ⟨qK BK383⟩, ⟨qB HB⟩⟩
      ·
       rw [if_neg c41] at H
       have c41b0 : ((wrap64 (rd l0 0)) == 1) = false := beq_eq_false_iff_ne.mpr c41
       have c41b1 : ((wrap64 (rd l0 0)) != 1) = true := bne_iff_ne.mpr c41
       (first | rw [c41b0] | rw [c41b1] | (simp only [i64_w, i32_w]; rw [c41b0]) | skip)
       by_cases c42 : (wrap64 (rd l0 0)) = 2
       ·
        rw [if_pos c42] at H
        have c42b0 : ((wrap64 (rd l0 0)) == 2) = true := beq_iff_eq.mpr c42
        have c42b1 : ((wrap64 (rd l0 0)) != 2) = false := bne_eq_false_iff_eq.mpr c42
        clear c42
        have H' := Aside0.mk H
        clear H
        go_wp2
        go_meet
        case rel => exact ⟨_, (((wrap64 (rd l0 0)) == 2)), eqq_, H', ⟨by first | omega | exact Nat.le_refl _⟩, ⟨qK BK381⟩, ⟨qK BK383⟩, ⟨qB HB⟩⟩
       ·
        rw [if_neg c42] at H
        have c42b0 : ((wrap64 (rd l0 0)) == 2) = false := beq_eq_false_iff_ne.mpr c42
        have c42b1 : ((wrap64 (rd l0 0)) != 2) = true := bne_iff_ne.mpr c42
        by_cases c43 : (wrap64 (rd l0 0)) = 4
        ·
         rw [if_pos c43] at H
         have c43b0 : ((wrap64 (rd l0 0)) == 4) = true := beq_iff_eq.mpr c43
         have c43b1 : ((wrap64 (rd l0 0)) != 4) = false := bne_eq_false_iff_eq.mpr c43
         clear c43
         have H' := Aside0.mk H
         clear H
         go_wp2
         go_meet
         case rel => exact ⟨_, (((wrap64 (rd l0 0)) == 4)), eqq_, H', ⟨by first | omega | exact Nat.le_refl _⟩, ⟨qK BK381⟩, ⟨qK BK383⟩, ⟨qB HB⟩⟩
        ·
         rw [if_neg c43] at H
         have c43b0 : ((wrap64 (rd l0 0)) == 4) = false := beq_eq_false_iff_ne.mpr c43
         have c43b1 : ((wrap64 (rd l0 0)) != 4) = true := bne_iff_ne.mpr c43
         have H' := Aside0.mk H
         clear H
         go_wp2
         go_meet
         case rel => exact ⟨_, (((wrap64 (rd l0 0)) == 6)), eqq_, H', ⟨by first | omega | exact Nat.le_refl _⟩, ⟨qK BK381⟩, ⟨qK BK383⟩, ⟨qB HB⟩⟩
     case rest =>
      clear HC40
      try clear c1
      try clear c2
      try clear p2
      try clear c3
      try clear p3
      try clear q3
      try clear hx3
      try clear qi3
      try clear c4
      try clear c4b0
      try clear c4b1
      try clear c4b2
      try clear c6
      try clear c6b0
      try clear c6b1
      try clear p6
      try clear c7
      try clear c9
      try clear c12
      try clear c12b0
      try clear c12b1
      try clear c15
      try clear c18
      try clear c19
      try clear c22
      try clear c24
      try clear c24b0
      try clear c24b1
      try clear c25
      try clear c25b0
      try clear c25b1
      try clear c26
      try clear c28
      try clear c28b0
      try clear c28b1
      try clear c31
      try clear c34
      try clear c35
      try clear c38
      try clear p38
      try clear q38
      try clear hx38
      try clear qi38
      try clear c41
      try clear c41b0
      try clear c41b1
      try clear c42
      try clear c42b0
      try clear c42b1
      try clear c43
      try clear c43b0
      try clear c43b1
      (try clear z10_0 z10_1 z10_2)
      (try clear z16_0 z16_1 z16_2)
      (try clear z20_0 z20_1 z20_2)
      (try clear z21_0 z21_1 z21_2)
      (try clear z23_0 z23_1 z23_2)
      (try clear z27_0 z27_1 z27_2)
      (try clear z32_0 z32_1 z32_2)
      (try clear z36_0 z36_1 z36_2)
      (try clear z37_0 z37_1 z37_2)
      (try clear z39_0 z39_1 z39_2)
      (try clear z5_0 z5_1 z5_2)
      (try clear f10_0 f10_1 f10_2)
      (try clear f16_0 f16_1 f16_2)
      (try clear f20_0 f20_1 f20_2)
      (try clear f21_0 f21_1 f21_2)
      (try clear f23_0 f23_1 f23_2)
      (try clear f27_0 f27_1 f27_2)
      (try clear f32_0 f32_1 f32_2)
      (try clear f36_0 f36_1 f36_2)
      (try clear f37_0 f37_1 f37_2)
      (try clear f39_0 f39_1 f39_2)
      (try clear f5_0 f5_1 f5_2)
      try clear hx382_0
      try clear hx385_0
      try clear p382
      try clear p385
      try clear q382
      try clear q385
      obtain ⟨kq, x31_39, rfl, HA, HJ39, BK381, BK383, HB⟩ := hcut
      cases kq with
      | zero => exact absurd HA.out (by simp [impl_GetFrame.j0])
      | succ kj39 =>
       have H := HA.out
       clear HA
       simp only [impl_GetFrame.j0] at H
       by_cases c44 : x31_39 = true
       ·
        subst c44
        rw [if_pos rfl] at H
        by_cases c45 : (l0.length : Int) < 2
        ·
         rw [if_pos c45] at H
         have c45b0 : decide ((l0.length : Int) < 2) = true := decide_eq_true c45
         have c45b1 : decide (l0.length < 2) = true := decide_eq_true (by omega)
         clear c45
         simp only [Option.some.injEq, Prod.mk.injEq] at H
         obtain ⟨rfl, rfl, rfl, rfl, rfl⟩ := H
         have hnb46 := NB381_383.out
         have hnc46 := NB383_381.out
         obtain ⟨z47_0, z47_1, z47_2⟩ := cz3 BK381.out
         obtain ⟨f47_0, f47_1, f47_2⟩ := fz3 BK381.out
         go_wp2
         refine bodyPost_ret (results_ctt rfl _ _ gb381 25 #[.int .i64 0, .string (⟨#[]⟩ : ByteArray), .int .i64 0] (0, 0) _ rfl (by (with_reducible repeat (first | refine blk_drewN ?_ _ | refine blk_drew ?_ | refine blk_alloc ?_ _)); refine blk_put (cs := #[.int .i64 0, .string (⟨#[]⟩ : ByteArray), .int .i64 0]) ?_ 2 _ rfl; (with_reducible repeat (first | refine blk_drewN ?_ _ | refine blk_drew ?_ | refine blk_alloc ?_ _)); refine blk_put (cs := #[.int .i64 0, .string (⟨#[]⟩ : ByteArray), .int .i64 0]) ?_ 1 _ rfl; (with_reducible repeat (first | refine blk_drewN ?_ _ | refine blk_drew ?_ | refine blk_alloc ?_ _)); refine blk_put (cs := #[.int .i64 0, .string (⟨#[]⟩ : ByteArray), .int .i64 0]) ?_ 0 _ rfl; (with_reducible repeat (first | refine blk_drewN ?_ _ | refine blk_drew ?_ | refine blk_alloc ?_ _)); exact BK381.out) Tryd.underlying25 rfl (by kernel_rfl)) rfl ?_
         exact ⟨by first | rfl | (simp [errW_none, errW_some] <;> rfl) | (simp [*, errW_none, errW_some] <;> rfl), qB HB⟩
        ·
         rw [if_neg c45] at H
         have c45b0 : decide ((l0.length : Int) < 2) = false := decide_eq_false c45
         have c45b1 : decide (l0.length < 2) = false := decide_eq_false (by omega)
         clear c45
         by_cases c48 : 1 < (l0.length : Int)
         ·
          rw [if_pos c48] at H
          have c48b0 : decide (1 < (l0.length : Int)) = true := decide_eq_true c48
          have c48b1 : decide (1 < l0.length) = true := decide_eq_true (by omega)
          clear c48
          by_cases c49 : (wrap64 (rd l0 1)) > 100
          ·
           rw [if_pos c49] at H
           have c49b0 : decide (100 < (wrap64 (rd l0 1))) = true := decide_eq_true c49
           clear c49
           simp only [Option.some.injEq, Prod.mk.injEq] at H
           obtain ⟨rfl, rfl, rfl, rfl, rfl⟩ := H
           have p387 : 0 ≤ (1 : Int) := (by omega)
           have q387 : 1 < (l0.length : Int) := od_
           obtain ⟨ad387, e387, hx387_0⟩ := Kd.at_int HR0.out 1 p387 q387
           obtain rfl : ad382 = ad387 := (by injection e387)
           (try simp only [show (1 : Int).toNat = 1 from rfl, Nat.reduceMul, Nat.reduceEqDiff, Go.Addr.add, ↓reduceIte] at hx387_0)
           have qi387 : (1 < l0.length) = True := eq_true (by omega)
           (try rw [show ((1 : Int)).toNat = 1 from rfl] at hx387_0)
           replace hx387_0 := lb_ HB hx387_0
           replace p387 := eq_true p387
           replace q387 := eq_true q387
           have hnb50 := NB381_383.out
           have hnc50 := NB383_381.out
           obtain ⟨z51_0, z51_1, z51_2⟩ := cz3 BK381.out
           obtain ⟨f51_0, f51_1, f51_2⟩ := fz3 BK381.out
           go_wp2
           refine bodyPost_ret (results_ctt rfl _ _ gb381 25 #[.int .i64 0, .string (⟨#[]⟩ : ByteArray), .int .i64 0] (0, 0) _ rfl (by (with_reducible repeat (first | refine blk_drewN ?_ _ | refine blk_drew ?_ | refine blk_alloc ?_ _)); refine blk_put (cs := #[.int .i64 0, .string (⟨#[]⟩ : ByteArray), .int .i64 0]) ?_ 2 _ rfl; (with_reducible repeat (first | refine blk_drewN ?_ _ | refine blk_drew ?_ | refine blk_alloc ?_ _)); refine blk_put (cs := #[.int .i64 0, .string (⟨#[]⟩ : ByteArray), .int .i64 0]) ?_ 1 _ rfl; (with_reducible repeat (first | refine blk_drewN ?_ _ | refine blk_drew ?_ | refine blk_alloc ?_ _)); refine blk_put (cs := #[.int .i64 0, .string (⟨#[]⟩ : ByteArray), .int .i64 0]) ?_ 0 _ rfl; (with_reducible repeat (first | refine blk_drewN ?_ _ | refine blk_drew ?_ | refine blk_alloc ?_ _)); exact BK381.out) Tryd.underlying25 rfl (by kernel_rfl)) rfl ?_
           exact ⟨by first | rfl | (simp [errW_none, errW_some] <;> rfl) | (simp [*, errW_none, errW_some] <;> rfl), qB HB⟩
          ·
           rw [if_neg c49] at H
           have c49b0 : decide (100 < (wrap64 (rd l0 1))) = false := decide_eq_false c49
           clear c49
           by_cases c52 : (l0.length : Int) < (wrap64 (2 + (wrap64 (rd l0 1))))
           ·
            rw [if_pos c52] at H
            have c52b0 : decide ((l0.length : Int) < (wrap64 (2 + (wrap64 (rd l0 1))))) = true := decide_eq_true c52
            clear c52
            simp only [Option.some.injEq, Prod.mk.injEq] at H
            obtain ⟨rfl, rfl, rfl, rfl, rfl⟩ := H
            have p387 : 0 ≤ (1 : Int) := (by omega)
            have q387 : 1 < (l0.length : Int) := od_
            obtain ⟨ad387, e387, hx387_0⟩ := Kd.at_int HR0.out 1 p387 q387
            obtain rfl : ad382 = ad387 := (by injection e387)
            (try simp only [show (1 : Int).toNat = 1 from rfl, Nat.reduceMul, Nat.reduceEqDiff, Go.Addr.add, ↓reduceIte] at hx387_0)
            have qi387 : (1 < l0.length) = True := eq_true (by omega)
            (try rw [show ((1 : Int)).toNat = 1 from rfl] at hx387_0)
            replace hx387_0 := lb_ HB hx387_0
            replace p387 := eq_true p387
            replace q387 := eq_true q387
            have p388 : 0 ≤ (1 : Int) := (by omega)
            have q388 : 1 < (l0.length : Int) := od_
            obtain ⟨ad388, e388, hx388_0⟩ := Kd.at_int HR0.out 1 p388 q388
            obtain rfl : ad382 = ad388 := (by injection e388)
            (try simp only [show (1 : Int).toNat = 1 from rfl, Nat.reduceMul, Nat.reduceEqDiff, Go.Addr.add, ↓reduceIte] at hx388_0)
            have qi388 : (1 < l0.length) = True := eq_true (by omega)
            (try rw [show ((1 : Int)).toNat = 1 from rfl] at hx388_0)
            replace hx388_0 := lb_ HB hx388_0
            replace p388 := eq_true p388
            replace q388 := eq_true q388
            have hnb53 := NB381_383.out
            have hnc53 := NB383_381.out
            obtain ⟨z54_0, z54_1, z54_2⟩ := cz3 BK381.out
            obtain ⟨f54_0, f54_1, f54_2⟩ := fz3 BK381.out
            go_wp2
            refine bodyPost_ret (results_ctt rfl _ _ gb381 25 #[.int .i64 0, .string (⟨#[]⟩ : ByteArray), .int .i64 0] (0, 0) _ rfl (by (with_reducible repeat (first | refine blk_drewN ?_ _ | refine blk_drew ?_ | refine blk_alloc ?_ _)); refine blk_put (cs := #[.int .i64 0, .string (⟨#[]⟩ : ByteArray), .int .i64 0]) ?_ 2 _ rfl; (with_reducible repeat (first | refine blk_drewN ?_ _ | refine blk_drew ?_ | refine blk_alloc ?_ _)); refine blk_put (cs := #[.int .i64 0, .string (⟨#[]⟩ : ByteArray), .int .i64 0]) ?_ 1 _ rfl; (with_reducible repeat (first | refine blk_drewN ?_ _ | refine blk_drew ?_ | refine blk_alloc ?_ _)); refine blk_put (cs := #[.int .i64 0, .string (⟨#[]⟩ : ByteArray), .int .i64 0]) ?_ 0 _ rfl; (with_reducible repeat (first | refine blk_drewN ?_ _ | refine blk_drew ?_ | refine blk_alloc ?_ _)); exact BK381.out) Tryd.underlying25 rfl (by kernel_rfl)) rfl ?_
            exact ⟨by first | rfl | (simp [errW_none, errW_some] <;> rfl) | (simp [*, errW_none, errW_some] <;> rfl), qB HB⟩
           ·
            rw [if_neg c52] at H
            have c52b0 : decide ((l0.length : Int) < (wrap64 (2 + (wrap64 (rd l0 1))))) = false := decide_eq_false c52
            clear c52
            by_cases c55 : 2 ≤ (wrap64 (2 + (wrap64 (rd l0 1))))
            ·
             rw [if_pos c55] at H
             have c55b0 := eq_true c55
             have c55b1 : decide (2 ≤ (wrap64 (2 + (wrap64 (rd l0 1))))) = true := decide_eq_true c55
             by_cases c56 : (wrap64 (2 + (wrap64 (rd l0 1)))) ≤ (l0.length : Int)
             ·
              rw [if_pos c56] at H
              have c56b0 := eq_true c56
              have c56b1 : decide ((wrap64 (2 + (wrap64 (rd l0 1)))) ≤ (l0.length : Int)) = true := decide_eq_true c56
              obtain ⟨t391, A57, H⟩ := bd_ H
              have HC58 := Aside0.mk H
              clear H
              have p387 : 0 ≤ (1 : Int) := (by omega)
              have q387 : 1 < (l0.length : Int) := od_
              obtain ⟨ad387, e387, hx387_0⟩ := Kd.at_int HR0.out 1 p387 q387
              obtain rfl : ad382 = ad387 := (by injection e387)
              (try simp only [show (1 : Int).toNat = 1 from rfl, Nat.reduceMul, Nat.reduceEqDiff, Go.Addr.add, ↓reduceIte] at hx387_0)
              have qi387 : (1 < l0.length) = True := eq_true (by omega)
              (try rw [show ((1 : Int)).toNat = 1 from rfl] at hx387_0)
              replace hx387_0 := lb_ HB hx387_0
              replace p387 := eq_true p387
              replace q387 := eq_true q387
              have p388 : 0 ≤ (1 : Int) := (by omega)
              have q388 : 1 < (l0.length : Int) := od_
              obtain ⟨ad388, e388, hx388_0⟩ := Kd.at_int HR0.out 1 p388 q388
              obtain rfl : ad382 = ad388 := (by injection e388)
              (try simp only [show (1 : Int).toNat = 1 from rfl, Nat.reduceMul, Nat.reduceEqDiff, Go.Addr.add, ↓reduceIte] at hx388_0)
              have qi388 : (1 < l0.length) = True := eq_true (by omega)
              (try rw [show ((1 : Int)).toNat = 1 from rfl] at hx388_0)
              replace hx388_0 := lb_ HB hx388_0
              replace p388 := eq_true p388
              replace q388 := eq_true q388
              have p389 : 0 ≤ (1 : Int) := (by omega)
              have q389 : 1 < (l0.length : Int) := od_
              obtain ⟨ad389, e389, hx389_0⟩ := Kd.at_int HR0.out 1 p389 q389
              obtain rfl : ad382 = ad389 := (by injection e389)
              (try simp only [show (1 : Int).toNat = 1 from rfl, Nat.reduceMul, Nat.reduceEqDiff, Go.Addr.add, ↓reduceIte] at hx389_0)
              have qi389 : (1 < l0.length) = True := eq_true (by omega)
              (try rw [show ((1 : Int)).toNat = 1 from rfl] at hx389_0)
              replace hx389_0 := lb_ HB hx389_0
              replace p389 := eq_true p389
              replace q389 := eq_true q389
              obtain ⟨i059, hi059, _, hsz59, _⟩ := info_parts info5
              obtain ⟨A59, hcut59, hA59, hC59⟩ := print_mid_of (P := Tryd.prog) (Value.int .u8) 0 22 5 .i64 .i64 Tryd.underlying22 hi059 hsz59 (some ad382) c0 l0 2 (wrap64 (2 + (wrap64 (rd l0 1)))) (by omega) (by first | omega | exact od_) od_ HC0.out
              have HR390 := Aside0.mk (Kd.C_of_reads (h1 := fun _ => rfl) (hA59 _ (Kd.reads_of_C HR0.out)))
              have HC390 := Aside0.mk hC59
              clear hA59 hC59 hi059 hsz59
              have hcv60 := Go.Proofs.YtaimfkfpglhijaaDoorV.conv_len (Kd.C_string (P := Tryd.prog) (A := A59) (c := (c0 - 2)) Tryd.underlying22 Tryd.underlying5 Tryd.underlying9 (Kd.C_below HR390.out HB.out))
              have hnb61 := NB383_381.out
              have hnc61 := NB381_383.out
              obtain ⟨z62_0, z62_1, z62_2⟩ := cz3 BK383.out
              obtain ⟨f62_0, f62_1, f62_2⟩ := fz3 BK383.out
              go_upto_if 70 with (first | ((with_reducible refine gate_callee (f := 7) rfl ?_); refine goesL_ (some 69) rfl rfl Tryd.func7 (by kernel_rfl) rfl #[.agg #[.int .i64 (wrap64 (rd l0 0)), .string (strOfNums ((l0.take ((wrap64 (2 + (wrap64 (rd l0 1)))) : Int).toNat).drop 2)), .int .i64 0]] rfl la_ ?_; (with_reducible refine (impl_FrameOk.calls kj39 (wrap64 (rd l0 0)) (strOfNums ((l0.take ((wrap64 (2 + (wrap64 (rd l0 1)))) : Int).toNat).drop 2)) 0 t391 _ A57.out).mono ?_); rintro e w63 ⟨rfl, hb⟩; refine ⟨_, rfl, ?_⟩; replace BK381 := am_ (blk_below (g := gb381) (o := .cells #[.int .i64 0, .string (⟨#[]⟩ : ByteArray), .int .i64 0] 25 (0, 0)) (by (with_reducible repeat (first | refine blk_drewN ?_ _ | refine blk_drew ?_ | refine blk_alloc ?_ _)); refine blk_far ?_ NB381_383.out _; (with_reducible repeat (first | refine blk_drewN ?_ _ | refine blk_drew ?_ | refine blk_alloc ?_ _)); exact BK381.out) hb); replace BK383 := am_ (blk_below (g := gb383) (o := .cells #[.int .i64 (wrap64 (rd l0 0)), .string (strOfNums ((l0.take ((wrap64 (2 + (wrap64 (rd l0 1)))) : Int).toNat).drop 2)), .int .i64 0] 25 (0, 0)) (by (with_reducible repeat (first | refine blk_drewN ?_ _ | refine blk_drew ?_ | refine blk_alloc ?_ _)); refine blk_put (cs := #[.int .i64 (wrap64 (rd l0 0)), .string (⟨#[]⟩ : ByteArray), .int .i64 0]) ?_ 1 _ rfl; (with_reducible repeat (first | refine blk_drewN ?_ _ | refine blk_drew ?_ | refine blk_alloc ?_ _)); exact BK383.out) hb); replace HB := am_ (below_step (qB HB) hb); (try clear hb); (try clear hb2); (try clear hk); (try clear hi)))
              (try simp only [Act.put, List.setIfInBounds_toArray, List.set_cons_zero, List.set_cons_succ])
              have H := HC58.out
              clear HC58
              by_cases c64 : t391 = true
              ·
               subst c64
               rw [if_pos rfl] at H
               simp only [Option.some.injEq, Prod.mk.injEq] at H
               obtain ⟨rfl, rfl, rfl, rfl, rfl⟩ := H
               have hnb65 := NB383_381.out
               have hnc65 := NB381_383.out
               obtain ⟨z66_0, z66_1, z66_2⟩ := cz3 BK383.out
               obtain ⟨f66_0, f66_1, f66_2⟩ := fz3 BK383.out
               obtain ⟨z67_0, z67_1, z67_2⟩ := cz3 BK381.out
               obtain ⟨f67_0, f67_1, f67_2⟩ := fz3 BK381.out
               go_wp2
               refine bodyPost_ret (results_ctt rfl _ _ gb381 25 #[.int .i64 (wrap64 (rd l0 0)), .string (strOfNums ((l0.take ((wrap64 (2 + (wrap64 (rd l0 1)))) : Int).toNat).drop 2)), .int .i64 0] (0, 0) _ rfl (by (with_reducible repeat (first | refine blk_drewN ?_ _ | refine blk_drew ?_ | refine blk_alloc ?_ _)); refine blk_put (cs := #[.int .i64 (wrap64 (rd l0 0)), .string (strOfNums ((l0.take ((wrap64 (2 + (wrap64 (rd l0 1)))) : Int).toNat).drop 2)), .int .i64 0]) ?_ 2 _ rfl; (with_reducible repeat (first | refine blk_drewN ?_ _ | refine blk_drew ?_ | refine blk_alloc ?_ _)); refine blk_put (cs := #[.int .i64 (wrap64 (rd l0 0)), .string (⟨#[]⟩ : ByteArray), .int .i64 0]) ?_ 1 _ rfl; (with_reducible repeat (first | refine blk_drewN ?_ _ | refine blk_drew ?_ | refine blk_alloc ?_ _)); refine blk_put (cs := #[.int .i64 0, .string (⟨#[]⟩ : ByteArray), .int .i64 0]) ?_ 0 _ rfl; (with_reducible repeat (first | refine blk_drewN ?_ _ | refine blk_drew ?_ | refine blk_alloc ?_ _)); exact BK381.out) Tryd.underlying25 rfl (by kernel_rfl)) rfl ?_
               exact ⟨by first | rfl | (simp [errW_none, errW_some] <;> rfl) | (simp [*, errW_none, errW_some] <;> rfl), qB HB⟩
              ·
               replace c64 := Bool.eq_false_iff.mpr c64
               subst c64
               rw [if_neg (show ¬ (false = true) by decide)] at H
               simp only [Option.some.injEq, Prod.mk.injEq] at H
               obtain ⟨rfl, rfl, rfl, rfl, rfl⟩ := H
               have hnb68 := NB381_383.out
               have hnc68 := NB383_381.out
               obtain ⟨z69_0, z69_1, z69_2⟩ := cz3 BK381.out
               obtain ⟨f69_0, f69_1, f69_2⟩ := fz3 BK381.out
               go_wp2
               refine bodyPost_ret (results_ctt rfl _ _ gb381 25 #[.int .i64 0, .string (⟨#[]⟩ : ByteArray), .int .i64 0] (0, 0) _ rfl (by (with_reducible repeat (first | refine blk_drewN ?_ _ | refine blk_drew ?_ | refine blk_alloc ?_ _)); refine blk_put (cs := #[.int .i64 0, .string (⟨#[]⟩ : ByteArray), .int .i64 0]) ?_ 2 _ rfl; (with_reducible repeat (first | refine blk_drewN ?_ _ | refine blk_drew ?_ | refine blk_alloc ?_ _)); refine blk_put (cs := #[.int .i64 0, .string (⟨#[]⟩ : ByteArray), .int .i64 0]) ?_ 1 _ rfl; (with_reducible repeat (first | refine blk_drewN ?_ _ | refine blk_drew ?_ | refine blk_alloc ?_ _)); refine blk_put (cs := #[.int .i64 0, .string (⟨#[]⟩ : ByteArray), .int .i64 0]) ?_ 0 _ rfl; (with_reducible repeat (first | refine blk_drewN ?_ _ | refine blk_drew ?_ | refine blk_alloc ?_ _)); exact BK381.out) Tryd.underlying25 rfl (by kernel_rfl)) rfl ?_
               exact ⟨by first | rfl | (simp [errW_none, errW_some] <;> rfl) | (simp [*, errW_none, errW_some] <;> rfl), qB HB⟩
             ·
              rw [if_neg c56] at H
              exact absurd H (by simp)
            ·
             rw [if_neg c55] at H
             exact absurd H (by simp)
         ·
          rw [if_neg c48] at H
          exact absurd H (by simp)
       ·
        replace c44 := Bool.eq_false_iff.mpr c44
        subst c44
        rw [if_neg (show ¬ (false = true) by decide)] at H
        obtain ⟨t392, A70, H⟩ := bd_ H
        have HC71 := Aside0.mk H
        clear H
        have hnb72 := NB383_381.out
        have hnc72 := NB381_383.out
        obtain ⟨z73_0, z73_1, z73_2⟩ := cz3 BK383.out
        obtain ⟨f73_0, f73_1, f73_2⟩ := fz3 BK383.out
        go_upto_if 70 with (first | ((with_reducible refine gate_callee (f := 7) rfl ?_); refine goesL_ (some 69) rfl rfl Tryd.func7 (by kernel_rfl) rfl #[.agg #[.int .i64 (wrap64 (rd l0 0)), .string (⟨#[]⟩ : ByteArray), .int .i64 0]] rfl la_ ?_; (with_reducible refine (impl_FrameOk.calls kj39 (wrap64 (rd l0 0)) (⟨#[]⟩ : ByteArray) 0 t392 _ A70.out).mono ?_); rintro e w74 ⟨rfl, hb⟩; refine ⟨_, rfl, ?_⟩; replace BK381 := am_ (blk_below (qK BK381) hb); replace BK383 := am_ (blk_below (qK BK383) hb); replace HB := am_ (below_step (qB HB) hb); (try clear hb); (try clear hb2); (try clear hk); (try clear hi)))
        (try simp only [Act.put, List.setIfInBounds_toArray, List.set_cons_zero, List.set_cons_succ])
        have H := HC71.out
        clear HC71
        by_cases c75 : t392 = true
        ·
         subst c75
         rw [if_pos rfl] at H
         simp only [Option.some.injEq, Prod.mk.injEq] at H
         obtain ⟨rfl, rfl, rfl, rfl, rfl⟩ := H
         have hnb76 := NB383_381.out
         have hnc76 := NB381_383.out
         obtain ⟨z77_0, z77_1, z77_2⟩ := cz3 BK383.out
         obtain ⟨f77_0, f77_1, f77_2⟩ := fz3 BK383.out
         obtain ⟨z78_0, z78_1, z78_2⟩ := cz3 BK381.out
         obtain ⟨f78_0, f78_1, f78_2⟩ := fz3 BK381.out
         go_wp2
         refine bodyPost_ret (results_ctt rfl _ _ gb381 25 #[.int .i64 (wrap64 (rd l0 0)), .string (⟨#[]⟩ : ByteArray), .int .i64 0] (0, 0) _ rfl (by (with_reducible repeat (first | refine blk_drewN ?_ _ | refine blk_drew ?_ | refine blk_alloc ?_ _)); refine blk_put (cs := #[.int .i64 (wrap64 (rd l0 0)), .string (⟨#[]⟩ : ByteArray), .int .i64 0]) ?_ 2 _ rfl; (with_reducible repeat (first | refine blk_drewN ?_ _ | refine blk_drew ?_ | refine blk_alloc ?_ _)); refine blk_put (cs := #[.int .i64 (wrap64 (rd l0 0)), .string (⟨#[]⟩ : ByteArray), .int .i64 0]) ?_ 1 _ rfl; (with_reducible repeat (first | refine blk_drewN ?_ _ | refine blk_drew ?_ | refine blk_alloc ?_ _)); refine blk_put (cs := #[.int .i64 0, .string (⟨#[]⟩ : ByteArray), .int .i64 0]) ?_ 0 _ rfl; (with_reducible repeat (first | refine blk_drewN ?_ _ | refine blk_drew ?_ | refine blk_alloc ?_ _)); exact BK381.out) Tryd.underlying25 rfl (by kernel_rfl)) rfl ?_
         exact ⟨by first | rfl | (simp [errW_none, errW_some] <;> rfl) | (simp [*, errW_none, errW_some] <;> rfl), qB HB⟩
        ·
         replace c75 := Bool.eq_false_iff.mpr c75
         subst c75
         rw [if_neg (show ¬ (false = true) by decide)] at H
         simp only [Option.some.injEq, Prod.mk.injEq] at H
         obtain ⟨rfl, rfl, rfl, rfl, rfl⟩ := H
         have hnb79 := NB381_383.out
         have hnc79 := NB383_381.out
         obtain ⟨z80_0, z80_1, z80_2⟩ := cz3 BK381.out
         obtain ⟨f80_0, f80_1, f80_2⟩ := fz3 BK381.out
         go_wp2
         refine bodyPost_ret (results_ctt rfl _ _ gb381 25 #[.int .i64 0, .string (⟨#[]⟩ : ByteArray), .int .i64 0] (0, 0) _ rfl (by (with_reducible repeat (first | refine blk_drewN ?_ _ | refine blk_drew ?_ | refine blk_alloc ?_ _)); refine blk_put (cs := #[.int .i64 0, .string (⟨#[]⟩ : ByteArray), .int .i64 0]) ?_ 2 _ rfl; (with_reducible repeat (first | refine blk_drewN ?_ _ | refine blk_drew ?_ | refine blk_alloc ?_ _)); refine blk_put (cs := #[.int .i64 0, .string (⟨#[]⟩ : ByteArray), .int .i64 0]) ?_ 1 _ rfl; (with_reducible repeat (first | refine blk_drewN ?_ _ | refine blk_drew ?_ | refine blk_alloc ?_ _)); refine blk_put (cs := #[.int .i64 0, .string (⟨#[]⟩ : ByteArray), .int .i64 0]) ?_ 0 _ rfl; (with_reducible repeat (first | refine blk_drewN ?_ _ | refine blk_drew ?_ | refine blk_alloc ?_ _)); exact BK381.out) Tryd.underlying25 rfl (by kernel_rfl)) rfl ?_
         exact ⟨by first | rfl | (simp [errW_none, errW_some] <;> rfl) | (simp [*, errW_none, errW_some] <;> rfl), qB HB⟩
  ·
   rw [if_neg c6] at H
   exact absurd H (by simp)

/-! ### laws_at: function 13 -/
def laws_at.f (l0 : List Int) (a1 : Int) : Option (Int) := if a1 < (l0.length : Int) then (if 0 ≤ a1 then (some (wrap64 (rd l0 a1))) else (none)) else (some (Int.tmod (wrap64 ((wrap64 (a1 * 31)) + (wrap64 ((l0.length : Int) * 7)))) 256))
set_option maxHeartbeats 8000000 in
set_option maxRecDepth 100000 in
theorem laws_at.calls (A0 : Option Addr) (c0 : Nat) (l0 : List Int) (a1 : Int) (r : Int) (w : World) (hr0 : Kd.C (Kd.int .u8) w A0 l0.length l0) (hc0 : l0.length ≤ c0) (h : laws_at.f l0 a1 = some r) :
  Calls Tryd.prog 13 #[.slice A0 l0.length c0, .int .i64 a1] w fun e w' => e = .returned (.int .i64 r) ∧ Drawn0 w w' := by
 have HR0 := Aside0.mk hr0
 have HC0 := Aside0.mk hc0
 clear hr0 hc0
 have H : (if a1 < (l0.length : Int) then (if 0 ≤ a1 then (some (wrap64 (rd l0 a1))) else (none)) else (some (Int.tmod (wrap64 ((wrap64 (a1 * 31)) + (wrap64 ((l0.length : Int) * 7)))) 256))) = some r := h
 clear h
 by_cases c3 : a1 < (l0.length : Int)
 ·
  rw [if_pos c3] at H
  have c3b0 : decide (a1 < (l0.length : Int)) = true := decide_eq_true c3
  clear c3
  by_cases c4 : 0 ≤ a1
  ·
   rw [if_pos c4] at H
   have c4b0 : decide (0 ≤ a1) = true := decide_eq_true c4
   clear c4
   obtain rfl := Option.some.inj H
   have p393 : 0 ≤ (a1 : Int) := od_
   have q393 : a1 < (l0.length : Int) := od_
   obtain ⟨ad393, e393, hx393_0⟩ := Kd.at_int HR0.out a1 p393 q393
   cases e393
   replace p393 := eq_true p393
   replace q393 := eq_true q393
   go_enter Tryd.func13, Tryd.ntmps13
   go_wp2
   go_ret
   exact ⟨by first | rfl | (simp; done) | (simp [*]; done), by repeat (first | exact Drawn0.refl _ | apply Drawn0.step)⟩
  ·
   rw [if_neg c4] at H
   exact absurd H (by simp)
 ·
  rw [if_neg c3] at H
  have c3b0 : decide (a1 < (l0.length : Int)) = false := decide_eq_false c3
  clear c3
  obtain rfl := Option.some.inj H
  go_enter Tryd.func13, Tryd.ntmps13
  go_wp2
  go_ret
  exact ⟨by first | rfl | (simp; done) | (simp [*]; done), by repeat (first | exact Drawn0.refl _ | apply Drawn0.step)⟩

end Go.Proofs.YtaimfkfpglhijaaDoor.PFnFrames
