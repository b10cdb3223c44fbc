-- Written by a program of this session (myprint.py, over the kit's print): contracts of FnExactAnswer
import Derived.Test.YtahfemlfdpbkkaaPFnExactAnswerx0
import Derived.Test.YtahfemlfdpbkkaaPFnExactAnswerx10
namespace Go.Proofs.Ytahfemlfdpbkkaa.PFnExactAnswer
open Go.RowKit Go.Proofs.YtahfemlfdpbkkaaW.PrintWords Go.Proofs.YtahfemlfdpbkkaaW.PrintLast Go.Proofs.YtahfemlfdpbkkaaW.PrintMore Go.Proofs.YtahfemlfdpbkkaaV
attribute [local go_sem] max2_int min2_int max_two min_two max_three min_three max_four min_four   -- for this text's walks alone
set_option linter.unusedVariables false
set_option linter.unusedSimpArgs false

/-! ### impl_GetFrame: function 118 -/
def impl_GetFrame.j0 : Nat → List Int → Int → Bool → Int → ByteArray → Int → Option (Int × ByteArray × Int × Int × Int)
 | 0, _, _, _, _, _, _ => none
 | k + 1, x0, x6, x31, x333000, x333001, x333002 => if x31 = true then (if (x0.length : Int) < 2 then (some (0, (⟨#[]⟩ : ByteArray), 0, 0, 1)) else (if 1 < (x0.length : Int) then (if (wrap64 (rd x0 1)) > 100 then (some (0, (⟨#[]⟩ : ByteArray), 0, 0, 2)) else (if (x0.length : Int) < (wrap64 (2 + (wrap64 (rd x0 1)))) then (some (0, (⟨#[]⟩ : ByteArray), 0, 0, 1)) else (if 2 ≤ (wrap64 (2 + (wrap64 (rd x0 1)))) then (if (wrap64 (2 + (wrap64 (rd x0 1)))) ≤ (x0.length : Int) then ((impl_FrameOk.f k x333000 (strOfNums ((x0.take ((wrap64 (2 + (wrap64 (rd x0 1)))) : Int).toNat).drop 2)) x333002).bind fun t340 => (if t340 = true then (some (x333000, strOfNums ((x0.take ((wrap64 (2 + (wrap64 (rd x0 1)))) : Int).toNat).drop 2), x333002, wrap64 (2 + (wrap64 (rd x0 1))), 0)) else (some (0, (⟨#[]⟩ : ByteArray), 0, 0, 2)))) else (none)) else (none)))) else (none))) else ((impl_FrameOk.f k x333000 x333001 x333002).bind fun t341 => (if t341 = true then (some (x333000, x333001, x333002, x6, 0)) else (some (0, (⟨#[]⟩ : ByteArray), 0, 0, 2))))
def impl_GetFrame.f (k : Nat) (l0 : List Int) : Option (Int × ByteArray × Int × Int × Int) := if (l0.length : Int) = 0 then (some (0, (⟨#[]⟩ : ByteArray), 0, 0, 1)) else (if 0 < (l0.length : Int) then (if (wrap64 (rd l0 0)) = 3 then ((impl_FrameOk.f k (wrap64 (rd l0 0)) (⟨#[]⟩ : ByteArray) 0).bind fun t333 => (if t333 = true then (some (wrap64 (rd l0 0), (⟨#[]⟩ : ByteArray), 0, 1, 0)) else (some (0, (⟨#[]⟩ : ByteArray), 0, 0, 2)))) else (if (wrap64 (rd l0 0)) = 5 then (if (l0.length : Int) < 2 then (some (0, (⟨#[]⟩ : ByteArray), 0, 0, 1)) else (if 1 < (l0.length : Int) then ((impl_FrameOk.f k (wrap64 (rd l0 0)) (⟨#[]⟩ : ByteArray) (wrap64 (rd l0 1))).bind fun t335 => (if t335 = true then (some (wrap64 (rd l0 0), (⟨#[]⟩ : ByteArray), wrap64 (rd l0 1), 2, 0)) else (some (0, (⟨#[]⟩ : ByteArray), 0, 0, 2)))) else (none))) else (if (wrap64 (rd l0 0)) = 1 then (impl_GetFrame.j0 k l0 1 ((wrap64 (rd l0 0)) == 1) (wrap64 (rd l0 0)) (⟨#[]⟩ : ByteArray) 0) else (if (wrap64 (rd l0 0)) = 2 then (impl_GetFrame.j0 k l0 1 ((wrap64 (rd l0 0)) == 2) (wrap64 (rd l0 0)) (⟨#[]⟩ : ByteArray) 0) else (if (wrap64 (rd l0 0)) = 4 then (impl_GetFrame.j0 k l0 1 ((wrap64 (rd l0 0)) == 4) (wrap64 (rd l0 0)) (⟨#[]⟩ : ByteArray) 0) else (impl_GetFrame.j0 k l0 1 ((wrap64 (rd l0 0)) == 6) (wrap64 (rd l0 0)) (⟨#[]⟩ : ByteArray) 0)))))) else (none))
theorem impl_GetFrame.mono_l : ∀ k, (∀ y0 y1 y2 y3 y4 y5, LeO (impl_GetFrame.j0 k y0 y1 y2 y3 y4 y5) (impl_GetFrame.j0 (k + 1) y0 y1 y2 y3 y4 y5))
 | 0 => fun _ _ _ _ _ _ r h => by simp [impl_GetFrame.j0] at h
 | k + 1 => by
  have ih0 := impl_GetFrame.mono_l k
  ·
   intro y0 y1 y2 y3 y4 y5
   unfold impl_GetFrame.j0
   repeat' first
   | (with_reducible exact ih0 _ _ _ _ _ _)
   | (with_reducible exact impl_FrameOk.mono _ _ _ _)
   | (with_reducible exact LeO.refl _)
   | (with_reducible exact LeO.none _)
   | (with_reducible refine LeO.ite ?_ ?_)
   | (with_reducible refine LeO.bind ?_ (fun _ => ?_))
   | exact ih0 _ _ _ _ _ _
   | exact impl_FrameOk.mono _ _ _ _
   | exact LeO.none _
   | refine LeO.ite ?_ ?_
   | refine LeO.bind ?_ (fun _ => ?_)
theorem impl_GetFrame.mono : ∀ a0 k, LeO (impl_GetFrame.f k a0) (impl_GetFrame.f (k + 1) a0) := by
 intro a0 k
 have ih0 := impl_GetFrame.mono_l k
 unfold impl_GetFrame.f
 repeat' first
   | (with_reducible exact ih0 _ _ _ _ _ _)
   | (with_reducible exact impl_FrameOk.mono _ _ _ _)
   | (with_reducible exact LeO.refl _)
   | (with_reducible exact LeO.none _)
   | (with_reducible refine LeO.ite ?_ ?_)
   | (with_reducible refine LeO.bind ?_ (fun _ => ?_))
   | exact ih0 _ _ _ _ _ _
   | exact impl_FrameOk.mono _ _ _ _
   | exact LeO.none _
   | refine LeO.ite ?_ ?_
   | refine LeO.bind ?_ (fun _ => ?_)
set_option maxHeartbeats 8000000 in
set_option maxRecDepth 100000 in
theorem impl_GetFrame.calls (k : Nat) (A0 : Option Addr) (c0 : Nat) (l0 : List Int) (r1 : Int) (r2 : ByteArray) (r3 : Int) (r4 : Int) (r5 : Int) (w : World) (hr0 : Kd.C (Kd.int .u8) w A0 l0.length l0) (hc0 : l0.length ≤ c0) (h : impl_GetFrame.f k l0 = some (r1, r2, r3, r4, r5)) :
  Calls Try.prog 118 #[.slice A0 l0.length c0] w fun e w' => e = .returned (.tuple #[.agg #[.int .i64 r1, .string r2, .int .i64 r3], .int .i64 r4, .int .i64 r5]) ∧ Below w.heap.size w w' := by
 have hu32 := Try.underlying32
 have HR0 := Aside0.mk hr0
 have HC0 := Aside0.mk hc0
 clear hr0 hc0
 have HB := Aside0.mk (Below.refl w.heap.size w)
 have H : (if (l0.length : Int) = 0 then (some (0, (⟨#[]⟩ : ByteArray), 0, 0, 1)) else (if 0 < (l0.length : Int) then (if (wrap64 (rd l0 0)) = 3 then ((impl_FrameOk.f k (wrap64 (rd l0 0)) (⟨#[]⟩ : ByteArray) 0).bind fun t333 => (if t333 = true then (some (wrap64 (rd l0 0), (⟨#[]⟩ : ByteArray), 0, 1, 0)) else (some (0, (⟨#[]⟩ : ByteArray), 0, 0, 2)))) else (if (wrap64 (rd l0 0)) = 5 then (if (l0.length : Int) < 2 then (some (0, (⟨#[]⟩ : ByteArray), 0, 0, 1)) else (if 1 < (l0.length : Int) then ((impl_FrameOk.f k (wrap64 (rd l0 0)) (⟨#[]⟩ : ByteArray) (wrap64 (rd l0 1))).bind fun t335 => (if t335 = true then (some (wrap64 (rd l0 0), (⟨#[]⟩ : ByteArray), wrap64 (rd l0 1), 2, 0)) else (some (0, (⟨#[]⟩ : ByteArray), 0, 0, 2)))) else (none))) else (if (wrap64 (rd l0 0)) = 1 then (impl_GetFrame.j0 k l0 1 ((wrap64 (rd l0 0)) == 1) (wrap64 (rd l0 0)) (⟨#[]⟩ : ByteArray) 0) else (if (wrap64 (rd l0 0)) = 2 then (impl_GetFrame.j0 k l0 1 ((wrap64 (rd l0 0)) == 2) (wrap64 (rd l0 0)) (⟨#[]⟩ : ByteArray) 0) else (if (wrap64 (rd l0 0)) = 4 then (impl_GetFrame.j0 k l0 1 ((wrap64 (rd l0 0)) == 4) (wrap64 (rd l0 0)) (⟨#[]⟩ : ByteArray) 0) else (impl_GetFrame.j0 k l0 1 ((wrap64 (rd l0 0)) == 6) (wrap64 (rd l0 0)) (⟨#[]⟩ : ByteArray) 0)))))) else (none))) = some (r1, r2, r3, r4, r5) := h
 clear h
 have HC2 := Aside0.mk H
 clear H
 go_enter Try.func118, Try.ntmps118
 go_upto_if 9 with (first | ((with_reducible refine gate_dst (N := 2) rfl ?_); refine box_event ?hg (N := 2) ?hd (cs := #[.int .i64 0, .string (⟨#[]⟩ : ByteArray), .int .i64 0]) (t := 32) ?hr ?_; (case hd => rfl); (case hg => rfl); (case hr => first | (go_simp; done) | (go_simp; rfl)); intro gb330 hg w3 hbox hb; have BK330 := am_ (hbox); have GW330 := am_ ((gG_ hg (qB HB))); have IGW330 := gI_ GW330; have GE330 := am_ ((gG_ hg (qB HB))); have IGE330 := gI_ GE330; replace HB := am_ (below_step (qB HB) hb); clear hb hbox hg))
 (try simp only [Act.put, List.setIfInBounds_toArray, List.set_cons_zero, List.set_cons_succ])
 have H := HC2.out
 clear HC2
 by_cases c4 : (l0.length : Int) = 0
 ·
  rw [if_pos c4] at H
  have c4b0 : ((l0.length : Int) == 0) = true := beq_iff_eq.mpr c4
  have c4b1 : ((l0.length : Int) != 0) = false := bne_eq_false_iff_eq.mpr c4
  clear c4
  (first | rw [c4b0] | (simp only [i64_w, i32_w]; rw [c4b0]) | skip)
  simp only [Option.some.injEq, Prod.mk.injEq] at H
  obtain ⟨rfl, rfl, rfl, rfl, rfl⟩ := H
  obtain ⟨hcz5_0, hcz5_1, hcz5_2⟩ := cz3 BK330.out
  obtain ⟨hfz5_0, hfz5_1, hfz5_2⟩ := fz3 BK330.out
  go_wp2
  refine bodyPost_ret (results_ctt rfl _ _ gb330 32 #[.int .i64 0, .string (⟨#[]⟩ : ByteArray), .int .i64 0] (0, 0) _ rfl (by (with_reducible repeat (first | refine blk_drewN ?_ _ | refine blk_drew ?_ | refine blk_alloc ?_ _)); refine blk_put (cs := #[.int .i64 0, .string (⟨#[]⟩ : ByteArray), .int .i64 0]) ?_ 2 _ rfl; (with_reducible repeat (first | refine blk_drewN ?_ _ | refine blk_drew ?_ | refine blk_alloc ?_ _)); refine blk_put (cs := #[.int .i64 0, .string (⟨#[]⟩ : ByteArray), .int .i64 0]) ?_ 1 _ rfl; (with_reducible repeat (first | refine blk_drewN ?_ _ | refine blk_drew ?_ | refine blk_alloc ?_ _)); refine blk_put (cs := #[.int .i64 0, .string (⟨#[]⟩ : ByteArray), .int .i64 0]) ?_ 0 _ rfl; (with_reducible repeat (first | refine blk_drewN ?_ _ | refine blk_drew ?_ | refine blk_alloc ?_ _)); exact BK330.out) Try.underlying32 rfl (by kernel_rfl)) rfl ?_
  exact ⟨by first | rfl | (simp [errW_none, errW_some] <;> rfl) | (simp [*, errW_none, errW_some] <;> rfl), qB HB⟩
 ·
  rw [if_neg c4] at H
  have c4b0 : ((l0.length : Int) == 0) = false := beq_eq_false_iff_ne.mpr c4
  have c4b1 : ((l0.length : Int) != 0) = true := bne_iff_ne.mpr c4
  have c4b2 : ¬ (l0 = []) := fun h_ => c4 (by rw [h_]; rfl)
  (first | rw [c4b0] | (simp only [i64_w, i32_w]; rw [c4b0]) | skip)
  by_cases c6 : 0 < (l0.length : Int)
  ·
   rw [if_pos c6] at H
   have c6b0 : decide (0 < (l0.length : Int)) = true := decide_eq_true c6
   have c6b1 : decide (0 < l0.length) = true := decide_eq_true (by omega)
   clear c6
   have HC7 := Aside0.mk H
   clear H
   have p331 : 0 ≤ (0 : Int) := (by omega)
   have q331 : 0 < (l0.length : Int) := of_decide_eq_true (by first | (with_reducible assumption) | assumption)
   obtain ⟨ad331, e331, hx331_0⟩ := Kd.at_int HR0.out 0 p331 q331
   cases e331
   have qi331 : (0 < l0.length) = True := eq_true (by omega)
   (try rw [show ((0 : Int)).toNat = 0 from rfl] at hx331_0)
   (try rw [Addr.add_zero'] at hx331_0)
   replace hx331_0 := (HB.out.cell (World.block_lt_of_cell? w _ hx331_0)).trans hx331_0
   replace p331 := eq_true p331
   replace q331 := eq_true q331
   go_upto_if 18 with (first | ((with_reducible refine gate_dst (N := 5) rfl ?_); refine box_event ?hg (N := 5) ?hd (cs := #[.int .i64 0, .string (⟨#[]⟩ : ByteArray), .int .i64 0]) (t := 32) ?hr ?_; (case hd => rfl); (case hg => rfl); (case hr => first | (go_simp; done) | (go_simp; rfl)); intro gb332 hg w8 hbox hb; have BK332 := am_ (hbox); have GW332 := am_ ((gG_ hg (qB HB))); have IGW332 := gI_ GW332; have GE332 := am_ ((gG_ hg (qB HB))); have IGE332 := gI_ GE332; replace HB := am_ (below_step (qB HB) hb); have NB330_332 := am_ ((gN_ hg (qK BK330))); have NB332_330 := am_ ((gM_ hg (qK BK330))); replace BK330 := am_ (blk_below (qK BK330) hb); clear hb hbox hg; have hnb9 := NB332_330.out; have hnc9 := NB330_332.out; obtain ⟨hcz10_0, hcz10_1, hcz10_2⟩ := cz3 BK332.out; obtain ⟨hfz10_0, hfz10_1, hfz10_2⟩ := fz3 BK332.out))
   (try simp only [Act.put, List.setIfInBounds_toArray, List.set_cons_zero, List.set_cons_succ])
   have n0_ : Aside0 ((((w8.setCell ⟨gb332, 0, none⟩ (.int .i64 (wrap64 (rd l0 0)))).setCell ⟨gb332, 1, none⟩ (.string (⟨#[]⟩ : ByteArray))).setCell ⟨gb332, 2, none⟩ (.int .i64 0)).heap[gb330]? = some (.cells #[.int .i64 0, .string (⟨#[]⟩ : ByteArray), .int .i64 0] 32 (0, 0))) := ⟨by (with_reducible repeat (first | refine blk_drewN ?_ _ | refine blk_drew ?_ | refine blk_alloc ?_ _)); refine Go.Proofs.YtahfemlfdpbkkaaV.blk_far3 ?_ NB330_332.out; (with_reducible repeat (first | refine blk_drewN ?_ _ | refine blk_drew ?_ | refine blk_alloc ?_ _)); exact BK330.out⟩
   have n1_ : Aside0 ((((w8.setCell ⟨gb332, 0, none⟩ (.int .i64 (wrap64 (rd l0 0)))).setCell ⟨gb332, 1, none⟩ (.string (⟨#[]⟩ : ByteArray))).setCell ⟨gb332, 2, none⟩ (.int .i64 0)).heap[gb332]? = some (.cells #[.int .i64 (wrap64 (rd l0 0)), .string (⟨#[]⟩ : ByteArray), .int .i64 0] 32 (0, 0))) := ⟨by (with_reducible repeat (first | refine blk_drewN ?_ _ | refine blk_drew ?_ | refine blk_alloc ?_ _)); refine Go.Proofs.YtahfemlfdpbkkaaV.blk_all3 (show _ = some (Go.Obj.cells #[.int .i64 0, .string (⟨#[]⟩ : ByteArray), .int .i64 0] _ (0, 0)) from ?_); (with_reducible repeat (first | refine blk_drewN ?_ _ | refine blk_drew ?_ | refine blk_alloc ?_ _)); exact BK332.out⟩
   have n2_ : Aside0 (Below w.heap.size w (((w8.setCell ⟨gb332, 0, none⟩ (.int .i64 (wrap64 (rd l0 0)))).setCell ⟨gb332, 1, none⟩ (.string (⟨#[]⟩ : ByteArray))).setCell ⟨gb332, 2, none⟩ (.int .i64 0))) := ⟨qB HB⟩
   (try clear BK330)
   (try clear BK332)
   (try clear HB)
   generalize (((w8.setCell ⟨gb332, 0, none⟩ (.int .i64 (wrap64 (rd l0 0)))).setCell ⟨gb332, 1, none⟩ (.string (⟨#[]⟩ : ByteArray))).setCell ⟨gb332, 2, none⟩ (.int .i64 0)) = w11 at n0_ n1_ n2_ ⊢
   have BK330 := n0_
   have BK332 := n1_
   have HB := n2_
   clear n0_ n1_ n2_
   have H := HC7.out
   clear HC7
   by_cases c12 : (wrap64 (rd l0 0)) = 3
   ·
    rw [if_pos c12] at H
    have c12b0 : ((wrap64 (rd l0 0)) == 3) = true := beq_iff_eq.mpr c12
    have c12b1 : ((wrap64 (rd l0 0)) != 3) = false := bne_eq_false_iff_eq.mpr c12
    clear c12
    (first | rw [c12b0] | (simp only [i64_w, i32_w]; rw [c12b0]) | skip)
    replace H := Option.bind_eq_some_iff.mp H
    obtain ⟨t333, A130, H⟩ := H
    replace H : (if t333 = true then (some (wrap64 (rd l0 0), (⟨#[]⟩ : ByteArray), 0, 1, 0)) else (some (0, (⟨#[]⟩ : ByteArray), 0, 0, 2))) = some (r1, r2, r3, r4, r5) := H
    have A13 := Aside0.mk A130
    clear A130
    have HC14 := Aside0.mk H
    clear H
    have hnb15 := NB332_330.out
    have hnc15 := NB330_332.out
    obtain ⟨hcz16_0, hcz16_1, hcz16_2⟩ := cz3 BK332.out
    obtain ⟨hfz16_0, hfz16_1, hfz16_2⟩ := fz3 BK332.out
    go_upto_if 70 with (first | ((with_reducible refine gate_callee (f := 143) rfl ?_); refine goesL_ (some 69) rfl rfl Try.func143 (by kernel_rfl) rfl #[.agg #[.int .i64 (wrap64 (rd l0 0)), .string (⟨#[]⟩ : ByteArray), .int .i64 0]] rfl (by (try simp only [List.map_toArray, List.map_cons, List.map_nil]); first | done | rfl | (simp only [List.length_drop, List.length_take]; rfl)) ?_; (with_reducible refine (impl_FrameOk.calls k (wrap64 (rd l0 0)) (⟨#[]⟩ : ByteArray) 0 t333 _ A13.out).mono ?_); rintro e w17 ⟨rfl, hb⟩; refine ⟨_, rfl, ?_⟩; replace BK330 := am_ (blk_below (qK BK330) hb); replace BK332 := am_ (blk_below (qK BK332) hb); replace HB := am_ (below_step (qB HB) hb); (try clear hb); (try clear hb2); (try clear hk); (try clear hi)))
    (try simp only [Act.put, List.setIfInBounds_toArray, List.set_cons_zero, List.set_cons_succ])
    have H := HC14.out
    clear HC14
    by_cases c18 : t333 = true
    ·
     subst c18
     have H1 : (some (wrap64 (rd l0 0), (⟨#[]⟩ : ByteArray), 0, 1, 0)) = some (r1, r2, r3, r4, r5) := by rw [if_pos rfl] at H; exact H
     clear H
     have H := H1
     clear H1
     simp only [Option.some.injEq, Prod.mk.injEq] at H
     obtain ⟨rfl, rfl, rfl, rfl, rfl⟩ := H
     have hnb19 := NB332_330.out
     have hnc19 := NB330_332.out
     obtain ⟨hcz20_0, hcz20_1, hcz20_2⟩ := cz3 BK332.out
     obtain ⟨hfz20_0, hfz20_1, hfz20_2⟩ := fz3 BK332.out
     obtain ⟨hcz21_0, hcz21_1, hcz21_2⟩ := cz3 BK330.out
     obtain ⟨hfz21_0, hfz21_1, hfz21_2⟩ := fz3 BK330.out
     go_wp2
     refine bodyPost_ret (results_ctt rfl _ _ gb330 32 #[.int .i64 (wrap64 (rd l0 0)), .string (⟨#[]⟩ : ByteArray), .int .i64 0] (0, 0) _ rfl (by (with_reducible repeat (first | refine blk_drewN ?_ _ | refine blk_drew ?_ | refine blk_alloc ?_ _)); refine blk_put (cs := #[.int .i64 (wrap64 (rd l0 0)), .string (⟨#[]⟩ : ByteArray), .int .i64 0]) ?_ 2 _ rfl; (with_reducible repeat (first | refine blk_drewN ?_ _ | refine blk_drew ?_ | refine blk_alloc ?_ _)); refine blk_put (cs := #[.int .i64 (wrap64 (rd l0 0)), .string (⟨#[]⟩ : ByteArray), .int .i64 0]) ?_ 1 _ rfl; (with_reducible repeat (first | refine blk_drewN ?_ _ | refine blk_drew ?_ | refine blk_alloc ?_ _)); refine blk_put (cs := #[.int .i64 0, .string (⟨#[]⟩ : ByteArray), .int .i64 0]) ?_ 0 _ rfl; (with_reducible repeat (first | refine blk_drewN ?_ _ | refine blk_drew ?_ | refine blk_alloc ?_ _)); exact BK330.out) Try.underlying32 rfl (by kernel_rfl)) rfl ?_
     exact ⟨by first | rfl | (simp [errW_none, errW_some] <;> rfl) | (simp [*, errW_none, errW_some] <;> rfl), qB HB⟩
    ·
     replace c18 := Bool.eq_false_iff.mpr c18
     subst c18
     have H1 : (some (0, (⟨#[]⟩ : ByteArray), 0, 0, 2)) = some (r1, r2, r3, r4, r5) := by rw [if_neg (show ¬ (false = true) by decide)] at H; exact H
     clear H
     have H := H1
     clear H1
     simp only [Option.some.injEq, Prod.mk.injEq] at H
     obtain ⟨rfl, rfl, rfl, rfl, rfl⟩ := H
     have hnb22 := NB330_332.out
     have hnc22 := NB332_330.out
     obtain ⟨hcz23_0, hcz23_1, hcz23_2⟩ := cz3 BK330.out
     obtain ⟨hfz23_0, hfz23_1, hfz23_2⟩ := fz3 BK330.out
     go_wp2
     refine bodyPost_ret (results_ctt rfl _ _ gb330 32 #[.int .i64 0, .string (⟨#[]⟩ : ByteArray), .int .i64 0] (0, 0) _ rfl (by (with_reducible repeat (first | refine blk_drewN ?_ _ | refine blk_drew ?_ | refine blk_alloc ?_ _)); refine blk_put (cs := #[.int .i64 0, .string (⟨#[]⟩ : ByteArray), .int .i64 0]) ?_ 2 _ rfl; (with_reducible repeat (first | refine blk_drewN ?_ _ | refine blk_drew ?_ | refine blk_alloc ?_ _)); refine blk_put (cs := #[.int .i64 0, .string (⟨#[]⟩ : ByteArray), .int .i64 0]) ?_ 1 _ rfl; (with_reducible repeat (first | refine blk_drewN ?_ _ | refine blk_drew ?_ | refine blk_alloc ?_ _)); refine blk_put (cs := #[.int .i64 0, .string (⟨#[]⟩ : ByteArray), .int .i64 0]) ?_ 0 _ rfl; (with_reducible repeat (first | refine blk_drewN ?_ _ | refine blk_drew ?_ | refine blk_alloc ?_ _)); exact BK330.out) Try.underlying32 rfl (by kernel_rfl)) rfl ?_
     exact ⟨by first | rfl | (simp [errW_none, errW_some] <;> rfl) | (simp [*, errW_none, errW_some] <;> rfl), qB HB⟩
   ·
    rw [if_neg c12] at H
    have c12b0 : ((wrap64 (rd l0 0)) == 3) = false := beq_eq_false_iff_ne.mpr c12
    have c12b1 : ((wrap64 (rd l0 0)) != 3) = true := bne_iff_ne.mpr c12
    (first | rw [c12b0] | (simp only [i64_w, i32_w]; rw [c12b0]) | skip)
    by_cases c24 : (wrap64 (rd l0 0)) = 5
    ·
     rw [if_pos c24] at H
     have c24b0 : ((wrap64 (rd l0 0)) == 5) = true := beq_iff_eq.mpr c24
     have c24b1 : ((wrap64 (rd l0 0)) != 5) = false := bne_eq_false_iff_eq.mpr c24
     clear c24
     by_cases c25 : (l0.length : Int) < 2
     ·
      rw [if_pos c25] at H
      have c25b0 : decide ((l0.length : Int) < 2) = true := decide_eq_true c25
      have c25b1 : decide (l0.length < 2) = true := decide_eq_true (by omega)
      clear c25
      simp only [Option.some.injEq, Prod.mk.injEq] at H
      obtain ⟨rfl, rfl, rfl, rfl, rfl⟩ := H
      have hnb26 := NB330_332.out
      have hnc26 := NB332_330.out
      obtain ⟨hcz27_0, hcz27_1, hcz27_2⟩ := cz3 BK330.out
      obtain ⟨hfz27_0, hfz27_1, hfz27_2⟩ := fz3 BK330.out
      go_wp2
      refine bodyPost_ret (results_ctt rfl _ _ gb330 32 #[.int .i64 0, .string (⟨#[]⟩ : ByteArray), .int .i64 0] (0, 0) _ rfl (by (with_reducible repeat (first | refine blk_drewN ?_ _ | refine blk_drew ?_ | refine blk_alloc ?_ _)); refine blk_put (cs := #[.int .i64 0, .string (⟨#[]⟩ : ByteArray), .int .i64 0]) ?_ 2 _ rfl; (with_reducible repeat (first | refine blk_drewN ?_ _ | refine blk_drew ?_ | refine blk_alloc ?_ _)); refine blk_put (cs := #[.int .i64 0, .string (⟨#[]⟩ : ByteArray), .int .i64 0]) ?_ 1 _ rfl; (with_reducible repeat (first | refine blk_drewN ?_ _ | refine blk_drew ?_ | refine blk_alloc ?_ _)); refine blk_put (cs := #[.int .i64 0, .string (⟨#[]⟩ : ByteArray), .int .i64 0]) ?_ 0 _ rfl; (with_reducible repeat (first | refine blk_drewN ?_ _ | refine blk_drew ?_ | refine blk_alloc ?_ _)); exact BK330.out) Try.underlying32 rfl (by kernel_rfl)) rfl ?_
      exact ⟨by first | rfl | (simp [errW_none, errW_some] <;> rfl) | (simp [*, errW_none, errW_some] <;> rfl), qB HB⟩
     ·
      rw [if_neg c25] at H
      have c25b0 : decide ((l0.length : Int) < 2) = false := decide_eq_false c25
      have c25b1 : decide (l0.length < 2) = false := decide_eq_false (by omega)
      clear c25
      by_cases c28 : 1 < (l0.length : Int)
      ·
       rw [if_pos c28] at H
       have c28b0 : decide (1 < (l0.length : Int)) = true := decide_eq_true c28
       have c28b1 : decide (1 < l0.length) = true := decide_eq_true (by omega)
       clear c28
       replace H := Option.bind_eq_some_iff.mp H
       obtain ⟨t335, A290, H⟩ := H
       replace H : (if t335 = true then (some (wrap64 (rd l0 0), (⟨#[]⟩ : ByteArray), wrap64 (rd l0 1), 2, 0)) else (some (0, (⟨#[]⟩ : ByteArray), 0, 0, 2))) = some (r1, r2, r3, r4, r5) := H
       have A29 := Aside0.mk A290
       clear A290
       have HC30 := Aside0.mk H
       clear H
       have p334 : 0 ≤ (1 : Int) := (by omega)
       have q334 : 1 < (l0.length : Int) := of_decide_eq_true (by first | (with_reducible assumption) | assumption)
       obtain ⟨ad334, e334, hx334_0⟩ := Kd.at_int HR0.out 1 p334 q334
       obtain rfl : ad331 = ad334 := (by injection e334)
       (try simp only [show (1 : Int).toNat = 1 from rfl, Nat.reduceMul, Nat.reduceEqDiff, Go.Addr.add, ↓reduceIte] at hx334_0)
       have qi334 : (1 < l0.length) = True := eq_true (by omega)
       (try rw [show ((1 : Int)).toNat = 1 from rfl] at hx334_0)
       replace hx334_0 := (HB.out.cell (World.block_lt_of_cell? w _ hx334_0)).trans hx334_0
       replace p334 := eq_true p334
       replace q334 := eq_true q334
       have hnb31 := NB332_330.out
       have hnc31 := NB330_332.out
       obtain ⟨hcz32_0, hcz32_1, hcz32_2⟩ := cz3 BK332.out
       obtain ⟨hfz32_0, hfz32_1, hfz32_2⟩ := fz3 BK332.out
       go_upto_if 70 with (first | ((with_reducible refine gate_callee (f := 143) rfl ?_); refine goesL_ (some 69) rfl rfl Try.func143 (by kernel_rfl) rfl #[.agg #[.int .i64 (wrap64 (rd l0 0)), .string (⟨#[]⟩ : ByteArray), .int .i64 (wrap64 (rd l0 1))]] rfl (by (try simp only [List.map_toArray, List.map_cons, List.map_nil]); first | done | rfl | (simp only [List.length_drop, List.length_take]; rfl)) ?_; (with_reducible refine (impl_FrameOk.calls k (wrap64 (rd l0 0)) (⟨#[]⟩ : ByteArray) (wrap64 (rd l0 1)) t335 _ A29.out).mono ?_); rintro e w33 ⟨rfl, hb⟩; refine ⟨_, rfl, ?_⟩; replace BK330 := am_ (blk_below (g := gb330) (o := .cells #[.int .i64 0, .string (⟨#[]⟩ : ByteArray), .int .i64 0] 32 (0, 0)) (by (with_reducible repeat (first | refine blk_drewN ?_ _ | refine blk_drew ?_ | refine blk_alloc ?_ _)); refine blk_far ?_ NB330_332.out _; (with_reducible repeat (first | refine blk_drewN ?_ _ | refine blk_drew ?_ | refine blk_alloc ?_ _)); exact BK330.out) hb); replace BK332 := am_ (blk_below (g := gb332) (o := .cells #[.int .i64 (wrap64 (rd l0 0)), .string (⟨#[]⟩ : ByteArray), .int .i64 (wrap64 (rd l0 1))] 32 (0, 0)) (by (with_reducible repeat (first | refine blk_drewN ?_ _ | refine blk_drew ?_ | refine blk_alloc ?_ _)); refine blk_put (cs := #[.int .i64 (wrap64 (rd l0 0)), .string (⟨#[]⟩ : ByteArray), .int .i64 0]) ?_ 2 _ rfl; (with_reducible repeat (first | refine blk_drewN ?_ _ | refine blk_drew ?_ | refine blk_alloc ?_ _)); exact BK332.out) hb); replace HB := am_ (below_step (qB HB) hb); (try clear hb); (try clear hb2); (try clear hk); (try clear hi)))
       (try simp only [Act.put, List.setIfInBounds_toArray, List.set_cons_zero, List.set_cons_succ])
       have H := HC30.out
       clear HC30
       by_cases c34 : t335 = true
       ·
        subst c34
        have H1 : (some (wrap64 (rd l0 0), (⟨#[]⟩ : ByteArray), wrap64 (rd l0 1), 2, 0)) = some (r1, r2, r3, r4, r5) := by rw [if_pos rfl] at H; exact H
        clear H
        have H := H1
        clear H1
        simp only [Option.some.injEq, Prod.mk.injEq] at H
        obtain ⟨rfl, rfl, rfl, rfl, rfl⟩ := H
        have hnb35 := NB332_330.out
        have hnc35 := NB330_332.out
        obtain ⟨hcz36_0, hcz36_1, hcz36_2⟩ := cz3 BK332.out
        obtain ⟨hfz36_0, hfz36_1, hfz36_2⟩ := fz3 BK332.out
        obtain ⟨hcz37_0, hcz37_1, hcz37_2⟩ := cz3 BK330.out
        obtain ⟨hfz37_0, hfz37_1, hfz37_2⟩ := fz3 BK330.out
        go_wp2
        refine bodyPost_ret (results_ctt rfl _ _ gb330 32 #[.int .i64 (wrap64 (rd l0 0)), .string (⟨#[]⟩ : ByteArray), .int .i64 (wrap64 (rd l0 1))] (0, 0) _ rfl (by (with_reducible repeat (first | refine blk_drewN ?_ _ | refine blk_drew ?_ | refine blk_alloc ?_ _)); refine blk_put (cs := #[.int .i64 (wrap64 (rd l0 0)), .string (⟨#[]⟩ : ByteArray), .int .i64 0]) ?_ 2 _ rfl; (with_reducible repeat (first | refine blk_drewN ?_ _ | refine blk_drew ?_ | refine blk_alloc ?_ _)); refine blk_put (cs := #[.int .i64 (wrap64 (rd l0 0)), .string (⟨#[]⟩ : ByteArray), .int .i64 0]) ?_ 1 _ rfl; (with_reducible repeat (first | refine blk_drewN ?_ _ | refine blk_drew ?_ | refine blk_alloc ?_ _)); refine blk_put (cs := #[.int .i64 0, .string (⟨#[]⟩ : ByteArray), .int .i64 0]) ?_ 0 _ rfl; (with_reducible repeat (first | refine blk_drewN ?_ _ | refine blk_drew ?_ | refine blk_alloc ?_ _)); exact BK330.out) Try.underlying32 rfl (by kernel_rfl)) rfl ?_
        exact ⟨by first | rfl | (simp [errW_none, errW_some] <;> rfl) | (simp [*, errW_none, errW_some] <;> rfl), qB HB⟩
       ·
        replace c34 := Bool.eq_false_iff.mpr c34
        subst c34
        have H1 : (some (0, (⟨#[]⟩ : ByteArray), 0, 0, 2)) = some (r1, r2, r3, r4, r5) := by rw [if_neg (show ¬ (false = true) by decide)] at H; exact H
        clear H
        have H := H1
        clear H1
        simp only [Option.some.injEq, Prod.mk.injEq] at H
        obtain ⟨rfl, rfl, rfl, rfl, rfl⟩ := H
        have hnb38 := NB330_332.out
        have hnc38 := NB332_330.out
        obtain ⟨hcz39_0, hcz39_1, hcz39_2⟩ := cz3 BK330.out
        obtain ⟨hfz39_0, hfz39_1, hfz39_2⟩ := fz3 BK330.out
        go_wp2
        refine bodyPost_ret (results_ctt rfl _ _ gb330 32 #[.int .i64 0, .string (⟨#[]⟩ : ByteArray), .int .i64 0] (0, 0) _ rfl (by (with_reducible repeat (first | refine blk_drewN ?_ _ | refine blk_drew ?_ | refine blk_alloc ?_ _)); refine blk_put (cs := #[.int .i64 0, .string (⟨#[]⟩ : ByteArray), .int .i64 0]) ?_ 2 _ rfl; (with_reducible repeat (first | refine blk_drewN ?_ _ | refine blk_drew ?_ | refine blk_alloc ?_ _)); refine blk_put (cs := #[.int .i64 0, .string (⟨#[]⟩ : ByteArray), .int .i64 0]) ?_ 1 _ rfl; (with_reducible repeat (first | refine blk_drewN ?_ _ | refine blk_drew ?_ | refine blk_alloc ?_ _)); refine blk_put (cs := #[.int .i64 0, .string (⟨#[]⟩ : ByteArray), .int .i64 0]) ?_ 0 _ rfl; (with_reducible repeat (first | refine blk_drewN ?_ _ | refine blk_drew ?_ | refine blk_alloc ?_ _)); exact BK330.out) Try.underlying32 rfl (by kernel_rfl)) rfl ?_
        exact ⟨by first | rfl | (simp [errW_none, errW_some] <;> rfl) | (simp [*, errW_none, errW_some] <;> rfl), qB HB⟩
      ·
       rw [if_neg c28] at H
       exact absurd H (by simp)
    ·
     rw [if_neg c24] at H
     have c24b0 : ((wrap64 (rd l0 0)) == 5) = false := beq_eq_false_iff_ne.mpr c24
     have c24b1 : ((wrap64 (rd l0 0)) != 5) = true := bne_iff_ne.mpr c24
     have HC40 := Aside0.mk H
     clear H
     go_upto_if 31 with (fail)
     go_cut [31] (fun v31 wc => ∃ (kq : Nat) (x31_39 : Bool), v31 = .bool x31_39 ∧ Aside0 (impl_GetFrame.j0 kq l0 1 x31_39 (wrap64 (rd l0 0)) (⟨#[]⟩ : ByteArray) 0 = some (r1, r2, r3, r4, r5)) ∧ Aside0 (kq ≤ k) ∧ Aside0 (wc.heap[gb330]? = some (.cells #[.int .i64 0, .string (⟨#[]⟩ : ByteArray), .int .i64 0] 32 (0, 0))) ∧ Aside0 (wc.heap[gb332]? = some (.cells #[.int .i64 (wrap64 (rd l0 0)), .string (⟨#[]⟩ : ByteArray), .int .i64 0] 32 (0, 0))) ∧ Aside0 (Below w.heap.size w wc))
     case first =>
      have H := HC40.out
      clear HC40
      by_cases c41 : (wrap64 (rd l0 0)) = 1
      ·
       rw [if_pos c41] at H
       have c41b0 : ((wrap64 (rd l0 0)) == 1) = true := beq_iff_eq.mpr c41
       have c41b1 : ((wrap64 (rd l0 0)) != 1) = false := bne_eq_false_iff_eq.mpr c41
       clear c41
       (first | rw [c41b0] | (simp only [i64_w, i32_w]; rw [c41b0]) | skip)
       have H' := Aside0.mk H
       clear H
       go_wp2
       go_meet
       case rel => exact ⟨_, (((wrap64 (rd l0 0)) == 1)), (by first | rfl | (simp; done) | (simp [*]; done) | (simp [Go.Proofs.YtahfemlfdpbkkaaV.bne_nil, Go.Proofs.YtahfemlfdpbkkaaV.beq_nil]; done)), H', ⟨by first | omega | exact Nat.le_refl _⟩, ⟨qK BK330⟩, ⟨qK BK332⟩, ⟨qB HB⟩⟩
      ·
       rw [if_neg c41] at H
       have c41b0 : ((wrap64 (rd l0 0)) == 1) = false := beq_eq_false_iff_ne.mpr c41
       have c41b1 : ((wrap64 (rd l0 0)) != 1) = true := bne_iff_ne.mpr c41
       (first | rw [c41b0] | (simp only [i64_w, i32_w]; rw [c41b0]) | skip)
       by_cases c42 : (wrap64 (rd l0 0)) = 2
       ·
        rw [if_pos c42] at H
        have c42b0 : ((wrap64 (rd l0 0)) == 2) = true := beq_iff_eq.mpr c42
        have c42b1 : ((wrap64 (rd l0 0)) != 2) = false := bne_eq_false_iff_eq.mpr c42
        clear c42
        have H' := Aside0.mk H
        clear H
        go_wp2
        go_meet
        case rel => exact ⟨_, (((wrap64 (rd l0 0)) == 2)), (by first | rfl | (simp; done) | (simp [*]; done) | (simp [Go.Proofs.YtahfemlfdpbkkaaV.bne_nil, Go.Proofs.YtahfemlfdpbkkaaV.beq_nil]; done)), H', ⟨by first | omega | exact Nat.le_refl _⟩, ⟨qK BK330⟩, ⟨qK BK332⟩, ⟨qB HB⟩⟩
       ·
        rw [if_neg c42] at H
        have c42b0 : ((wrap64 (rd l0 0)) == 2) = false := beq_eq_false_iff_ne.mpr c42
        have c42b1 : ((wrap64 (rd l0 0)) != 2) = true := bne_iff_ne.mpr c42
        by_cases c43 : (wrap64 (rd l0 0)) = 4
        ·
         rw [if_pos c43] at H
         have c43b0 : ((wrap64 (rd l0 0)) == 4) = true := beq_iff_eq.mpr c43
         have c43b1 : ((wrap64 (rd l0 0)) != 4) = false := bne_eq_false_iff_eq.mpr c43
         clear c43
         have H' := Aside0.mk H
         clear H
         go_wp2
         go_meet
         case rel => exact ⟨_, (((wrap64 (rd l0 0)) == 4)), (by first | rfl | (simp; done) | (simp [*]; done) | (simp [Go.Proofs.YtahfemlfdpbkkaaV.bne_nil, Go.Proofs.YtahfemlfdpbkkaaV.beq_nil]; done)), H', ⟨by first | omega | exact Nat.le_refl _⟩, ⟨qK BK330⟩, ⟨qK BK332⟩, ⟨qB HB⟩⟩
        ·
         rw [if_neg c43] at H
         have c43b0 : ((wrap64 (rd l0 0)) == 4) = false := beq_eq_false_iff_ne.mpr c43
         have c43b1 : ((wrap64 (rd l0 0)) != 4) = true := bne_iff_ne.mpr c43
         have H' := Aside0.mk H
         clear H
         go_wp2
         go_meet
         case rel => exact ⟨_, (((wrap64 (rd l0 0)) == 6)), (by first | rfl | (simp; done) | (simp [*]; done) | (simp [Go.Proofs.YtahfemlfdpbkkaaV.bne_nil, Go.Proofs.YtahfemlfdpbkkaaV.beq_nil]; done)), H', ⟨by first | omega | exact Nat.le_refl _⟩, ⟨qK BK330⟩, ⟨qK BK332⟩, ⟨qB HB⟩⟩
     case rest =>
      clear HC40
      try clear c1
      try clear c2
      try clear p2
      try clear c3
      try clear p3
      try clear q3
      try clear hx3
      try clear qi3
      try clear c4
      try clear c4b0
      try clear c4b1
      try clear c4b2
      try clear c6
      try clear c6b0
      try clear c6b1
      try clear p6
      try clear c9
      try clear c11
      try clear c12
      try clear c12b0
      try clear c12b1
      try clear c14
      try clear c15
      try clear c18
      try clear c19
      try clear c22
      try clear c24
      try clear c24b0
      try clear c24b1
      try clear c25
      try clear c25b0
      try clear c25b1
      try clear c26
      try clear c28
      try clear c28b0
      try clear c28b1
      try clear c31
      try clear p33
      try clear q33
      try clear hx33
      try clear qi33
      try clear c34
      try clear c35
      try clear c38
      try clear c41
      try clear c41b0
      try clear c41b1
      try clear c42
      try clear c42b0
      try clear c42b1
      try clear c43
      try clear c43b0
      try clear c43b1
      (try clear hcz10_0 hcz10_1 hcz10_2)
      (try clear hcz16_0 hcz16_1 hcz16_2)
      (try clear hcz20_0 hcz20_1 hcz20_2)
      (try clear hcz21_0 hcz21_1 hcz21_2)
      (try clear hcz23_0 hcz23_1 hcz23_2)
      (try clear hcz27_0 hcz27_1 hcz27_2)
      (try clear hcz32_0 hcz32_1 hcz32_2)
      (try clear hcz36_0 hcz36_1 hcz36_2)
      (try clear hcz37_0 hcz37_1 hcz37_2)
      (try clear hcz39_0 hcz39_1 hcz39_2)
      (try clear hcz5_0 hcz5_1 hcz5_2)
      (try clear hfz10_0 hfz10_1 hfz10_2)
      (try clear hfz16_0 hfz16_1 hfz16_2)
      (try clear hfz20_0 hfz20_1 hfz20_2)
      (try clear hfz21_0 hfz21_1 hfz21_2)
      (try clear hfz23_0 hfz23_1 hfz23_2)
      (try clear hfz27_0 hfz27_1 hfz27_2)
      (try clear hfz32_0 hfz32_1 hfz32_2)
      (try clear hfz36_0 hfz36_1 hfz36_2)
      (try clear hfz37_0 hfz37_1 hfz37_2)
      (try clear hfz39_0 hfz39_1 hfz39_2)
      (try clear hfz5_0 hfz5_1 hfz5_2)
      try clear hx331_0
      try clear hx334_0
      try clear p331
      try clear p334
      try clear q331
      try clear q334
      obtain ⟨kq, x31_39, rfl, HA, HJ39, BK330, BK332, HB⟩ := hcut
      cases kq with
      | zero => exact absurd HA.out (by simp [impl_GetFrame.j0])
      | succ kj39 =>
       have H := HA.out
       clear HA
       simp only [impl_GetFrame.j0] at H
       by_cases c44 : x31_39 = true
       ·
        subst c44
        have H1 : (if (l0.length : Int) < 2 then (some (0, (⟨#[]⟩ : ByteArray), 0, 0, 1)) else (if 1 < (l0.length : Int) then (if (wrap64 (rd l0 1)) > 100 then (some (0, (⟨#[]⟩ : ByteArray), 0, 0, 2)) else (if (l0.length : Int) < (wrap64 (2 + (wrap64 (rd l0 1)))) then (some (0, (⟨#[]⟩ : ByteArray), 0, 0, 1)) else (if 2 ≤ (wrap64 (2 + (wrap64 (rd l0 1)))) then (if (wrap64 (2 + (wrap64 (rd l0 1)))) ≤ (l0.length : Int) then ((impl_FrameOk.f kj39 (wrap64 (rd l0 0)) (strOfNums ((l0.take ((wrap64 (2 + (wrap64 (rd l0 1)))) : Int).toNat).drop 2)) 0).bind fun t340 => (if t340 = true then (some ((wrap64 (rd l0 0)), strOfNums ((l0.take ((wrap64 (2 + (wrap64 (rd l0 1)))) : Int).toNat).drop 2), 0, wrap64 (2 + (wrap64 (rd l0 1))), 0)) else (some (0, (⟨#[]⟩ : ByteArray), 0, 0, 2)))) else (none)) else (none)))) else (none))) = some (r1, r2, r3, r4, r5) := by rw [if_pos rfl] at H; exact H
        clear H
        have H := H1
        clear H1
        by_cases c45 : (l0.length : Int) < 2
        ·
         rw [if_pos c45] at H
         have c45b0 : decide ((l0.length : Int) < 2) = true := decide_eq_true c45
         have c45b1 : decide (l0.length < 2) = true := decide_eq_true (by omega)
         clear c45
         simp only [Option.some.injEq, Prod.mk.injEq] at H
         obtain ⟨rfl, rfl, rfl, rfl, rfl⟩ := H
         have hnb46 := NB330_332.out
         have hnc46 := NB332_330.out
         obtain ⟨hcz47_0, hcz47_1, hcz47_2⟩ := cz3 BK330.out
         obtain ⟨hfz47_0, hfz47_1, hfz47_2⟩ := fz3 BK330.out
         go_wp2
         refine bodyPost_ret (results_ctt rfl _ _ gb330 32 #[.int .i64 0, .string (⟨#[]⟩ : ByteArray), .int .i64 0] (0, 0) _ rfl (by (with_reducible repeat (first | refine blk_drewN ?_ _ | refine blk_drew ?_ | refine blk_alloc ?_ _)); refine blk_put (cs := #[.int .i64 0, .string (⟨#[]⟩ : ByteArray), .int .i64 0]) ?_ 2 _ rfl; (with_reducible repeat (first | refine blk_drewN ?_ _ | refine blk_drew ?_ | refine blk_alloc ?_ _)); refine blk_put (cs := #[.int .i64 0, .string (⟨#[]⟩ : ByteArray), .int .i64 0]) ?_ 1 _ rfl; (with_reducible repeat (first | refine blk_drewN ?_ _ | refine blk_drew ?_ | refine blk_alloc ?_ _)); refine blk_put (cs := #[.int .i64 0, .string (⟨#[]⟩ : ByteArray), .int .i64 0]) ?_ 0 _ rfl; (with_reducible repeat (first | refine blk_drewN ?_ _ | refine blk_drew ?_ | refine blk_alloc ?_ _)); exact BK330.out) Try.underlying32 rfl (by kernel_rfl)) rfl ?_
         exact ⟨by first | rfl | (simp [errW_none, errW_some] <;> rfl) | (simp [*, errW_none, errW_some] <;> rfl), qB HB⟩
        ·
         rw [if_neg c45] at H
         have c45b0 : decide ((l0.length : Int) < 2) = false := decide_eq_false c45
         have c45b1 : decide (l0.length < 2) = false := decide_eq_false (by omega)
         clear c45
         by_cases c48 : 1 < (l0.length : Int)
         ·
          rw [if_pos c48] at H
          have c48b0 : decide (1 < (l0.length : Int)) = true := decide_eq_true c48
          have c48b1 : decide (1 < l0.length) = true := decide_eq_true (by omega)
          clear c48
          by_cases c49 : (wrap64 (rd l0 1)) > 100
          ·
           rw [if_pos c49] at H
           have c49b0 : decide (100 < (wrap64 (rd l0 1))) = true := decide_eq_true c49
           clear c49
           simp only [Option.some.injEq, Prod.mk.injEq] at H
           obtain ⟨rfl, rfl, rfl, rfl, rfl⟩ := H
           have p336 : 0 ≤ (1 : Int) := (by omega)
           have q336 : 1 < (l0.length : Int) := of_decide_eq_true (by first | (with_reducible assumption) | assumption)
           obtain ⟨ad336, e336, hx336_0⟩ := Kd.at_int HR0.out 1 p336 q336
           obtain rfl : ad331 = ad336 := (by injection e336)
           (try simp only [show (1 : Int).toNat = 1 from rfl, Nat.reduceMul, Nat.reduceEqDiff, Go.Addr.add, ↓reduceIte] at hx336_0)
           have qi336 : (1 < l0.length) = True := eq_true (by omega)
           (try rw [show ((1 : Int)).toNat = 1 from rfl] at hx336_0)
           replace hx336_0 := (HB.out.cell (World.block_lt_of_cell? w _ hx336_0)).trans hx336_0
           replace p336 := eq_true p336
           replace q336 := eq_true q336
           have hnb50 := NB330_332.out
           have hnc50 := NB332_330.out
           obtain ⟨hcz51_0, hcz51_1, hcz51_2⟩ := cz3 BK330.out
           obtain ⟨hfz51_0, hfz51_1, hfz51_2⟩ := fz3 BK330.out
           go_wp2
           refine bodyPost_ret (results_ctt rfl _ _ gb330 32 #[.int .i64 0, .string (⟨#[]⟩ : ByteArray), .int .i64 0] (0, 0) _ rfl (by (with_reducible repeat (first | refine blk_drewN ?_ _ | refine blk_drew ?_ | refine blk_alloc ?_ _)); refine blk_put (cs := #[.int .i64 0, .string (⟨#[]⟩ : ByteArray), .int .i64 0]) ?_ 2 _ rfl; (with_reducible repeat (first | refine blk_drewN ?_ _ | refine blk_drew ?_ | refine blk_alloc ?_ _)); refine blk_put (cs := #[.int .i64 0, .string (⟨#[]⟩ : ByteArray), .int .i64 0]) ?_ 1 _ rfl; (with_reducible repeat (first | refine blk_drewN ?_ _ | refine blk_drew ?_ | refine blk_alloc ?_ _)); refine blk_put (cs := #[.int .i64 0, .string (⟨#[]⟩ : ByteArray), .int .i64 0]) ?_ 0 _ rfl; (with_reducible repeat (first | refine blk_drewN ?_ _ | refine blk_drew ?_ | refine blk_alloc ?_ _)); exact BK330.out) Try.underlying32 rfl (by kernel_rfl)) rfl ?_
           exact ⟨by first | rfl | (simp [errW_none, errW_some] <;> rfl) | (simp [*, errW_none, errW_some] <;> rfl), qB HB⟩
          ·
           rw [if_neg c49] at H
           have c49b0 : decide (100 < (wrap64 (rd l0 1))) = false := decide_eq_false c49
           clear c49
           by_cases c52 : (l0.length : Int) < (wrap64 (2 + (wrap64 (rd l0 1))))
           ·
            rw [if_pos c52] at H
            have c52b0 : decide ((l0.length : Int) < (wrap64 (2 + (wrap64 (rd l0 1))))) = true := decide_eq_true c52
            clear c52
            simp only [Option.some.injEq, Prod.mk.injEq] at H
            obtain ⟨rfl, rfl, rfl, rfl, rfl⟩ := H
            have p336 : 0 ≤ (1 : Int) := (by omega)
            have q336 : 1 < (l0.length : Int) := of_decide_eq_true (by first | (with_reducible assumption) | assumption)
            obtain ⟨ad336, e336, hx336_0⟩ := Kd.at_int HR0.out 1 p336 q336
            obtain rfl : ad331 = ad336 := (by injection e336)
            (try simp only [show (1 : Int).toNat = 1 from rfl, Nat.reduceMul, Nat.reduceEqDiff, Go.Addr.add, ↓reduceIte] at hx336_0)
            have qi336 : (1 < l0.length) = True := eq_true (by omega)
            (try rw [show ((1 : Int)).toNat = 1 from rfl] at hx336_0)
            replace hx336_0 := (HB.out.cell (World.block_lt_of_cell? w _ hx336_0)).trans hx336_0
            replace p336 := eq_true p336
            replace q336 := eq_true q336
            have p337 : 0 ≤ (1 : Int) := (by omega)
            have q337 : 1 < (l0.length : Int) := of_decide_eq_true (by first | (with_reducible assumption) | assumption)
            obtain ⟨ad337, e337, hx337_0⟩ := Kd.at_int HR0.out 1 p337 q337
            obtain rfl : ad331 = ad337 := (by injection e337)
            (try simp only [show (1 : Int).toNat = 1 from rfl, Nat.reduceMul, Nat.reduceEqDiff, Go.Addr.add, ↓reduceIte] at hx337_0)
            have qi337 : (1 < l0.length) = True := eq_true (by omega)
            (try rw [show ((1 : Int)).toNat = 1 from rfl] at hx337_0)
            replace hx337_0 := (HB.out.cell (World.block_lt_of_cell? w _ hx337_0)).trans hx337_0
            replace p337 := eq_true p337
            replace q337 := eq_true q337
            have hnb53 := NB330_332.out
            have hnc53 := NB332_330.out
            obtain ⟨hcz54_0, hcz54_1, hcz54_2⟩ := cz3 BK330.out
            obtain ⟨hfz54_0, hfz54_1, hfz54_2⟩ := fz3 BK330.out
            go_wp2
            refine bodyPost_ret (results_ctt rfl _ _ gb330 32 #[.int .i64 0, .string (⟨#[]⟩ : ByteArray), .int .i64 0] (0, 0) _ rfl (by (with_reducible repeat (first | refine blk_drewN ?_ _ | refine blk_drew ?_ | refine blk_alloc ?_ _)); refine blk_put (cs := #[.int .i64 0, .string (⟨#[]⟩ : ByteArray), .int .i64 0]) ?_ 2 _ rfl; (with_reducible repeat (first | refine blk_drewN ?_ _ | refine blk_drew ?_ | refine blk_alloc ?_ _)); refine blk_put (cs := #[.int .i64 0, .string (⟨#[]⟩ : ByteArray), .int .i64 0]) ?_ 1 _ rfl; (with_reducible repeat (first | refine blk_drewN ?_ _ | refine blk_drew ?_ | refine blk_alloc ?_ _)); refine blk_put (cs := #[.int .i64 0, .string (⟨#[]⟩ : ByteArray), .int .i64 0]) ?_ 0 _ rfl; (with_reducible repeat (first | refine blk_drewN ?_ _ | refine blk_drew ?_ | refine blk_alloc ?_ _)); exact BK330.out) Try.underlying32 rfl (by kernel_rfl)) rfl ?_
            exact ⟨by first | rfl | (simp [errW_none, errW_some] <;> rfl) | (simp [*, errW_none, errW_some] <;> rfl), qB HB⟩
           ·
            rw [if_neg c52] at H
            have c52b0 : decide ((l0.length : Int) < (wrap64 (2 + (wrap64 (rd l0 1))))) = false := decide_eq_false c52
            clear c52
            by_cases c55 : 2 ≤ (wrap64 (2 + (wrap64 (rd l0 1))))
            ·
             rw [if_pos c55] at H
             have c55b0 := eq_true c55
             have c55b1 : decide (2 ≤ (wrap64 (2 + (wrap64 (rd l0 1))))) = true := decide_eq_true c55
             by_cases c56 : (wrap64 (2 + (wrap64 (rd l0 1)))) ≤ (l0.length : Int)
             ·
              rw [if_pos c56] at H
              have c56b0 := eq_true c56
              have c56b1 : decide ((wrap64 (2 + (wrap64 (rd l0 1)))) ≤ (l0.length : Int)) = true := decide_eq_true c56
              replace H := Option.bind_eq_some_iff.mp H
              obtain ⟨t340, A570, H⟩ := H
              replace H : (if t340 = true then (some ((wrap64 (rd l0 0)), strOfNums ((l0.take ((wrap64 (2 + (wrap64 (rd l0 1)))) : Int).toNat).drop 2), 0, wrap64 (2 + (wrap64 (rd l0 1))), 0)) else (some (0, (⟨#[]⟩ : ByteArray), 0, 0, 2))) = some (r1, r2, r3, r4, r5) := H
              have A57 := Aside0.mk A570
              clear A570
              have HC58 := Aside0.mk H
              clear H
              have p336 : 0 ≤ (1 : Int) := (by omega)
              have q336 : 1 < (l0.length : Int) := of_decide_eq_true (by first | (with_reducible assumption) | assumption)
              obtain ⟨ad336, e336, hx336_0⟩ := Kd.at_int HR0.out 1 p336 q336
              obtain rfl : ad331 = ad336 := (by injection e336)
              (try simp only [show (1 : Int).toNat = 1 from rfl, Nat.reduceMul, Nat.reduceEqDiff, Go.Addr.add, ↓reduceIte] at hx336_0)
              have qi336 : (1 < l0.length) = True := eq_true (by omega)
              (try rw [show ((1 : Int)).toNat = 1 from rfl] at hx336_0)
              replace hx336_0 := (HB.out.cell (World.block_lt_of_cell? w _ hx336_0)).trans hx336_0
              replace p336 := eq_true p336
              replace q336 := eq_true q336
              have p337 : 0 ≤ (1 : Int) := (by omega)
              have q337 : 1 < (l0.length : Int) := of_decide_eq_true (by first | (with_reducible assumption) | assumption)
              obtain ⟨ad337, e337, hx337_0⟩ := Kd.at_int HR0.out 1 p337 q337
              obtain rfl : ad331 = ad337 := (by injection e337)
              (try simp only [show (1 : Int).toNat = 1 from rfl, Nat.reduceMul, Nat.reduceEqDiff, Go.Addr.add, ↓reduceIte] at hx337_0)
              have qi337 : (1 < l0.length) = True := eq_true (by omega)
              (try rw [show ((1 : Int)).toNat = 1 from rfl] at hx337_0)
              replace hx337_0 := (HB.out.cell (World.block_lt_of_cell? w _ hx337_0)).trans hx337_0
              replace p337 := eq_true p337
              replace q337 := eq_true q337
              have p338 : 0 ≤ (1 : Int) := (by omega)
              have q338 : 1 < (l0.length : Int) := of_decide_eq_true (by first | (with_reducible assumption) | assumption)
              obtain ⟨ad338, e338, hx338_0⟩ := Kd.at_int HR0.out 1 p338 q338
              obtain rfl : ad331 = ad338 := (by injection e338)
              (try simp only [show (1 : Int).toNat = 1 from rfl, Nat.reduceMul, Nat.reduceEqDiff, Go.Addr.add, ↓reduceIte] at hx338_0)
              have qi338 : (1 < l0.length) = True := eq_true (by omega)
              (try rw [show ((1 : Int)).toNat = 1 from rfl] at hx338_0)
              replace hx338_0 := (HB.out.cell (World.block_lt_of_cell? w _ hx338_0)).trans hx338_0
              replace p338 := eq_true p338
              replace q338 := eq_true q338
              obtain ⟨i059, hi059, _, hsz59, _⟩ := info_parts info5
              obtain ⟨A59, hcut59, hA59, hC59⟩ := print_mid_of (P := Try.prog) (Value.int .u8) 0 22 5 .i64 .i64 Try.underlying22 hi059 hsz59 (some ad331) c0 l0 2 (wrap64 (2 + (wrap64 (rd l0 1)))) (by omega) (by first | omega | exact of_decide_eq_true (by first | (with_reducible assumption) | assumption)) (of_decide_eq_true (by first | (with_reducible assumption) | assumption)) HC0.out
              have HR339 := Aside0.mk (Kd.C_of_reads (h1 := fun _ => rfl) (hA59 _ (Kd.reads_of_C HR0.out)))
              have HC339 := Aside0.mk hC59
              clear hA59 hC59 hi059 hsz59
              have hcv60 := Go.Proofs.YtahfemlfdpbkkaaV.conv_len (Kd.C_string (P := Try.prog) (A := A59) (c := (c0 - 2)) Try.underlying22 Try.underlying5 Try.underlying9 (Kd.C_below HR339.out HB.out))
              have hnb61 := NB332_330.out
              have hnc61 := NB330_332.out
              obtain ⟨hcz62_0, hcz62_1, hcz62_2⟩ := cz3 BK332.out
              obtain ⟨hfz62_0, hfz62_1, hfz62_2⟩ := fz3 BK332.out
              go_upto_if 70 with (first | ((with_reducible refine gate_callee (f := 143) rfl ?_); refine goesL_ (some 69) rfl rfl Try.func143 (by kernel_rfl) rfl #[.agg #[.int .i64 (wrap64 (rd l0 0)), .string (strOfNums ((l0.take ((wrap64 (2 + (wrap64 (rd l0 1)))) : Int).toNat).drop 2)), .int .i64 0]] rfl (by (try simp only [List.map_toArray, List.map_cons, List.map_nil]); first | done | rfl | (simp only [List.length_drop, List.length_take]; rfl)) ?_; (with_reducible refine (impl_FrameOk.calls kj39 (wrap64 (rd l0 0)) (strOfNums ((l0.take ((wrap64 (2 + (wrap64 (rd l0 1)))) : Int).toNat).drop 2)) 0 t340 _ A57.out).mono ?_); rintro e w63 ⟨rfl, hb⟩; refine ⟨_, rfl, ?_⟩; replace BK330 := am_ (blk_below (g := gb330) (o := .cells #[.int .i64 0, .string (⟨#[]⟩ : ByteArray), .int .i64 0] 32 (0, 0)) (by (with_reducible repeat (first | refine blk_drewN ?_ _ | refine blk_drew ?_ | refine blk_alloc ?_ _)); refine blk_far ?_ NB330_332.out _; (with_reducible repeat (first | refine blk_drewN ?_ _ | refine blk_drew ?_ | refine blk_alloc ?_ _)); exact BK330.out) hb); replace BK332 := am_ (blk_below (g := gb332) (o := .cells #[.int .i64 (wrap64 (rd l0 0)), .string (strOfNums ((l0.take ((wrap64 (2 + (wrap64 (rd l0 1)))) : Int).toNat).drop 2)), .int .i64 0] 32 (0, 0)) (by (with_reducible repeat (first | refine blk_drewN ?_ _ | refine blk_drew ?_ | refine blk_alloc ?_ _)); refine blk_put (cs := #[.int .i64 (wrap64 (rd l0 0)), .string (⟨#[]⟩ : ByteArray), .int .i64 0]) ?_ 1 _ rfl; (with_reducible repeat (first | refine blk_drewN ?_ _ | refine blk_drew ?_ | refine blk_alloc ?_ _)); exact BK332.out) hb); replace HB := am_ (below_step (qB HB) hb); (try clear hb); (try clear hb2); (try clear hk); (try clear hi)))
              (try simp only [Act.put, List.setIfInBounds_toArray, List.set_cons_zero, List.set_cons_succ])
              have H := HC58.out
              clear HC58
              by_cases c64 : t340 = true
              ·
               subst c64
               have H1 : (some ((wrap64 (rd l0 0)), strOfNums ((l0.take ((wrap64 (2 + (wrap64 (rd l0 1)))) : Int).toNat).drop 2), 0, wrap64 (2 + (wrap64 (rd l0 1))), 0)) = some (r1, r2, r3, r4, r5) := by rw [if_pos rfl] at H; exact H
               clear H
               have H := H1
               clear H1
               simp only [Option.some.injEq, Prod.mk.injEq] at H
               obtain ⟨rfl, rfl, rfl, rfl, rfl⟩ := H
               have hnb65 := NB332_330.out
               have hnc65 := NB330_332.out
               obtain ⟨hcz66_0, hcz66_1, hcz66_2⟩ := cz3 BK332.out
               obtain ⟨hfz66_0, hfz66_1, hfz66_2⟩ := fz3 BK332.out
               obtain ⟨hcz67_0, hcz67_1, hcz67_2⟩ := cz3 BK330.out
               obtain ⟨hfz67_0, hfz67_1, hfz67_2⟩ := fz3 BK330.out
               go_wp2
               refine bodyPost_ret (results_ctt rfl _ _ gb330 32 #[.int .i64 (wrap64 (rd l0 0)), .string (strOfNums ((l0.take ((wrap64 (2 + (wrap64 (rd l0 1)))) : Int).toNat).drop 2)), .int .i64 0] (0, 0) _ rfl (by (with_reducible repeat (first | refine blk_drewN ?_ _ | refine blk_drew ?_ | refine blk_alloc ?_ _)); refine blk_put (cs := #[.int .i64 (wrap64 (rd l0 0)), .string (strOfNums ((l0.take ((wrap64 (2 + (wrap64 (rd l0 1)))) : Int).toNat).drop 2)), .int .i64 0]) ?_ 2 _ rfl; (with_reducible repeat (first | refine blk_drewN ?_ _ | refine blk_drew ?_ | refine blk_alloc ?_ _)); refine blk_put (cs := #[.int .i64 (wrap64 (rd l0 0)), .string (⟨#[]⟩ : ByteArray), .int .i64 0]) ?_ 1 _ rfl; (with_reducible repeat (first | refine blk_drewN ?_ _ | refine blk_drew ?_ | refine blk_alloc ?_ _)); refine blk_put (cs := #[.int .i64 0, .string (⟨#[]⟩ : ByteArray), .int .i64 0]) ?_ 0 _ rfl; (with_reducible repeat (first | refine blk_drewN ?_ _ | refine blk_drew ?_ | refine blk_alloc ?_ _)); exact BK330.out) Try.underlying32 rfl (by kernel_rfl)) rfl ?_
               exact ⟨by first | rfl | (simp [errW_none, errW_some] <;> rfl) | (simp [*, errW_none, errW_some] <;> rfl), qB HB⟩
              ·
               replace c64 := Bool.eq_false_iff.mpr c64
               subst c64
               have H1 : (some (0, (⟨#[]⟩ : ByteArray), 0, 0, 2)) = some (r1, r2, r3, r4, r5) := by rw [if_neg (show ¬ (false = true) by decide)] at H; exact H
               clear H
               have H := H1
               clear H1
               simp only [Option.some.injEq, Prod.mk.injEq] at H
               obtain ⟨rfl, rfl, rfl, rfl, rfl⟩ := H
               have hnb68 := NB330_332.out
               have hnc68 := NB332_330.out
               obtain ⟨hcz69_0, hcz69_1, hcz69_2⟩ := cz3 BK330.out
               obtain ⟨hfz69_0, hfz69_1, hfz69_2⟩ := fz3 BK330.out
               go_wp2
               refine bodyPost_ret (results_ctt rfl _ _ gb330 32 #[.int .i64 0, .string (⟨#[]⟩ : ByteArray), .int .i64 0] (0, 0) _ rfl (by (with_reducible repeat (first | refine blk_drewN ?_ _ | refine blk_drew ?_ | refine blk_alloc ?_ _)); refine blk_put (cs := #[.int .i64 0, .string (⟨#[]⟩ : ByteArray), .int .i64 0]) ?_ 2 _ rfl; (with_reducible repeat (first | refine blk_drewN ?_ _ | refine blk_drew ?_ | refine blk_alloc ?_ _)); refine blk_put (cs := #[.int .i64 0, .string (⟨#[]⟩ : ByteArray), .int .i64 0]) ?_ 1 _ rfl; (with_reducible repeat (first | refine blk_drewN ?_ _ | refine blk_drew ?_ | refine blk_alloc ?_ _)); refine blk_put (cs := #[.int .i64 0, .string (⟨#[]⟩ : ByteArray), .int .i64 0]) ?_ 0 _ rfl; (with_reducible repeat (first | refine blk_drewN ?_ _ | refine blk_drew ?_ | refine blk_alloc ?_ _)); exact BK330.out) Try.underlying32 rfl (by kernel_rfl)) rfl ?_
               exact ⟨by first | rfl | (simp [errW_none, errW_some] <;> rfl) | (simp [*, errW_none, errW_some] <;> rfl), qB HB⟩
             ·
              rw [if_neg c56] at H
              exact absurd H (by simp)
            ·
             rw [if_neg c55] at H
             exact absurd H (by simp)
         ·
          rw [if_neg c48] at H
          exact absurd H (by simp)
       ·
        replace c44 := Bool.eq_false_iff.mpr c44
        subst c44
        have H1 : ((impl_FrameOk.f kj39 (wrap64 (rd l0 0)) (⟨#[]⟩ : ByteArray) 0).bind fun t341 => (if t341 = true then (some ((wrap64 (rd l0 0)), (⟨#[]⟩ : ByteArray), 0, 1, 0)) else (some (0, (⟨#[]⟩ : ByteArray), 0, 0, 2)))) = some (r1, r2, r3, r4, r5) := by rw [if_neg (show ¬ (false = true) by decide)] at H; exact H
        clear H
        have H := H1
        clear H1
        replace H := Option.bind_eq_some_iff.mp H
        obtain ⟨t341, A700, H⟩ := H
        replace H : (if t341 = true then (some ((wrap64 (rd l0 0)), (⟨#[]⟩ : ByteArray), 0, 1, 0)) else (some (0, (⟨#[]⟩ : ByteArray), 0, 0, 2))) = some (r1, r2, r3, r4, r5) := H
        have A70 := Aside0.mk A700
        clear A700
        have HC71 := Aside0.mk H
        clear H
        have hnb72 := NB332_330.out
        have hnc72 := NB330_332.out
        obtain ⟨hcz73_0, hcz73_1, hcz73_2⟩ := cz3 BK332.out
        obtain ⟨hfz73_0, hfz73_1, hfz73_2⟩ := fz3 BK332.out
        go_upto_if 70 with (first | ((with_reducible refine gate_callee (f := 143) rfl ?_); refine goesL_ (some 69) rfl rfl Try.func143 (by kernel_rfl) rfl #[.agg #[.int .i64 (wrap64 (rd l0 0)), .string (⟨#[]⟩ : ByteArray), .int .i64 0]] rfl (by (try simp only [List.map_toArray, List.map_cons, List.map_nil]); first | done | rfl | (simp only [List.length_drop, List.length_take]; rfl)) ?_; (with_reducible refine (impl_FrameOk.calls kj39 (wrap64 (rd l0 0)) (⟨#[]⟩ : ByteArray) 0 t341 _ A70.out).mono ?_); rintro e w74 ⟨rfl, hb⟩; refine ⟨_, rfl, ?_⟩; replace BK330 := am_ (blk_below (qK BK330) hb); replace BK332 := am_ (blk_below (qK BK332) hb); replace HB := am_ (below_step (qB HB) hb); (try clear hb); (try clear hb2); (try clear hk); (try clear hi)))
        (try simp only [Act.put, List.setIfInBounds_toArray, List.set_cons_zero, List.set_cons_succ])
        have H := HC71.out
        clear HC71
        by_cases c75 : t341 = true
        ·
         subst c75
         have H1 : (some ((wrap64 (rd l0 0)), (⟨#[]⟩ : ByteArray), 0, 1, 0)) = some (r1, r2, r3, r4, r5) := by rw [if_pos rfl] at H; exact H
         clear H
         have H := H1
         clear H1
         simp only [Option.some.injEq, Prod.mk.injEq] at H
         obtain ⟨rfl, rfl, rfl, rfl, rfl⟩ := H
         have hnb76 := NB332_330.out
         have hnc76 := NB330_332.out
         obtain ⟨hcz77_0, hcz77_1, hcz77_2⟩ := cz3 BK332.out
         obtain ⟨hfz77_0, hfz77_1, hfz77_2⟩ := fz3 BK332.out
         obtain ⟨hcz78_0, hcz78_1, hcz78_2⟩ := cz3 BK330.out
         obtain ⟨hfz78_0, hfz78_1, hfz78_2⟩ := fz3 BK330.out
         go_wp2
         refine bodyPost_ret (results_ctt rfl _ _ gb330 32 #[.int .i64 (wrap64 (rd l0 0)), .string (⟨#[]⟩ : ByteArray), .int .i64 0] (0, 0) _ rfl (by (with_reducible repeat (first | refine blk_drewN ?_ _ | refine blk_drew ?_ | refine blk_alloc ?_ _)); refine blk_put (cs := #[.int .i64 (wrap64 (rd l0 0)), .string (⟨#[]⟩ : ByteArray), .int .i64 0]) ?_ 2 _ rfl; (with_reducible repeat (first | refine blk_drewN ?_ _ | refine blk_drew ?_ | refine blk_alloc ?_ _)); refine blk_put (cs := #[.int .i64 (wrap64 (rd l0 0)), .string (⟨#[]⟩ : ByteArray), .int .i64 0]) ?_ 1 _ rfl; (with_reducible repeat (first | refine blk_drewN ?_ _ | refine blk_drew ?_ | refine blk_alloc ?_ _)); refine blk_put (cs := #[.int .i64 0, .string (⟨#[]⟩ : ByteArray), .int .i64 0]) ?_ 0 _ rfl; (with_reducible repeat (first | refine blk_drewN ?_ _ | refine blk_drew ?_ | refine blk_alloc ?_ _)); exact BK330.out) Try.underlying32 rfl (by kernel_rfl)) rfl ?_
         exact ⟨by first | rfl | (simp [errW_none, errW_some] <;> rfl) | (simp [*, errW_none, errW_some] <;> rfl), qB HB⟩
        ·
         replace c75 := Bool.eq_false_iff.mpr c75
         subst c75
         have H1 : (some (0, (⟨#[]⟩ : ByteArray), 0, 0, 2)) = some (r1, r2, r3, r4, r5) := by rw [if_neg (show ¬ (false = true) by decide)] at H; exact H
         clear H
         have H := H1
         clear H1
         simp only [Option.some.injEq, Prod.mk.injEq] at H
         obtain ⟨rfl, rfl, rfl, rfl, rfl⟩ := H
         have hnb79 := NB330_332.out
         have hnc79 := NB332_330.out
         obtain ⟨hcz80_0, hcz80_1, hcz80_2⟩ := cz3 BK330.out
         obtain ⟨hfz80_0, hfz80_1, hfz80_2⟩ := fz3 BK330.out
         go_wp2
         refine bodyPost_ret (results_ctt rfl _ _ gb330 32 #[.int .i64 0, .string (⟨#[]⟩ : ByteArray), .int .i64 0] (0, 0) _ rfl (by (with_reducible repeat (first | refine blk_drewN ?_ _ | refine blk_drew ?_ | refine blk_alloc ?_ _)); refine blk_put (cs := #[.int .i64 0, .string (⟨#[]⟩ : ByteArray), .int .i64 0]) ?_ 2 _ rfl; (with_reducible repeat (first | refine blk_drewN ?_ _ | refine blk_drew ?_ | refine blk_alloc ?_ _)); refine blk_put (cs := #[.int .i64 0, .string (⟨#[]⟩ : ByteArray), .int .i64 0]) ?_ 1 _ rfl; (with_reducible repeat (first | refine blk_drewN ?_ _ | refine blk_drew ?_ | refine blk_alloc ?_ _)); refine blk_put (cs := #[.int .i64 0, .string (⟨#[]⟩ : ByteArray), .int .i64 0]) ?_ 0 _ rfl; (with_reducible repeat (first | refine blk_drewN ?_ _ | refine blk_drew ?_ | refine blk_alloc ?_ _)); exact BK330.out) Try.underlying32 rfl (by kernel_rfl)) rfl ?_
         exact ⟨by first | rfl | (simp [errW_none, errW_some] <;> rfl) | (simp [*, errW_none, errW_some] <;> rfl), qB HB⟩
  ·
   rw [if_neg c6] at H
   exact absurd H (by simp)

end Go.Proofs.Ytahfemlfdpbkkaa.PFnExactAnswer
