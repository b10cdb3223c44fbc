-- Written by a program of this session (myprint.py, over the kit's print): contracts of FnExactAnswer
import Derived.Test.YtahfemlfdpbkkaaPFnExactAnswerx0
import Derived.Test.YtahfemlfdpbkkaaPFnExactAnswerx3
import Derived.Test.YtahfemlfdpbkkaaPFnExactAnswerx5
namespace Go.Proofs.Ytahfemlfdpbkkaa.PFnExactAnswer
open Go.RowKit Go.Proofs.YtahfemlfdpbkkaaW.PrintWords Go.Proofs.YtahfemlfdpbkkaaW.PrintLast Go.Proofs.YtahfemlfdpbkkaaW.PrintMore Go.Proofs.YtahfemlfdpbkkaaV
attribute [local go_sem] max2_int min2_int max_two min_two max_three min_three max_four min_four   -- for this text's walks alone
set_option linter.unusedVariables false
set_option linter.unusedSimpArgs false

/-! ### spec_GetFrame: function 114 -/
def spec_GetFrame.f (k : Nat) (l0 : List Int) : Option (Int × ByteArray × Int × Int × Int) := if (l0.length : Int) = 0 then (some (0, (⟨#[]⟩ : ByteArray), 0, 0, 1)) else (if 0 < (l0.length : Int) then ((spec_l1In.f (wrap64 (rd l0 0)) 1 6).bind fun t190 => (if t190 = true then (if (wrap64 (rd l0 0)) = 3 then ((spec_FrameOk.f k (wrap64 (rd l0 0)) (⟨#[]⟩ : ByteArray) 0).bind fun t191 => (if t191 = true then (some (wrap64 (rd l0 0), (⟨#[]⟩ : ByteArray), 0, 1, 0)) else (some (0, (⟨#[]⟩ : ByteArray), 0, 0, 2)))) else (if (l0.length : Int) = 1 then (some (0, (⟨#[]⟩ : ByteArray), 0, 0, 1)) else (if (wrap64 (rd l0 0)) = 5 then (if 1 < (l0.length : Int) then ((spec_FrameOk.f k (wrap64 (rd l0 0)) (⟨#[]⟩ : ByteArray) (wrap64 (rd l0 1))).bind fun t193 => (if t193 = true then (some (wrap64 (rd l0 0), (⟨#[]⟩ : ByteArray), wrap64 (rd l0 1), 2, 0)) else (some (0, (⟨#[]⟩ : ByteArray), 0, 0, 2)))) else (none)) else (if 1 < (l0.length : Int) then (if (wrap64 (rd l0 1)) > 100 then (some (0, (⟨#[]⟩ : ByteArray), 0, 0, 2)) else (if (wrap64 (rd l0 1)) > (wrap64 ((l0.length : Int) - 2)) then (some (0, (⟨#[]⟩ : ByteArray), 0, 0, 1)) else (if 2 ≤ (wrap64 (2 + (wrap64 (rd l0 1)))) then (if (wrap64 (2 + (wrap64 (rd l0 1)))) ≤ (l0.length : Int) then ((spec_FrameOk.f k (wrap64 (rd l0 0)) (strOfNums ((l0.take ((wrap64 (2 + (wrap64 (rd l0 1)))) : Int).toNat).drop 2)) 0).bind fun t196 => (if t196 = true then (some (wrap64 (rd l0 0), strOfNums ((l0.take ((wrap64 (2 + (wrap64 (rd l0 1)))) : Int).toNat).drop 2), 0, wrap64 (2 + (wrap64 (rd l0 1))), 0)) else (some (0, (⟨#[]⟩ : ByteArray), 0, 0, 2)))) else (none)) else (none)))) else (none))))) else (some (0, (⟨#[]⟩ : ByteArray), 0, 0, 2)))) else (none))
theorem spec_GetFrame.mono : ∀ a0 k, LeO (spec_GetFrame.f k a0) (spec_GetFrame.f (k + 1) a0) := by
 intro a0 k
 unfold spec_GetFrame.f
 repeat' first
   | (with_reducible exact spec_FrameOk.mono _ _ _ _)
   | (with_reducible exact LeO.refl _)
   | (with_reducible exact LeO.none _)
   | (with_reducible refine LeO.ite ?_ ?_)
   | (with_reducible refine LeO.bind ?_ (fun _ => ?_))
   | exact spec_FrameOk.mono _ _ _ _
   | exact LeO.none _
   | refine LeO.ite ?_ ?_
   | refine LeO.bind ?_ (fun _ => ?_)
set_option maxHeartbeats 8000000 in
set_option maxRecDepth 100000 in
theorem spec_GetFrame.calls (k : Nat) (A0 : Option Addr) (c0 : Nat) (l0 : List Int) (r1 : Int) (r2 : ByteArray) (r3 : Int) (r4 : Int) (r5 : Int) (w : World) (hr0 : Kd.C (Kd.int .u8) w A0 l0.length l0) (hc0 : l0.length ≤ c0) (h : spec_GetFrame.f k l0 = some (r1, r2, r3, r4, r5)) :
  Calls Try.prog 114 #[.slice A0 l0.length c0] w fun e w' => e = .returned (.tuple #[.agg #[.int .i64 r1, .string r2, .int .i64 r3], .int .i64 r4, .int .i64 r5]) ∧ Below w.heap.size w w' := by
 have hu32 := Try.underlying32
 have HR0 := Aside0.mk hr0
 have HC0 := Aside0.mk hc0
 clear hr0 hc0
 have HB := Aside0.mk (Below.refl w.heap.size w)
 have H : (if (l0.length : Int) = 0 then (some (0, (⟨#[]⟩ : ByteArray), 0, 0, 1)) else (if 0 < (l0.length : Int) then ((spec_l1In.f (wrap64 (rd l0 0)) 1 6).bind fun t190 => (if t190 = true then (if (wrap64 (rd l0 0)) = 3 then ((spec_FrameOk.f k (wrap64 (rd l0 0)) (⟨#[]⟩ : ByteArray) 0).bind fun t191 => (if t191 = true then (some (wrap64 (rd l0 0), (⟨#[]⟩ : ByteArray), 0, 1, 0)) else (some (0, (⟨#[]⟩ : ByteArray), 0, 0, 2)))) else (if (l0.length : Int) = 1 then (some (0, (⟨#[]⟩ : ByteArray), 0, 0, 1)) else (if (wrap64 (rd l0 0)) = 5 then (if 1 < (l0.length : Int) then ((spec_FrameOk.f k (wrap64 (rd l0 0)) (⟨#[]⟩ : ByteArray) (wrap64 (rd l0 1))).bind fun t193 => (if t193 = true then (some (wrap64 (rd l0 0), (⟨#[]⟩ : ByteArray), wrap64 (rd l0 1), 2, 0)) else (some (0, (⟨#[]⟩ : ByteArray), 0, 0, 2)))) else (none)) else (if 1 < (l0.length : Int) then (if (wrap64 (rd l0 1)) > 100 then (some (0, (⟨#[]⟩ : ByteArray), 0, 0, 2)) else (if (wrap64 (rd l0 1)) > (wrap64 ((l0.length : Int) - 2)) then (some (0, (⟨#[]⟩ : ByteArray), 0, 0, 1)) else (if 2 ≤ (wrap64 (2 + (wrap64 (rd l0 1)))) then (if (wrap64 (2 + (wrap64 (rd l0 1)))) ≤ (l0.length : Int) then ((spec_FrameOk.f k (wrap64 (rd l0 0)) (strOfNums ((l0.take ((wrap64 (2 + (wrap64 (rd l0 1)))) : Int).toNat).drop 2)) 0).bind fun t196 => (if t196 = true then (some (wrap64 (rd l0 0), strOfNums ((l0.take ((wrap64 (2 + (wrap64 (rd l0 1)))) : Int).toNat).drop 2), 0, wrap64 (2 + (wrap64 (rd l0 1))), 0)) else (some (0, (⟨#[]⟩ : ByteArray), 0, 0, 2)))) else (none)) else (none)))) else (none))))) else (some (0, (⟨#[]⟩ : ByteArray), 0, 0, 2)))) else (none))) = some (r1, r2, r3, r4, r5) := h
 clear h
 have HC2 := Aside0.mk H
 clear H
 go_enter Try.func114, Try.ntmps114
 go_upto_if 10 with (first | ((with_reducible refine gate_dst (N := 2) rfl ?_); refine box_event ?hg (N := 2) ?hd (cs := #[.int .i64 0, .string (⟨#[]⟩ : ByteArray), .int .i64 0]) (t := 32) ?hr ?_; (case hd => rfl); (case hg => rfl); (case hr => first | (go_simp; done) | (go_simp; rfl)); intro gb187 hg w3 hbox hb; have BK187 := am_ (hbox); have GW187 := am_ ((gG_ hg (qB HB))); have IGW187 := gI_ GW187; have GE187 := am_ ((gG_ hg (qB HB))); have IGE187 := gI_ GE187; replace HB := am_ (below_step (qB HB) hb); clear hb hbox hg))
 (try simp only [Act.put, List.setIfInBounds_toArray, List.set_cons_zero, List.set_cons_succ])
 have H := HC2.out
 clear HC2
 by_cases c4 : (l0.length : Int) = 0
 ·
  rw [if_pos c4] at H
  have c4b0 : ((l0.length : Int) == 0) = true := beq_iff_eq.mpr c4
  have c4b1 : ((l0.length : Int) != 0) = false := bne_eq_false_iff_eq.mpr c4
  clear c4
  (first | rw [c4b0] | (simp only [i64_w, i32_w]; rw [c4b0]) | skip)
  simp only [Option.some.injEq, Prod.mk.injEq] at H
  obtain ⟨rfl, rfl, rfl, rfl, rfl⟩ := H
  obtain ⟨hcz5_0, hcz5_1, hcz5_2⟩ := cz3 BK187.out
  obtain ⟨hfz5_0, hfz5_1, hfz5_2⟩ := fz3 BK187.out
  go_wp2
  refine bodyPost_ret (results_ctt rfl _ _ gb187 32 #[.int .i64 0, .string (⟨#[]⟩ : ByteArray), .int .i64 0] (0, 0) _ rfl (by (with_reducible repeat (first | refine blk_drewN ?_ _ | refine blk_drew ?_ | refine blk_alloc ?_ _)); refine blk_put (cs := #[.int .i64 0, .string (⟨#[]⟩ : ByteArray), .int .i64 0]) ?_ 2 _ rfl; (with_reducible repeat (first | refine blk_drewN ?_ _ | refine blk_drew ?_ | refine blk_alloc ?_ _)); refine blk_put (cs := #[.int .i64 0, .string (⟨#[]⟩ : ByteArray), .int .i64 0]) ?_ 1 _ rfl; (with_reducible repeat (first | refine blk_drewN ?_ _ | refine blk_drew ?_ | refine blk_alloc ?_ _)); refine blk_put (cs := #[.int .i64 0, .string (⟨#[]⟩ : ByteArray), .int .i64 0]) ?_ 0 _ rfl; (with_reducible repeat (first | refine blk_drewN ?_ _ | refine blk_drew ?_ | refine blk_alloc ?_ _)); exact BK187.out) Try.underlying32 rfl (by kernel_rfl)) rfl ?_
  exact ⟨by first | rfl | (simp [errW_none, errW_some] <;> rfl) | (simp [*, errW_none, errW_some] <;> rfl), qB HB⟩
 ·
  rw [if_neg c4] at H
  have c4b0 : ((l0.length : Int) == 0) = false := beq_eq_false_iff_ne.mpr c4
  have c4b1 : ((l0.length : Int) != 0) = true := bne_iff_ne.mpr c4
  have c4b2 : ¬ (l0 = []) := fun h_ => c4 (by rw [h_]; rfl)
  (first | rw [c4b0] | (simp only [i64_w, i32_w]; rw [c4b0]) | skip)
  by_cases c6 : 0 < (l0.length : Int)
  ·
   rw [if_pos c6] at H
   have c6b0 : decide (0 < (l0.length : Int)) = true := decide_eq_true c6
   have c6b1 : decide (0 < l0.length) = true := decide_eq_true (by omega)
   clear c6
   replace H := Option.bind_eq_some_iff.mp H
   obtain ⟨t190, A70, H⟩ := H
   replace H : (if t190 = true then (if (wrap64 (rd l0 0)) = 3 then ((spec_FrameOk.f k (wrap64 (rd l0 0)) (⟨#[]⟩ : ByteArray) 0).bind fun t191 => (if t191 = true then (some (wrap64 (rd l0 0), (⟨#[]⟩ : ByteArray), 0, 1, 0)) else (some (0, (⟨#[]⟩ : ByteArray), 0, 0, 2)))) else (if (l0.length : Int) = 1 then (some (0, (⟨#[]⟩ : ByteArray), 0, 0, 1)) else (if (wrap64 (rd l0 0)) = 5 then (if 1 < (l0.length : Int) then ((spec_FrameOk.f k (wrap64 (rd l0 0)) (⟨#[]⟩ : ByteArray) (wrap64 (rd l0 1))).bind fun t193 => (if t193 = true then (some (wrap64 (rd l0 0), (⟨#[]⟩ : ByteArray), wrap64 (rd l0 1), 2, 0)) else (some (0, (⟨#[]⟩ : ByteArray), 0, 0, 2)))) else (none)) else (if 1 < (l0.length : Int) then (if (wrap64 (rd l0 1)) > 100 then (some (0, (⟨#[]⟩ : ByteArray), 0, 0, 2)) else (if (wrap64 (rd l0 1)) > (wrap64 ((l0.length : Int) - 2)) then (some (0, (⟨#[]⟩ : ByteArray), 0, 0, 1)) else (if 2 ≤ (wrap64 (2 + (wrap64 (rd l0 1)))) then (if (wrap64 (2 + (wrap64 (rd l0 1)))) ≤ (l0.length : Int) then ((spec_FrameOk.f k (wrap64 (rd l0 0)) (strOfNums ((l0.take ((wrap64 (2 + (wrap64 (rd l0 1)))) : Int).toNat).drop 2)) 0).bind fun t196 => (if t196 = true then (some (wrap64 (rd l0 0), strOfNums ((l0.take ((wrap64 (2 + (wrap64 (rd l0 1)))) : Int).toNat).drop 2), 0, wrap64 (2 + (wrap64 (rd l0 1))), 0)) else (some (0, (⟨#[]⟩ : ByteArray), 0, 0, 2)))) else (none)) else (none)))) else (none))))) else (some (0, (⟨#[]⟩ : ByteArray), 0, 0, 2))) = some (r1, r2, r3, r4, r5) := H
   have A7 := Aside0.mk A70
   clear A70
   have HC8 := Aside0.mk H
   clear H
   have p188 : 0 ≤ (0 : Int) := (by omega)
   have q188 : 0 < (l0.length : Int) := of_decide_eq_true (by first | (with_reducible assumption) | assumption)
   obtain ⟨ad188, e188, hx188_0⟩ := Kd.at_int HR0.out 0 p188 q188
   cases e188
   have qi188 : (0 < l0.length) = True := eq_true (by omega)
   (try rw [show ((0 : Int)).toNat = 0 from rfl] at hx188_0)
   (try rw [Addr.add_zero'] at hx188_0)
   replace hx188_0 := (HB.out.cell (World.block_lt_of_cell? w _ hx188_0)).trans hx188_0
   replace p188 := eq_true p188
   replace q188 := eq_true q188
   go_upto_if 38 with (first | ((with_reducible refine gate_dst (N := 5) rfl ?_); refine box_event ?hg (N := 5) ?hd (cs := #[.int .i64 0, .string (⟨#[]⟩ : ByteArray), .int .i64 0]) (t := 32) ?hr ?_; (case hd => rfl); (case hg => rfl); (case hr => first | (go_simp; done) | (go_simp; rfl)); intro gb189 hg w9 hbox hb; have BK189 := am_ (hbox); have GW189 := am_ ((gG_ hg (qB HB))); have IGW189 := gI_ GW189; have GE189 := am_ ((gG_ hg (qB HB))); have IGE189 := gI_ GE189; replace HB := am_ (below_step (qB HB) hb); have NB187_189 := am_ ((gN_ hg (qK BK187))); have NB189_187 := am_ ((gM_ hg (qK BK187))); replace BK187 := am_ (blk_below (qK BK187) hb); clear hb hbox hg; have hnb10 := NB189_187.out; have hnc10 := NB187_189.out; obtain ⟨hcz11_0, hcz11_1, hcz11_2⟩ := cz3 BK189.out; obtain ⟨hfz11_0, hfz11_1, hfz11_2⟩ := fz3 BK189.out) | ((with_reducible refine gate_callee (f := 110) rfl ?_); refine goesL_ (some 41) rfl rfl Try.func110 (by kernel_rfl) rfl #[.int .i64 (wrap64 (rd l0 0)), .int .i64 1, .int .i64 6] rfl (by (try simp only [List.map_toArray, List.map_cons, List.map_nil]); first | done | rfl | (simp only [List.length_drop, List.length_take]; rfl)) ?_; (with_reducible refine (spec_l1In.calls (wrap64 (rd l0 0)) 1 6 t190 _ A7.out).mono ?_); rintro e w' ⟨rfl, ⟨nd, rfl⟩⟩; refine ⟨_, rfl, ?_⟩))
   (try simp only [Act.put, List.setIfInBounds_toArray, List.set_cons_zero, List.set_cons_succ])
   have n0_ : Aside0 ((((w9.setCell ⟨gb189, 0, none⟩ (.int .i64 (wrap64 (rd l0 0)))).setCell ⟨gb189, 1, none⟩ (.string (⟨#[]⟩ : ByteArray))).setCell ⟨gb189, 2, none⟩ (.int .i64 0)).heap[gb187]? = some (.cells #[.int .i64 0, .string (⟨#[]⟩ : ByteArray), .int .i64 0] 32 (0, 0))) := ⟨by (with_reducible repeat (first | refine blk_drewN ?_ _ | refine blk_drew ?_ | refine blk_alloc ?_ _)); refine Go.Proofs.YtahfemlfdpbkkaaV.blk_far3 ?_ NB187_189.out; (with_reducible repeat (first | refine blk_drewN ?_ _ | refine blk_drew ?_ | refine blk_alloc ?_ _)); exact BK187.out⟩
   have n1_ : Aside0 ((((w9.setCell ⟨gb189, 0, none⟩ (.int .i64 (wrap64 (rd l0 0)))).setCell ⟨gb189, 1, none⟩ (.string (⟨#[]⟩ : ByteArray))).setCell ⟨gb189, 2, none⟩ (.int .i64 0)).heap[gb189]? = some (.cells #[.int .i64 (wrap64 (rd l0 0)), .string (⟨#[]⟩ : ByteArray), .int .i64 0] 32 (0, 0))) := ⟨by (with_reducible repeat (first | refine blk_drewN ?_ _ | refine blk_drew ?_ | refine blk_alloc ?_ _)); refine Go.Proofs.YtahfemlfdpbkkaaV.blk_all3 (show _ = some (Go.Obj.cells #[.int .i64 0, .string (⟨#[]⟩ : ByteArray), .int .i64 0] _ (0, 0)) from ?_); (with_reducible repeat (first | refine blk_drewN ?_ _ | refine blk_drew ?_ | refine blk_alloc ?_ _)); exact BK189.out⟩
   have n2_ : Aside0 (Below w.heap.size w (((w9.setCell ⟨gb189, 0, none⟩ (.int .i64 (wrap64 (rd l0 0)))).setCell ⟨gb189, 1, none⟩ (.string (⟨#[]⟩ : ByteArray))).setCell ⟨gb189, 2, none⟩ (.int .i64 0))) := ⟨qB HB⟩
   (try clear BK187)
   (try clear BK189)
   (try clear HB)
   generalize (((w9.setCell ⟨gb189, 0, none⟩ (.int .i64 (wrap64 (rd l0 0)))).setCell ⟨gb189, 1, none⟩ (.string (⟨#[]⟩ : ByteArray))).setCell ⟨gb189, 2, none⟩ (.int .i64 0)) = w12 at n0_ n1_ n2_ ⊢
   have BK187 := n0_
   have BK189 := n1_
   have HB := n2_
   clear n0_ n1_ n2_
   (try (rw [drewN_self w12]; generalize hq_ : World.drewN w12 _ = w12; have n0_ : Aside0 (w12.heap[gb187]? = some (.cells #[.int .i64 0, .string (⟨#[]⟩ : ByteArray), .int .i64 0] 32 (0, 0))) := ⟨by rw [← hq_]; exact (qK BK187)⟩; have n1_ : Aside0 (w12.heap[gb189]? = some (.cells #[.int .i64 (wrap64 (rd l0 0)), .string (⟨#[]⟩ : ByteArray), .int .i64 0] 32 (0, 0))) := ⟨by rw [← hq_]; exact (qK BK189)⟩; have n2_ : Aside0 (Below w.heap.size w w12) := ⟨by rw [← hq_]; exact (qB HB)⟩; clear BK187 BK189 HB hq_; have BK187 := n0_; have BK189 := n1_; have HB := n2_; clear n0_ n1_ n2_))
   have H := HC8.out
   clear HC8
   by_cases c13 : t190 = true
   ·
    subst c13
    have H1 : (if (wrap64 (rd l0 0)) = 3 then ((spec_FrameOk.f k (wrap64 (rd l0 0)) (⟨#[]⟩ : ByteArray) 0).bind fun t191 => (if t191 = true then (some (wrap64 (rd l0 0), (⟨#[]⟩ : ByteArray), 0, 1, 0)) else (some (0, (⟨#[]⟩ : ByteArray), 0, 0, 2)))) else (if (l0.length : Int) = 1 then (some (0, (⟨#[]⟩ : ByteArray), 0, 0, 1)) else (if (wrap64 (rd l0 0)) = 5 then (if 1 < (l0.length : Int) then ((spec_FrameOk.f k (wrap64 (rd l0 0)) (⟨#[]⟩ : ByteArray) (wrap64 (rd l0 1))).bind fun t193 => (if t193 = true then (some (wrap64 (rd l0 0), (⟨#[]⟩ : ByteArray), wrap64 (rd l0 1), 2, 0)) else (some (0, (⟨#[]⟩ : ByteArray), 0, 0, 2)))) else (none)) else (if 1 < (l0.length : Int) then (if (wrap64 (rd l0 1)) > 100 then (some (0, (⟨#[]⟩ : ByteArray), 0, 0, 2)) else (if (wrap64 (rd l0 1)) > (wrap64 ((l0.length : Int) - 2)) then (some (0, (⟨#[]⟩ : ByteArray), 0, 0, 1)) else (if 2 ≤ (wrap64 (2 + (wrap64 (rd l0 1)))) then (if (wrap64 (2 + (wrap64 (rd l0 1)))) ≤ (l0.length : Int) then ((spec_FrameOk.f k (wrap64 (rd l0 0)) (strOfNums ((l0.take ((wrap64 (2 + (wrap64 (rd l0 1)))) : Int).toNat).drop 2)) 0).bind fun t196 => (if t196 = true then (some (wrap64 (rd l0 0), strOfNums ((l0.take ((wrap64 (2 + (wrap64 (rd l0 1)))) : Int).toNat).drop 2), 0, wrap64 (2 + (wrap64 (rd l0 1))), 0)) else (some (0, (⟨#[]⟩ : ByteArray), 0, 0, 2)))) else (none)) else (none)))) else (none))))) = some (r1, r2, r3, r4, r5) := by rw [if_pos rfl] at H; exact H
    clear H
    have H := H1
    clear H1
    by_cases c14 : (wrap64 (rd l0 0)) = 3
    ·
     rw [if_pos c14] at H
     have c14b0 : ((wrap64 (rd l0 0)) == 3) = true := beq_iff_eq.mpr c14
     have c14b1 : ((wrap64 (rd l0 0)) != 3) = false := bne_eq_false_iff_eq.mpr c14
     clear c14
     (first | rw [c14b0] | (simp only [i64_w, i32_w]; rw [c14b0]) | skip)
     replace H := Option.bind_eq_some_iff.mp H
     obtain ⟨t191, A150, H⟩ := H
     replace H : (if t191 = true then (some (wrap64 (rd l0 0), (⟨#[]⟩ : ByteArray), 0, 1, 0)) else (some (0, (⟨#[]⟩ : ByteArray), 0, 0, 2))) = some (r1, r2, r3, r4, r5) := H
     have A15 := Aside0.mk A150
     clear A150
     have HC16 := Aside0.mk H
     clear H
     have hnb17 := NB189_187.out
     have hnc17 := NB187_189.out
     obtain ⟨hcz18_0, hcz18_1, hcz18_2⟩ := cz3 BK189.out
     obtain ⟨hfz18_0, hfz18_1, hfz18_2⟩ := fz3 BK189.out
     go_upto_if 64 with (first | ((with_reducible refine gate_callee (f := 140) rfl ?_); refine goesL_ (some 63) rfl rfl Try.func140 (by kernel_rfl) rfl #[.agg #[.int .i64 (wrap64 (rd l0 0)), .string (⟨#[]⟩ : ByteArray), .int .i64 0]] rfl (by (try simp only [List.map_toArray, List.map_cons, List.map_nil]); first | done | rfl | (simp only [List.length_drop, List.length_take]; rfl)) ?_; (with_reducible refine (spec_FrameOk.calls k (wrap64 (rd l0 0)) (⟨#[]⟩ : ByteArray) 0 t191 _ A15.out).mono ?_); rintro e w19 ⟨rfl, hb⟩; refine ⟨_, rfl, ?_⟩; replace BK187 := am_ (blk_below (qK BK187) hb); replace BK189 := am_ (blk_below (qK BK189) hb); replace HB := am_ (below_step (qB HB) hb); (try clear hb); (try clear hb2); (try clear hk); (try clear hi)))
     (try simp only [Act.put, List.setIfInBounds_toArray, List.set_cons_zero, List.set_cons_succ])
     have H := HC16.out
     clear HC16
     by_cases c20 : t191 = true
     ·
      subst c20
      have H1 : (some (wrap64 (rd l0 0), (⟨#[]⟩ : ByteArray), 0, 1, 0)) = some (r1, r2, r3, r4, r5) := by rw [if_pos rfl] at H; exact H
      clear H
      have H := H1
      clear H1
      simp only [Option.some.injEq, Prod.mk.injEq] at H
      obtain ⟨rfl, rfl, rfl, rfl, rfl⟩ := H
      have hnb21 := NB189_187.out
      have hnc21 := NB187_189.out
      obtain ⟨hcz22_0, hcz22_1, hcz22_2⟩ := cz3 BK189.out
      obtain ⟨hfz22_0, hfz22_1, hfz22_2⟩ := fz3 BK189.out
      obtain ⟨hcz23_0, hcz23_1, hcz23_2⟩ := cz3 BK187.out
      obtain ⟨hfz23_0, hfz23_1, hfz23_2⟩ := fz3 BK187.out
      go_wp2
      refine bodyPost_ret (results_ctt rfl _ _ gb187 32 #[.int .i64 (wrap64 (rd l0 0)), .string (⟨#[]⟩ : ByteArray), .int .i64 0] (0, 0) _ rfl (by (with_reducible repeat (first | refine blk_drewN ?_ _ | refine blk_drew ?_ | refine blk_alloc ?_ _)); refine blk_put (cs := #[.int .i64 (wrap64 (rd l0 0)), .string (⟨#[]⟩ : ByteArray), .int .i64 0]) ?_ 2 _ rfl; (with_reducible repeat (first | refine blk_drewN ?_ _ | refine blk_drew ?_ | refine blk_alloc ?_ _)); refine blk_put (cs := #[.int .i64 (wrap64 (rd l0 0)), .string (⟨#[]⟩ : ByteArray), .int .i64 0]) ?_ 1 _ rfl; (with_reducible repeat (first | refine blk_drewN ?_ _ | refine blk_drew ?_ | refine blk_alloc ?_ _)); refine blk_put (cs := #[.int .i64 0, .string (⟨#[]⟩ : ByteArray), .int .i64 0]) ?_ 0 _ rfl; (with_reducible repeat (first | refine blk_drewN ?_ _ | refine blk_drew ?_ | refine blk_alloc ?_ _)); exact BK187.out) Try.underlying32 rfl (by kernel_rfl)) rfl ?_
      exact ⟨by first | rfl | (simp [errW_none, errW_some] <;> rfl) | (simp [*, errW_none, errW_some] <;> rfl), qB HB⟩
     ·
      replace c20 := Bool.eq_false_iff.mpr c20
      subst c20
      have H1 : (some (0, (⟨#[]⟩ : ByteArray), 0, 0, 2)) = some (r1, r2, r3, r4, r5) := by rw [if_neg (show ¬ (false = true) by decide)] at H; exact H
      clear H
      have H := H1
      clear H1
      simp only [Option.some.injEq, Prod.mk.injEq] at H
      obtain ⟨rfl, rfl, rfl, rfl, rfl⟩ := H
      have hnb24 := NB187_189.out
      have hnc24 := NB189_187.out
      obtain ⟨hcz25_0, hcz25_1, hcz25_2⟩ := cz3 BK187.out
      obtain ⟨hfz25_0, hfz25_1, hfz25_2⟩ := fz3 BK187.out
      go_wp2
      refine bodyPost_ret (results_ctt rfl _ _ gb187 32 #[.int .i64 0, .string (⟨#[]⟩ : ByteArray), .int .i64 0] (0, 0) _ rfl (by (with_reducible repeat (first | refine blk_drewN ?_ _ | refine blk_drew ?_ | refine blk_alloc ?_ _)); refine blk_put (cs := #[.int .i64 0, .string (⟨#[]⟩ : ByteArray), .int .i64 0]) ?_ 2 _ rfl; (with_reducible repeat (first | refine blk_drewN ?_ _ | refine blk_drew ?_ | refine blk_alloc ?_ _)); refine blk_put (cs := #[.int .i64 0, .string (⟨#[]⟩ : ByteArray), .int .i64 0]) ?_ 1 _ rfl; (with_reducible repeat (first | refine blk_drewN ?_ _ | refine blk_drew ?_ | refine blk_alloc ?_ _)); refine blk_put (cs := #[.int .i64 0, .string (⟨#[]⟩ : ByteArray), .int .i64 0]) ?_ 0 _ rfl; (with_reducible repeat (first | refine blk_drewN ?_ _ | refine blk_drew ?_ | refine blk_alloc ?_ _)); exact BK187.out) Try.underlying32 rfl (by kernel_rfl)) rfl ?_
      exact ⟨by first | rfl | (simp [errW_none, errW_some] <;> rfl) | (simp [*, errW_none, errW_some] <;> rfl), qB HB⟩
    ·
     rw [if_neg c14] at H
     have c14b0 : ((wrap64 (rd l0 0)) == 3) = false := beq_eq_false_iff_ne.mpr c14
     have c14b1 : ((wrap64 (rd l0 0)) != 3) = true := bne_iff_ne.mpr c14
     (first | rw [c14b0] | (simp only [i64_w, i32_w]; rw [c14b0]) | skip)
     by_cases c26 : (l0.length : Int) = 1
     ·
      rw [if_pos c26] at H
      have c26b0 : ((l0.length : Int) == 1) = true := beq_iff_eq.mpr c26
      have c26b1 : ((l0.length : Int) != 1) = false := bne_eq_false_iff_eq.mpr c26
      clear c26
      simp only [Option.some.injEq, Prod.mk.injEq] at H
      obtain ⟨rfl, rfl, rfl, rfl, rfl⟩ := H
      have hnb27 := NB189_187.out
      have hnc27 := NB187_189.out
      obtain ⟨hcz28_0, hcz28_1, hcz28_2⟩ := cz3 BK189.out
      obtain ⟨hfz28_0, hfz28_1, hfz28_2⟩ := fz3 BK189.out
      obtain ⟨hcz29_0, hcz29_1, hcz29_2⟩ := cz3 BK187.out
      obtain ⟨hfz29_0, hfz29_1, hfz29_2⟩ := fz3 BK187.out
      go_wp2
      refine bodyPost_ret (results_ctt rfl _ _ gb187 32 #[.int .i64 0, .string (⟨#[]⟩ : ByteArray), .int .i64 0] (0, 0) _ rfl (by (with_reducible repeat (first | refine blk_drewN ?_ _ | refine blk_drew ?_ | refine blk_alloc ?_ _)); refine blk_put (cs := #[.int .i64 0, .string (⟨#[]⟩ : ByteArray), .int .i64 0]) ?_ 2 _ rfl; (with_reducible repeat (first | refine blk_drewN ?_ _ | refine blk_drew ?_ | refine blk_alloc ?_ _)); refine blk_put (cs := #[.int .i64 0, .string (⟨#[]⟩ : ByteArray), .int .i64 0]) ?_ 1 _ rfl; (with_reducible repeat (first | refine blk_drewN ?_ _ | refine blk_drew ?_ | refine blk_alloc ?_ _)); refine blk_put (cs := #[.int .i64 0, .string (⟨#[]⟩ : ByteArray), .int .i64 0]) ?_ 0 _ rfl; (with_reducible repeat (first | refine blk_drewN ?_ _ | refine blk_drew ?_ | refine blk_alloc ?_ _)); exact BK187.out) Try.underlying32 rfl (by kernel_rfl)) rfl ?_
      exact ⟨by first | rfl | (simp [errW_none, errW_some] <;> rfl) | (simp [*, errW_none, errW_some] <;> rfl), qB HB⟩
     ·
      rw [if_neg c26] at H
      have c26b0 : ((l0.length : Int) == 1) = false := beq_eq_false_iff_ne.mpr c26
      have c26b1 : ((l0.length : Int) != 1) = true := bne_iff_ne.mpr c26
      by_cases c30 : (wrap64 (rd l0 0)) = 5
      ·
       rw [if_pos c30] at H
       have c30b0 : ((wrap64 (rd l0 0)) == 5) = true := beq_iff_eq.mpr c30
       have c30b1 : ((wrap64 (rd l0 0)) != 5) = false := bne_eq_false_iff_eq.mpr c30
       clear c30
       by_cases c31 : 1 < (l0.length : Int)
       ·
        rw [if_pos c31] at H
        have c31b0 : decide (1 < (l0.length : Int)) = true := decide_eq_true c31
        have c31b1 : decide (1 < l0.length) = true := decide_eq_true (by omega)
        clear c31
        replace H := Option.bind_eq_some_iff.mp H
        obtain ⟨t193, A320, H⟩ := H
        replace H : (if t193 = true then (some (wrap64 (rd l0 0), (⟨#[]⟩ : ByteArray), wrap64 (rd l0 1), 2, 0)) else (some (0, (⟨#[]⟩ : ByteArray), 0, 0, 2))) = some (r1, r2, r3, r4, r5) := H
        have A32 := Aside0.mk A320
        clear A320
        have HC33 := Aside0.mk H
        clear H
        have hnb34 := NB189_187.out
        have hnc34 := NB187_189.out
        obtain ⟨hcz35_0, hcz35_1, hcz35_2⟩ := cz3 BK189.out
        obtain ⟨hfz35_0, hfz35_1, hfz35_2⟩ := fz3 BK189.out
        have p192 : 0 ≤ (1 : Int) := (by omega)
        have q192 : 1 < (l0.length : Int) := of_decide_eq_true (by first | (with_reducible assumption) | assumption)
        obtain ⟨ad192, e192, hx192_0⟩ := Kd.at_int HR0.out 1 p192 q192
        obtain rfl : ad188 = ad192 := (by injection e192)
        (try simp only [show (1 : Int).toNat = 1 from rfl, Nat.reduceMul, Nat.reduceEqDiff, Go.Addr.add, ↓reduceIte] at hx192_0)
        have qi192 : (1 < l0.length) = True := eq_true (by omega)
        (try rw [show ((1 : Int)).toNat = 1 from rfl] at hx192_0)
        replace hx192_0 := (HB.out.cell (World.block_lt_of_cell? w _ hx192_0)).trans hx192_0
        replace p192 := eq_true p192
        replace q192 := eq_true q192
        go_upto_if 64 with (first | ((with_reducible refine gate_callee (f := 140) rfl ?_); refine goesL_ (some 63) rfl rfl Try.func140 (by kernel_rfl) rfl #[.agg #[.int .i64 (wrap64 (rd l0 0)), .string (⟨#[]⟩ : ByteArray), .int .i64 (wrap64 (rd l0 1))]] rfl (by (try simp only [List.map_toArray, List.map_cons, List.map_nil]); first | done | rfl | (simp only [List.length_drop, List.length_take]; rfl)) ?_; (with_reducible refine (spec_FrameOk.calls k (wrap64 (rd l0 0)) (⟨#[]⟩ : ByteArray) (wrap64 (rd l0 1)) t193 _ A32.out).mono ?_); rintro e w36 ⟨rfl, hb⟩; refine ⟨_, rfl, ?_⟩; replace BK187 := am_ (blk_below (g := gb187) (o := .cells #[.int .i64 0, .string (⟨#[]⟩ : ByteArray), .int .i64 0] 32 (0, 0)) (by (with_reducible repeat (first | refine blk_drewN ?_ _ | refine blk_drew ?_ | refine blk_alloc ?_ _)); refine blk_far ?_ NB187_189.out _; (with_reducible repeat (first | refine blk_drewN ?_ _ | refine blk_drew ?_ | refine blk_alloc ?_ _)); exact BK187.out) hb); replace BK189 := am_ (blk_below (g := gb189) (o := .cells #[.int .i64 (wrap64 (rd l0 0)), .string (⟨#[]⟩ : ByteArray), .int .i64 (wrap64 (rd l0 1))] 32 (0, 0)) (by (with_reducible repeat (first | refine blk_drewN ?_ _ | refine blk_drew ?_ | refine blk_alloc ?_ _)); refine blk_put (cs := #[.int .i64 (wrap64 (rd l0 0)), .string (⟨#[]⟩ : ByteArray), .int .i64 0]) ?_ 2 _ rfl; (with_reducible repeat (first | refine blk_drewN ?_ _ | refine blk_drew ?_ | refine blk_alloc ?_ _)); exact BK189.out) hb); replace HB := am_ (below_step (qB HB) hb); (try clear hb); (try clear hb2); (try clear hk); (try clear hi)))
        (try simp only [Act.put, List.setIfInBounds_toArray, List.set_cons_zero, List.set_cons_succ])
        have H := HC33.out
        clear HC33
        by_cases c37 : t193 = true
        ·
         subst c37
         have H1 : (some (wrap64 (rd l0 0), (⟨#[]⟩ : ByteArray), wrap64 (rd l0 1), 2, 0)) = some (r1, r2, r3, r4, r5) := by rw [if_pos rfl] at H; exact H
         clear H
         have H := H1
         clear H1
         simp only [Option.some.injEq, Prod.mk.injEq] at H
         obtain ⟨rfl, rfl, rfl, rfl, rfl⟩ := H
         have hnb38 := NB189_187.out
         have hnc38 := NB187_189.out
         obtain ⟨hcz39_0, hcz39_1, hcz39_2⟩ := cz3 BK189.out
         obtain ⟨hfz39_0, hfz39_1, hfz39_2⟩ := fz3 BK189.out
         obtain ⟨hcz40_0, hcz40_1, hcz40_2⟩ := cz3 BK187.out
         obtain ⟨hfz40_0, hfz40_1, hfz40_2⟩ := fz3 BK187.out
         go_wp2
         refine bodyPost_ret (results_ctt rfl _ _ gb187 32 #[.int .i64 (wrap64 (rd l0 0)), .string (⟨#[]⟩ : ByteArray), .int .i64 (wrap64 (rd l0 1))] (0, 0) _ rfl (by (with_reducible repeat (first | refine blk_drewN ?_ _ | refine blk_drew ?_ | refine blk_alloc ?_ _)); refine blk_put (cs := #[.int .i64 (wrap64 (rd l0 0)), .string (⟨#[]⟩ : ByteArray), .int .i64 0]) ?_ 2 _ rfl; (with_reducible repeat (first | refine blk_drewN ?_ _ | refine blk_drew ?_ | refine blk_alloc ?_ _)); refine blk_put (cs := #[.int .i64 (wrap64 (rd l0 0)), .string (⟨#[]⟩ : ByteArray), .int .i64 0]) ?_ 1 _ rfl; (with_reducible repeat (first | refine blk_drewN ?_ _ | refine blk_drew ?_ | refine blk_alloc ?_ _)); refine blk_put (cs := #[.int .i64 0, .string (⟨#[]⟩ : ByteArray), .int .i64 0]) ?_ 0 _ rfl; (with_reducible repeat (first | refine blk_drewN ?_ _ | refine blk_drew ?_ | refine blk_alloc ?_ _)); exact BK187.out) Try.underlying32 rfl (by kernel_rfl)) rfl ?_
         exact ⟨by first | rfl | (simp [errW_none, errW_some] <;> rfl) | (simp [*, errW_none, errW_some] <;> rfl), qB HB⟩
        ·
         replace c37 := Bool.eq_false_iff.mpr c37
         subst c37
         have H1 : (some (0, (⟨#[]⟩ : ByteArray), 0, 0, 2)) = some (r1, r2, r3, r4, r5) := by rw [if_neg (show ¬ (false = true) by decide)] at H; exact H
         clear H
         have H := H1
         clear H1
         simp only [Option.some.injEq, Prod.mk.injEq] at H
         obtain ⟨rfl, rfl, rfl, rfl, rfl⟩ := H
         have hnb41 := NB187_189.out
         have hnc41 := NB189_187.out
         obtain ⟨hcz42_0, hcz42_1, hcz42_2⟩ := cz3 BK187.out
         obtain ⟨hfz42_0, hfz42_1, hfz42_2⟩ := fz3 BK187.out
         go_wp2
         refine bodyPost_ret (results_ctt rfl _ _ gb187 32 #[.int .i64 0, .string (⟨#[]⟩ : ByteArray), .int .i64 0] (0, 0) _ rfl (by (with_reducible repeat (first | refine blk_drewN ?_ _ | refine blk_drew ?_ | refine blk_alloc ?_ _)); refine blk_put (cs := #[.int .i64 0, .string (⟨#[]⟩ : ByteArray), .int .i64 0]) ?_ 2 _ rfl; (with_reducible repeat (first | refine blk_drewN ?_ _ | refine blk_drew ?_ | refine blk_alloc ?_ _)); refine blk_put (cs := #[.int .i64 0, .string (⟨#[]⟩ : ByteArray), .int .i64 0]) ?_ 1 _ rfl; (with_reducible repeat (first | refine blk_drewN ?_ _ | refine blk_drew ?_ | refine blk_alloc ?_ _)); refine blk_put (cs := #[.int .i64 0, .string (⟨#[]⟩ : ByteArray), .int .i64 0]) ?_ 0 _ rfl; (with_reducible repeat (first | refine blk_drewN ?_ _ | refine blk_drew ?_ | refine blk_alloc ?_ _)); exact BK187.out) Try.underlying32 rfl (by kernel_rfl)) rfl ?_
         exact ⟨by first | rfl | (simp [errW_none, errW_some] <;> rfl) | (simp [*, errW_none, errW_some] <;> rfl), qB HB⟩
       ·
        rw [if_neg c31] at H
        exact absurd H (by simp)
      ·
       rw [if_neg c30] at H
       have c30b0 : ((wrap64 (rd l0 0)) == 5) = false := beq_eq_false_iff_ne.mpr c30
       have c30b1 : ((wrap64 (rd l0 0)) != 5) = true := bne_iff_ne.mpr c30
       by_cases c43 : 1 < (l0.length : Int)
       ·
        rw [if_pos c43] at H
        have c43b0 : decide (1 < (l0.length : Int)) = true := decide_eq_true c43
        have c43b1 : decide (1 < l0.length) = true := decide_eq_true (by omega)
        clear c43
        by_cases c44 : (wrap64 (rd l0 1)) > 100
        ·
         rw [if_pos c44] at H
         have c44b0 : decide (100 < (wrap64 (rd l0 1))) = true := decide_eq_true c44
         clear c44
         simp only [Option.some.injEq, Prod.mk.injEq] at H
         obtain ⟨rfl, rfl, rfl, rfl, rfl⟩ := H
         have hnb45 := NB189_187.out
         have hnc45 := NB187_189.out
         obtain ⟨hcz46_0, hcz46_1, hcz46_2⟩ := cz3 BK189.out
         obtain ⟨hfz46_0, hfz46_1, hfz46_2⟩ := fz3 BK189.out
         have p194 : 0 ≤ (1 : Int) := (by omega)
         have q194 : 1 < (l0.length : Int) := of_decide_eq_true (by first | (with_reducible assumption) | assumption)
         obtain ⟨ad194, e194, hx194_0⟩ := Kd.at_int HR0.out 1 p194 q194
         obtain rfl : ad188 = ad194 := (by injection e194)
         (try simp only [show (1 : Int).toNat = 1 from rfl, Nat.reduceMul, Nat.reduceEqDiff, Go.Addr.add, ↓reduceIte] at hx194_0)
         have qi194 : (1 < l0.length) = True := eq_true (by omega)
         (try rw [show ((1 : Int)).toNat = 1 from rfl] at hx194_0)
         replace hx194_0 := (HB.out.cell (World.block_lt_of_cell? w _ hx194_0)).trans hx194_0
         replace p194 := eq_true p194
         replace q194 := eq_true q194
         obtain ⟨hcz47_0, hcz47_1, hcz47_2⟩ := cz3 BK187.out
         obtain ⟨hfz47_0, hfz47_1, hfz47_2⟩ := fz3 BK187.out
         go_wp2
         refine bodyPost_ret (results_ctt rfl _ _ gb187 32 #[.int .i64 0, .string (⟨#[]⟩ : ByteArray), .int .i64 0] (0, 0) _ rfl (by (with_reducible repeat (first | refine blk_drewN ?_ _ | refine blk_drew ?_ | refine blk_alloc ?_ _)); refine blk_put (cs := #[.int .i64 0, .string (⟨#[]⟩ : ByteArray), .int .i64 0]) ?_ 2 _ rfl; (with_reducible repeat (first | refine blk_drewN ?_ _ | refine blk_drew ?_ | refine blk_alloc ?_ _)); refine blk_put (cs := #[.int .i64 0, .string (⟨#[]⟩ : ByteArray), .int .i64 0]) ?_ 1 _ rfl; (with_reducible repeat (first | refine blk_drewN ?_ _ | refine blk_drew ?_ | refine blk_alloc ?_ _)); refine blk_put (cs := #[.int .i64 0, .string (⟨#[]⟩ : ByteArray), .int .i64 0]) ?_ 0 _ rfl; (with_reducible repeat (first | refine blk_drewN ?_ _ | refine blk_drew ?_ | refine blk_alloc ?_ _)); exact BK187.out) Try.underlying32 rfl (by kernel_rfl)) rfl ?_
         exact ⟨by first | rfl | (simp [errW_none, errW_some] <;> rfl) | (simp [*, errW_none, errW_some] <;> rfl), qB HB⟩
        ·
         rw [if_neg c44] at H
         have c44b0 : decide (100 < (wrap64 (rd l0 1))) = false := decide_eq_false c44
         clear c44
         by_cases c48 : (wrap64 (rd l0 1)) > (wrap64 ((l0.length : Int) - 2))
         ·
          rw [if_pos c48] at H
          have c48b0 : decide ((wrap64 ((l0.length : Int) - 2)) < (wrap64 (rd l0 1))) = true := decide_eq_true c48
          clear c48
          simp only [Option.some.injEq, Prod.mk.injEq] at H
          obtain ⟨rfl, rfl, rfl, rfl, rfl⟩ := H
          have hnb49 := NB189_187.out
          have hnc49 := NB187_189.out
          obtain ⟨hcz50_0, hcz50_1, hcz50_2⟩ := cz3 BK189.out
          obtain ⟨hfz50_0, hfz50_1, hfz50_2⟩ := fz3 BK189.out
          have p194 : 0 ≤ (1 : Int) := (by omega)
          have q194 : 1 < (l0.length : Int) := of_decide_eq_true (by first | (with_reducible assumption) | assumption)
          obtain ⟨ad194, e194, hx194_0⟩ := Kd.at_int HR0.out 1 p194 q194
          obtain rfl : ad188 = ad194 := (by injection e194)
          (try simp only [show (1 : Int).toNat = 1 from rfl, Nat.reduceMul, Nat.reduceEqDiff, Go.Addr.add, ↓reduceIte] at hx194_0)
          have qi194 : (1 < l0.length) = True := eq_true (by omega)
          (try rw [show ((1 : Int)).toNat = 1 from rfl] at hx194_0)
          replace hx194_0 := (HB.out.cell (World.block_lt_of_cell? w _ hx194_0)).trans hx194_0
          replace p194 := eq_true p194
          replace q194 := eq_true q194
          obtain ⟨hcz51_0, hcz51_1, hcz51_2⟩ := cz3 BK187.out
          obtain ⟨hfz51_0, hfz51_1, hfz51_2⟩ := fz3 BK187.out
          go_wp2
          refine bodyPost_ret (results_ctt rfl _ _ gb187 32 #[.int .i64 0, .string (⟨#[]⟩ : ByteArray), .int .i64 0] (0, 0) _ rfl (by (with_reducible repeat (first | refine blk_drewN ?_ _ | refine blk_drew ?_ | refine blk_alloc ?_ _)); refine blk_put (cs := #[.int .i64 0, .string (⟨#[]⟩ : ByteArray), .int .i64 0]) ?_ 2 _ rfl; (with_reducible repeat (first | refine blk_drewN ?_ _ | refine blk_drew ?_ | refine blk_alloc ?_ _)); refine blk_put (cs := #[.int .i64 0, .string (⟨#[]⟩ : ByteArray), .int .i64 0]) ?_ 1 _ rfl; (with_reducible repeat (first | refine blk_drewN ?_ _ | refine blk_drew ?_ | refine blk_alloc ?_ _)); refine blk_put (cs := #[.int .i64 0, .string (⟨#[]⟩ : ByteArray), .int .i64 0]) ?_ 0 _ rfl; (with_reducible repeat (first | refine blk_drewN ?_ _ | refine blk_drew ?_ | refine blk_alloc ?_ _)); exact BK187.out) Try.underlying32 rfl (by kernel_rfl)) rfl ?_
          exact ⟨by first | rfl | (simp [errW_none, errW_some] <;> rfl) | (simp [*, errW_none, errW_some] <;> rfl), qB HB⟩
         ·
          rw [if_neg c48] at H
          have c48b0 : decide ((wrap64 ((l0.length : Int) - 2)) < (wrap64 (rd l0 1))) = false := decide_eq_false c48
          clear c48
          by_cases c52 : 2 ≤ (wrap64 (2 + (wrap64 (rd l0 1))))
          ·
           rw [if_pos c52] at H
           have c52b0 := eq_true c52
           have c52b1 : decide (2 ≤ (wrap64 (2 + (wrap64 (rd l0 1))))) = true := decide_eq_true c52
           by_cases c53 : (wrap64 (2 + (wrap64 (rd l0 1)))) ≤ (l0.length : Int)
           ·
            rw [if_pos c53] at H
            have c53b0 := eq_true c53
            have c53b1 : decide ((wrap64 (2 + (wrap64 (rd l0 1)))) ≤ (l0.length : Int)) = true := decide_eq_true c53
            replace H := Option.bind_eq_some_iff.mp H
            obtain ⟨t196, A540, H⟩ := H
            replace H : (if t196 = true then (some (wrap64 (rd l0 0), strOfNums ((l0.take ((wrap64 (2 + (wrap64 (rd l0 1)))) : Int).toNat).drop 2), 0, wrap64 (2 + (wrap64 (rd l0 1))), 0)) else (some (0, (⟨#[]⟩ : ByteArray), 0, 0, 2))) = some (r1, r2, r3, r4, r5) := H
            have A54 := Aside0.mk A540
            clear A540
            have HC55 := Aside0.mk H
            clear H
            have hnb56 := NB189_187.out
            have hnc56 := NB187_189.out
            obtain ⟨hcz57_0, hcz57_1, hcz57_2⟩ := cz3 BK189.out
            obtain ⟨hfz57_0, hfz57_1, hfz57_2⟩ := fz3 BK189.out
            have p194 : 0 ≤ (1 : Int) := (by omega)
            have q194 : 1 < (l0.length : Int) := of_decide_eq_true (by first | (with_reducible assumption) | assumption)
            obtain ⟨ad194, e194, hx194_0⟩ := Kd.at_int HR0.out 1 p194 q194
            obtain rfl : ad188 = ad194 := (by injection e194)
            (try simp only [show (1 : Int).toNat = 1 from rfl, Nat.reduceMul, Nat.reduceEqDiff, Go.Addr.add, ↓reduceIte] at hx194_0)
            have qi194 : (1 < l0.length) = True := eq_true (by omega)
            (try rw [show ((1 : Int)).toNat = 1 from rfl] at hx194_0)
            replace hx194_0 := (HB.out.cell (World.block_lt_of_cell? w _ hx194_0)).trans hx194_0
            replace p194 := eq_true p194
            replace q194 := eq_true q194
            obtain ⟨i058, hi058, _, hsz58, _⟩ := info_parts info5
            obtain ⟨A58, hcut58, hA58, hC58⟩ := print_mid_of (P := Try.prog) (Value.int .u8) 0 22 5 .i64 .i64 Try.underlying22 hi058 hsz58 (some ad188) c0 l0 2 (wrap64 (2 + (wrap64 (rd l0 1)))) (by omega) (by first | omega | exact of_decide_eq_true (by first | (with_reducible assumption) | assumption)) (of_decide_eq_true (by first | (with_reducible assumption) | assumption)) HC0.out
            have HR195 := Aside0.mk (Kd.C_of_reads (h1 := fun _ => rfl) (hA58 _ (Kd.reads_of_C HR0.out)))
            have HC195 := Aside0.mk hC58
            clear hA58 hC58 hi058 hsz58
            have hcv59 := Go.Proofs.YtahfemlfdpbkkaaV.conv_len (Kd.C_string (P := Try.prog) (A := A58) (c := (c0 - 2)) Try.underlying22 Try.underlying5 Try.underlying9 (Kd.C_below HR195.out HB.out))
            go_upto_if 64 with (first | ((with_reducible refine gate_callee (f := 140) rfl ?_); refine goesL_ (some 63) rfl rfl Try.func140 (by kernel_rfl) rfl #[.agg #[.int .i64 (wrap64 (rd l0 0)), .string (strOfNums ((l0.take ((wrap64 (2 + (wrap64 (rd l0 1)))) : Int).toNat).drop 2)), .int .i64 0]] rfl (by (try simp only [List.map_toArray, List.map_cons, List.map_nil]); first | done | rfl | (simp only [List.length_drop, List.length_take]; rfl)) ?_; (with_reducible refine (spec_FrameOk.calls k (wrap64 (rd l0 0)) (strOfNums ((l0.take ((wrap64 (2 + (wrap64 (rd l0 1)))) : Int).toNat).drop 2)) 0 t196 _ A54.out).mono ?_); rintro e w60 ⟨rfl, hb⟩; refine ⟨_, rfl, ?_⟩; replace BK187 := am_ (blk_below (g := gb187) (o := .cells #[.int .i64 0, .string (⟨#[]⟩ : ByteArray), .int .i64 0] 32 (0, 0)) (by (with_reducible repeat (first | refine blk_drewN ?_ _ | refine blk_drew ?_ | refine blk_alloc ?_ _)); refine blk_far ?_ NB187_189.out _; (with_reducible repeat (first | refine blk_drewN ?_ _ | refine blk_drew ?_ | refine blk_alloc ?_ _)); exact BK187.out) hb); replace BK189 := am_ (blk_below (g := gb189) (o := .cells #[.int .i64 (wrap64 (rd l0 0)), .string (strOfNums ((l0.take ((wrap64 (2 + (wrap64 (rd l0 1)))) : Int).toNat).drop 2)), .int .i64 0] 32 (0, 0)) (by (with_reducible repeat (first | refine blk_drewN ?_ _ | refine blk_drew ?_ | refine blk_alloc ?_ _)); refine blk_put (cs := #[.int .i64 (wrap64 (rd l0 0)), .string (⟨#[]⟩ : ByteArray), .int .i64 0]) ?_ 1 _ rfl; (with_reducible repeat (first | refine blk_drewN ?_ _ | refine blk_drew ?_ | refine blk_alloc ?_ _)); exact BK189.out) hb); replace HB := am_ (below_step (qB HB) hb); (try clear hb); (try clear hb2); (try clear hk); (try clear hi)))
            (try simp only [Act.put, List.setIfInBounds_toArray, List.set_cons_zero, List.set_cons_succ])
            have H := HC55.out
            clear HC55
            by_cases c61 : t196 = true
            ·
             subst c61
             have H1 : (some (wrap64 (rd l0 0), strOfNums ((l0.take ((wrap64 (2 + (wrap64 (rd l0 1)))) : Int).toNat).drop 2), 0, wrap64 (2 + (wrap64 (rd l0 1))), 0)) = some (r1, r2, r3, r4, r5) := by rw [if_pos rfl] at H; exact H
             clear H
             have H := H1
             clear H1
             simp only [Option.some.injEq, Prod.mk.injEq] at H
             obtain ⟨rfl, rfl, rfl, rfl, rfl⟩ := H
             have hnb62 := NB189_187.out
             have hnc62 := NB187_189.out
             obtain ⟨hcz63_0, hcz63_1, hcz63_2⟩ := cz3 BK189.out
             obtain ⟨hfz63_0, hfz63_1, hfz63_2⟩ := fz3 BK189.out
             obtain ⟨hcz64_0, hcz64_1, hcz64_2⟩ := cz3 BK187.out
             obtain ⟨hfz64_0, hfz64_1, hfz64_2⟩ := fz3 BK187.out
             go_wp2
             refine bodyPost_ret (results_ctt rfl _ _ gb187 32 #[.int .i64 (wrap64 (rd l0 0)), .string (strOfNums ((l0.take ((wrap64 (2 + (wrap64 (rd l0 1)))) : Int).toNat).drop 2)), .int .i64 0] (0, 0) _ rfl (by (with_reducible repeat (first | refine blk_drewN ?_ _ | refine blk_drew ?_ | refine blk_alloc ?_ _)); refine blk_put (cs := #[.int .i64 (wrap64 (rd l0 0)), .string (strOfNums ((l0.take ((wrap64 (2 + (wrap64 (rd l0 1)))) : Int).toNat).drop 2)), .int .i64 0]) ?_ 2 _ rfl; (with_reducible repeat (first | refine blk_drewN ?_ _ | refine blk_drew ?_ | refine blk_alloc ?_ _)); refine blk_put (cs := #[.int .i64 (wrap64 (rd l0 0)), .string (⟨#[]⟩ : ByteArray), .int .i64 0]) ?_ 1 _ rfl; (with_reducible repeat (first | refine blk_drewN ?_ _ | refine blk_drew ?_ | refine blk_alloc ?_ _)); refine blk_put (cs := #[.int .i64 0, .string (⟨#[]⟩ : ByteArray), .int .i64 0]) ?_ 0 _ rfl; (with_reducible repeat (first | refine blk_drewN ?_ _ | refine blk_drew ?_ | refine blk_alloc ?_ _)); exact BK187.out) Try.underlying32 rfl (by kernel_rfl)) rfl ?_
             exact ⟨by first | rfl | (simp [errW_none, errW_some] <;> rfl) | (simp [*, errW_none, errW_some] <;> rfl), qB HB⟩
            ·
             replace c61 := Bool.eq_false_iff.mpr c61
             subst c61
             have H1 : (some (0, (⟨#[]⟩ : ByteArray), 0, 0, 2)) = some (r1, r2, r3, r4, r5) := by rw [if_neg (show ¬ (false = true) by decide)] at H; exact H
             clear H
             have H := H1
             clear H1
             simp only [Option.some.injEq, Prod.mk.injEq] at H
             obtain ⟨rfl, rfl, rfl, rfl, rfl⟩ := H
             have hnb65 := NB187_189.out
             have hnc65 := NB189_187.out
             obtain ⟨hcz66_0, hcz66_1, hcz66_2⟩ := cz3 BK187.out
             obtain ⟨hfz66_0, hfz66_1, hfz66_2⟩ := fz3 BK187.out
             go_wp2
             refine bodyPost_ret (results_ctt rfl _ _ gb187 32 #[.int .i64 0, .string (⟨#[]⟩ : ByteArray), .int .i64 0] (0, 0) _ rfl (by (with_reducible repeat (first | refine blk_drewN ?_ _ | refine blk_drew ?_ | refine blk_alloc ?_ _)); refine blk_put (cs := #[.int .i64 0, .string (⟨#[]⟩ : ByteArray), .int .i64 0]) ?_ 2 _ rfl; (with_reducible repeat (first | refine blk_drewN ?_ _ | refine blk_drew ?_ | refine blk_alloc ?_ _)); refine blk_put (cs := #[.int .i64 0, .string (⟨#[]⟩ : ByteArray), .int .i64 0]) ?_ 1 _ rfl; (with_reducible repeat (first | refine blk_drewN ?_ _ | refine blk_drew ?_ | refine blk_alloc ?_ _)); refine blk_put (cs := #[.int .i64 0, .string (⟨#[]⟩ : ByteArray), .int .i64 0]) ?_ 0 _ rfl; (with_reducible repeat (first | refine blk_drewN ?_ _ | refine blk_drew ?_ | refine blk_alloc ?_ _)); exact BK187.out) Try.underlying32 rfl (by kernel_rfl)) rfl ?_
             exact ⟨by first | rfl | (simp [errW_none, errW_some] <;> rfl) | (simp [*, errW_none, errW_some] <;> rfl), qB HB⟩
           ·
            rw [if_neg c53] at H
            exact absurd H (by simp)
          ·
           rw [if_neg c52] at H
           exact absurd H (by simp)
       ·
        rw [if_neg c43] at H
        exact absurd H (by simp)
   ·
    replace c13 := Bool.eq_false_iff.mpr c13
    subst c13
    have H1 : (some (0, (⟨#[]⟩ : ByteArray), 0, 0, 2)) = some (r1, r2, r3, r4, r5) := by rw [if_neg (show ¬ (false = true) by decide)] at H; exact H
    clear H
    have H := H1
    clear H1
    simp only [Option.some.injEq, Prod.mk.injEq] at H
    obtain ⟨rfl, rfl, rfl, rfl, rfl⟩ := H
    have hnb67 := NB187_189.out
    have hnc67 := NB189_187.out
    obtain ⟨hcz68_0, hcz68_1, hcz68_2⟩ := cz3 BK187.out
    obtain ⟨hfz68_0, hfz68_1, hfz68_2⟩ := fz3 BK187.out
    go_wp2
    refine bodyPost_ret (results_ctt rfl _ _ gb187 32 #[.int .i64 0, .string (⟨#[]⟩ : ByteArray), .int .i64 0] (0, 0) _ rfl (by (with_reducible repeat (first | refine blk_drewN ?_ _ | refine blk_drew ?_ | refine blk_alloc ?_ _)); refine blk_put (cs := #[.int .i64 0, .string (⟨#[]⟩ : ByteArray), .int .i64 0]) ?_ 2 _ rfl; (with_reducible repeat (first | refine blk_drewN ?_ _ | refine blk_drew ?_ | refine blk_alloc ?_ _)); refine blk_put (cs := #[.int .i64 0, .string (⟨#[]⟩ : ByteArray), .int .i64 0]) ?_ 1 _ rfl; (with_reducible repeat (first | refine blk_drewN ?_ _ | refine blk_drew ?_ | refine blk_alloc ?_ _)); refine blk_put (cs := #[.int .i64 0, .string (⟨#[]⟩ : ByteArray), .int .i64 0]) ?_ 0 _ rfl; (with_reducible repeat (first | refine blk_drewN ?_ _ | refine blk_drew ?_ | refine blk_alloc ?_ _)); exact BK187.out) Try.underlying32 rfl (by kernel_rfl)) rfl ?_
    exact ⟨by first | rfl | (simp [errW_none, errW_some] <;> rfl) | (simp [*, errW_none, errW_some] <;> rfl), qB HB⟩
  ·
   rw [if_neg c6] at H
   exact absurd H (by simp)

/-! ### spec_NextSt: function 116 -/
def spec_NextSt.j0 : Nat → Int → Int → Bool → Option (Int)
 | 0, _, _, _ => none
 | k + 1, x0, x1, x5 => if x0 = 0 then (if x1 = 1 then (some 1) else (some 0)) else (if x0 = 1 then (if x1 = 4 then (some 2) else (if x5 = true then (some 0) else (some 1))) else (if x0 = 2 then (if x5 = true then (some 0) else (some 2)) else (some 0)))
def spec_NextSt.f (k : Nat) (a0 : Int) (a1 : Int) : Option (Int) := if a1 = 2 then (spec_NextSt.j0 k a0 a1 true) else (spec_NextSt.j0 k a0 a1 (a1 == 3))
theorem spec_NextSt.mono_l : ∀ k, (∀ y0 y1 y2, LeO (spec_NextSt.j0 k y0 y1 y2) (spec_NextSt.j0 (k + 1) y0 y1 y2))
 | 0 => fun _ _ _ r h => by simp [spec_NextSt.j0] at h
 | k + 1 => by
  have ih0 := spec_NextSt.mono_l k
  ·
   intro y0 y1 y2
   unfold spec_NextSt.j0
   repeat' first
   | (with_reducible exact ih0 _ _ _)
   | (with_reducible exact LeO.refl _)
   | (with_reducible exact LeO.none _)
   | (with_reducible refine LeO.ite ?_ ?_)
   | (with_reducible refine LeO.bind ?_ (fun _ => ?_))
   | exact ih0 _ _ _
   | exact LeO.none _
   | refine LeO.ite ?_ ?_
   | refine LeO.bind ?_ (fun _ => ?_)
theorem spec_NextSt.mono : ∀ a0 a1 k, LeO (spec_NextSt.f k a0 a1) (spec_NextSt.f (k + 1) a0 a1) := by
 intro a0 a1 k
 have ih0 := spec_NextSt.mono_l k
 unfold spec_NextSt.f
 repeat' first
   | (with_reducible exact ih0 _ _ _)
   | (with_reducible exact LeO.refl _)
   | (with_reducible exact LeO.none _)
   | (with_reducible refine LeO.ite ?_ ?_)
   | (with_reducible refine LeO.bind ?_ (fun _ => ?_))
   | exact ih0 _ _ _
   | exact LeO.none _
   | refine LeO.ite ?_ ?_
   | refine LeO.bind ?_ (fun _ => ?_)
set_option maxHeartbeats 8000000 in
set_option maxRecDepth 100000 in
theorem spec_NextSt.calls (k : Nat) (a0 : Int) (a1 : Int) (r : Int) (w : World) (h : spec_NextSt.f k a0 a1 = some r) :
  Calls Try.prog 116 #[.int .i64 a0, .int .i64 a1] w fun e w' => e = .returned (.int .i64 r) ∧ Drawn0 w w' := by
 have H : (if a1 = 2 then (spec_NextSt.j0 k a0 a1 true) else (spec_NextSt.j0 k a0 a1 (a1 == 3))) = some r := h
 clear h
 have HC3 := Aside0.mk H
 clear H
 go_enter Try.func116, Try.ntmps116
 go_upto_region 1 with (fail)
 go_cut [5] (fun v5 wc => ∃ (kq : Nat) (x5_2 : Bool), v5 = .bool x5_2 ∧ Aside0 (spec_NextSt.j0 kq a0 a1 x5_2 = some r) ∧ Aside0 (kq ≤ k) ∧ Drawn0 w wc)
 case first =>
  have H := HC3.out
  clear HC3
  by_cases c4 : a1 = 2
  ·
   rw [if_pos c4] at H
   have c4b0 : (a1 == 2) = true := beq_iff_eq.mpr c4
   have c4b1 : (a1 != 2) = false := bne_eq_false_iff_eq.mpr c4
   clear c4
   (first | rw [c4b0] | (simp only [i64_w, i32_w]; rw [c4b0]) | skip)
   have H' := Aside0.mk H
   clear H
   go_wp2
   go_meet
   case rel => exact ⟨_, (true), (by first | rfl | (simp; done) | (simp [*]; done) | (simp [Go.Proofs.YtahfemlfdpbkkaaV.bne_nil, Go.Proofs.YtahfemlfdpbkkaaV.beq_nil]; done)), H', ⟨by first | omega | exact Nat.le_refl _⟩, by repeat (first | exact Drawn0.refl _ | apply Drawn0.step)⟩
  ·
   rw [if_neg c4] at H
   have c4b0 : (a1 == 2) = false := beq_eq_false_iff_ne.mpr c4
   have c4b1 : (a1 != 2) = true := bne_iff_ne.mpr c4
   (first | rw [c4b0] | (simp only [i64_w, i32_w]; rw [c4b0]) | skip)
   have H' := Aside0.mk H
   clear H
   go_wp2
   go_meet
   case rel => exact ⟨_, ((a1 == 3)), (by first | rfl | (simp; done) | (simp [*]; done) | (simp [Go.Proofs.YtahfemlfdpbkkaaV.bne_nil, Go.Proofs.YtahfemlfdpbkkaaV.beq_nil]; done)), H', ⟨by first | omega | exact Nat.le_refl _⟩, by repeat (first | exact Drawn0.refl _ | apply Drawn0.step)⟩
 case rest =>
  clear HC3
  try clear c1
  try clear p2
  try clear c4
  try clear c4b0
  try clear c4b1
  obtain ⟨kq, x5_2, rfl, HA, HJ2, ⟨mc2, rfl⟩⟩ := hcut
  cases kq with
  | zero => exact absurd HA.out (by simp [spec_NextSt.j0])
  | succ kj2 =>
   have H := HA.out
   clear HA
   simp only [spec_NextSt.j0] at H
   by_cases c5 : a0 = 0
   ·
    rw [if_pos c5] at H
    have c5b0 : (a0 == 0) = true := beq_iff_eq.mpr c5
    have c5b1 : (a0 != 0) = false := bne_eq_false_iff_eq.mpr c5
    clear c5
    by_cases c6 : a1 = 1
    ·
     rw [if_pos c6] at H
     have c6b0 : (a1 == 1) = true := beq_iff_eq.mpr c6
     have c6b1 : (a1 != 1) = false := bne_eq_false_iff_eq.mpr c6
     clear c6
     obtain rfl := Option.some.inj H
     go_wp2
     go_ret
     exact ⟨by first | rfl | (simp; done) | (simp [*]; done), by repeat (first | exact Drawn0.refl _ | apply Drawn0.step)⟩
    ·
     rw [if_neg c6] at H
     have c6b0 : (a1 == 1) = false := beq_eq_false_iff_ne.mpr c6
     have c6b1 : (a1 != 1) = true := bne_iff_ne.mpr c6
     obtain rfl := Option.some.inj H
     go_wp2
     go_ret
     exact ⟨by first | rfl | (simp; done) | (simp [*]; done), by repeat (first | exact Drawn0.refl _ | apply Drawn0.step)⟩
   ·
    rw [if_neg c5] at H
    have c5b0 : (a0 == 0) = false := beq_eq_false_iff_ne.mpr c5
    have c5b1 : (a0 != 0) = true := bne_iff_ne.mpr c5
    by_cases c7 : a0 = 1
    ·
     rw [if_pos c7] at H
     have c7b0 : (a0 == 1) = true := beq_iff_eq.mpr c7
     have c7b1 : (a0 != 1) = false := bne_eq_false_iff_eq.mpr c7
     clear c7
     by_cases c8 : a1 = 4
     ·
      rw [if_pos c8] at H
      have c8b0 : (a1 == 4) = true := beq_iff_eq.mpr c8
      have c8b1 : (a1 != 4) = false := bne_eq_false_iff_eq.mpr c8
      clear c8
      obtain rfl := Option.some.inj H
      go_wp2
      go_ret
      exact ⟨by first | rfl | (simp; done) | (simp [*]; done), by repeat (first | exact Drawn0.refl _ | apply Drawn0.step)⟩
     ·
      rw [if_neg c8] at H
      have c8b0 : (a1 == 4) = false := beq_eq_false_iff_ne.mpr c8
      have c8b1 : (a1 != 4) = true := bne_iff_ne.mpr c8
      by_cases c9 : x5_2 = true
      ·
       subst c9
       have H1 : (some 0) = some r := by rw [if_pos rfl] at H; exact H
       clear H
       have H := H1
       clear H1
       obtain rfl := Option.some.inj H
       go_wp2
       go_ret
       exact ⟨by first | rfl | (simp; done) | (simp [*]; done), by repeat (first | exact Drawn0.refl _ | apply Drawn0.step)⟩
      ·
       replace c9 := Bool.eq_false_iff.mpr c9
       subst c9
       have H1 : (some 1) = some r := by rw [if_neg (show ¬ (false = true) by decide)] at H; exact H
       clear H
       have H := H1
       clear H1
       obtain rfl := Option.some.inj H
       go_wp2
       go_ret
       exact ⟨by first | rfl | (simp; done) | (simp [*]; done), by repeat (first | exact Drawn0.refl _ | apply Drawn0.step)⟩
    ·
     rw [if_neg c7] at H
     have c7b0 : (a0 == 1) = false := beq_eq_false_iff_ne.mpr c7
     have c7b1 : (a0 != 1) = true := bne_iff_ne.mpr c7
     by_cases c10 : a0 = 2
     ·
      rw [if_pos c10] at H
      have c10b0 : (a0 == 2) = true := beq_iff_eq.mpr c10
      have c10b1 : (a0 != 2) = false := bne_eq_false_iff_eq.mpr c10
      clear c10
      by_cases c11 : x5_2 = true
      ·
       subst c11
       have H1 : (some 0) = some r := by rw [if_pos rfl] at H; exact H
       clear H
       have H := H1
       clear H1
       obtain rfl := Option.some.inj H
       go_wp2
       go_ret
       exact ⟨by first | rfl | (simp; done) | (simp [*]; done), by repeat (first | exact Drawn0.refl _ | apply Drawn0.step)⟩
      ·
       replace c11 := Bool.eq_false_iff.mpr c11
       subst c11
       have H1 : (some 2) = some r := by rw [if_neg (show ¬ (false = true) by decide)] at H; exact H
       clear H
       have H := H1
       clear H1
       obtain rfl := Option.some.inj H
       go_wp2
       go_ret
       exact ⟨by first | rfl | (simp; done) | (simp [*]; done), by repeat (first | exact Drawn0.refl _ | apply Drawn0.step)⟩
     ·
      rw [if_neg c10] at H
      have c10b0 : (a0 == 2) = false := beq_eq_false_iff_ne.mpr c10
      have c10b1 : (a0 != 2) = true := bne_iff_ne.mpr c10
      obtain rfl := Option.some.inj H
      go_wp2
      go_ret
      exact ⟨by first | rfl | (simp; done) | (simp [*]; done), by repeat (first | exact Drawn0.refl _ | apply Drawn0.step)⟩

/-! ### spec_WordOf: function 117 -/
def spec_WordOf.f (a0 : ByteArray) : Option (Int) := if a0.toList = ([98, 101, 103, 105, 110] : List UInt8) then (some 1) else (if a0.toList = ([99, 111, 109, 109, 105, 116] : List UInt8) then (some 2) else (if a0.toList = ([114, 111, 108, 108, 98, 97, 99, 107] : List UInt8) then (some 3) else (if a0.toList = ([102, 97, 105, 108] : List UInt8) then (some 4) else (some 0))))
set_option maxHeartbeats 8000000 in
set_option maxRecDepth 100000 in
theorem spec_WordOf.calls (a0 : ByteArray) (r : Int) (w : World) (h : spec_WordOf.f a0 = some r) :
  Calls Try.prog 117 #[.string a0] w fun e w' => e = .returned (.int .i64 r) ∧ Drawn0 w w' := by
 have H : (if a0.toList = ([98, 101, 103, 105, 110] : List UInt8) then (some 1) else (if a0.toList = ([99, 111, 109, 109, 105, 116] : List UInt8) then (some 2) else (if a0.toList = ([114, 111, 108, 108, 98, 97, 99, 107] : List UInt8) then (some 3) else (if a0.toList = ([102, 97, 105, 108] : List UInt8) then (some 4) else (some 0))))) = some r := h
 clear h
 by_cases c2 : a0.toList = ([98, 101, 103, 105, 110] : List UInt8)
 ·
  rw [if_pos c2] at H
  have c2b0 : (a0.toList == ([98, 101, 103, 105, 110] : List UInt8)) = true := beq_iff_eq.mpr c2
  have c2b1 : (a0.toList != ([98, 101, 103, 105, 110] : List UInt8)) = false := bne_eq_false_iff_eq.mpr c2
  clear c2
  obtain rfl := Option.some.inj H
  go_enter Try.func117, Try.ntmps117
  go_wp2
  go_ret
  exact ⟨by first | rfl | (simp; done) | (simp [*]; done), by repeat (first | exact Drawn0.refl _ | apply Drawn0.step)⟩
 ·
  rw [if_neg c2] at H
  have c2b0 : (a0.toList == ([98, 101, 103, 105, 110] : List UInt8)) = false := beq_eq_false_iff_ne.mpr c2
  have c2b1 : (a0.toList != ([98, 101, 103, 105, 110] : List UInt8)) = true := bne_iff_ne.mpr c2
  by_cases c3 : a0.toList = ([99, 111, 109, 109, 105, 116] : List UInt8)
  ·
   rw [if_pos c3] at H
   have c3b0 : (a0.toList == ([99, 111, 109, 109, 105, 116] : List UInt8)) = true := beq_iff_eq.mpr c3
   have c3b1 : (a0.toList != ([99, 111, 109, 109, 105, 116] : List UInt8)) = false := bne_eq_false_iff_eq.mpr c3
   clear c3
   obtain rfl := Option.some.inj H
   go_enter Try.func117, Try.ntmps117
   go_wp2
   go_ret
   exact ⟨by first | rfl | (simp; done) | (simp [*]; done), by repeat (first | exact Drawn0.refl _ | apply Drawn0.step)⟩
  ·
   rw [if_neg c3] at H
   have c3b0 : (a0.toList == ([99, 111, 109, 109, 105, 116] : List UInt8)) = false := beq_eq_false_iff_ne.mpr c3
   have c3b1 : (a0.toList != ([99, 111, 109, 109, 105, 116] : List UInt8)) = true := bne_iff_ne.mpr c3
   by_cases c4 : a0.toList = ([114, 111, 108, 108, 98, 97, 99, 107] : List UInt8)
   ·
    rw [if_pos c4] at H
    have c4b0 : (a0.toList == ([114, 111, 108, 108, 98, 97, 99, 107] : List UInt8)) = true := beq_iff_eq.mpr c4
    have c4b1 : (a0.toList != ([114, 111, 108, 108, 98, 97, 99, 107] : List UInt8)) = false := bne_eq_false_iff_eq.mpr c4
    clear c4
    obtain rfl := Option.some.inj H
    go_enter Try.func117, Try.ntmps117
    go_wp2
    go_ret
    exact ⟨by first | rfl | (simp; done) | (simp [*]; done), by repeat (first | exact Drawn0.refl _ | apply Drawn0.step)⟩
   ·
    rw [if_neg c4] at H
    have c4b0 : (a0.toList == ([114, 111, 108, 108, 98, 97, 99, 107] : List UInt8)) = false := beq_eq_false_iff_ne.mpr c4
    have c4b1 : (a0.toList != ([114, 111, 108, 108, 98, 97, 99, 107] : List UInt8)) = true := bne_iff_ne.mpr c4
    by_cases c5 : a0.toList = ([102, 97, 105, 108] : List UInt8)
    ·
     rw [if_pos c5] at H
     have c5b0 : (a0.toList == ([102, 97, 105, 108] : List UInt8)) = true := beq_iff_eq.mpr c5
     have c5b1 : (a0.toList != ([102, 97, 105, 108] : List UInt8)) = false := bne_eq_false_iff_eq.mpr c5
     clear c5
     obtain rfl := Option.some.inj H
     go_enter Try.func117, Try.ntmps117
     go_wp2
     go_ret
     exact ⟨by first | rfl | (simp; done) | (simp [*]; done), by repeat (first | exact Drawn0.refl _ | apply Drawn0.step)⟩
    ·
     rw [if_neg c5] at H
     have c5b0 : (a0.toList == ([102, 97, 105, 108] : List UInt8)) = false := beq_eq_false_iff_ne.mpr c5
     have c5b1 : (a0.toList != ([102, 97, 105, 108] : List UInt8)) = true := bne_iff_ne.mpr c5
     obtain rfl := Option.some.inj H
     go_enter Try.func117, Try.ntmps117
     go_wp2
     go_ret
     exact ⟨by first | rfl | (simp; done) | (simp [*]; done), by repeat (first | exact Drawn0.refl _ | apply Drawn0.step)⟩

end Go.Proofs.Ytahfemlfdpbkkaa.PFnExactAnswer
