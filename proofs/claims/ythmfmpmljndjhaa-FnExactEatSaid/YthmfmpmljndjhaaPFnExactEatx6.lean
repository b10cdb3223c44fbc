-- Written by a program of this session (myprint.py, over the kit's print): contracts of FnExactEat
import Derived.Test.YthmfmpmljndjhaaPFnExactEatx0
import Derived.Test.YthmfmpmljndjhaaPFnExactEatx5
namespace Go.Proofs.Ythmfmpmljndjhaa.PFnExactEat
open Go.RowKit Go.Proofs.YthmfmpmljndjhaaW.PrintWords Go.Proofs.YthmfmpmljndjhaaW.PrintLast Go.Proofs.YthmfmpmljndjhaaW.PrintMore Go.Proofs.YthmfmpmljndjhaaV
attribute [local go_sem] max2_int min2_int max_two min_two max_three min_three max_four min_four   -- for this text's walks alone
set_option linter.unusedVariables false
set_option linter.unusedSimpArgs false

/-! ### impl_GetFrame: function 117 -/
def impl_GetFrame.j0 : Nat → List Int → Int → Bool → Int → ByteArray → Int → Option (Int × ByteArray × Int × Int × Int)
 | 0, _, _, _, _, _, _ => none
 | k + 1, x0, x6, x31, x214000, x214001, x214002 => if x31 = true then (if (x0.length : Int) < 2 then (some (0, (⟨#[]⟩ : ByteArray), 0, 0, 1)) else (if 1 < (x0.length : Int) then (if (wrap64 (rd x0 1)) > 100 then (some (0, (⟨#[]⟩ : ByteArray), 0, 0, 2)) else (if (x0.length : Int) < (wrap64 (2 + (wrap64 (rd x0 1)))) then (some (0, (⟨#[]⟩ : ByteArray), 0, 0, 1)) else (if 2 ≤ (wrap64 (2 + (wrap64 (rd x0 1)))) then (if (wrap64 (2 + (wrap64 (rd x0 1)))) ≤ (x0.length : Int) then ((impl_FrameOk.f k x214000 (strOfNums ((x0.take ((wrap64 (2 + (wrap64 (rd x0 1)))) : Int).toNat).drop 2)) x214002).bind fun t221 => (if t221 = true then (some (x214000, strOfNums ((x0.take ((wrap64 (2 + (wrap64 (rd x0 1)))) : Int).toNat).drop 2), x214002, wrap64 (2 + (wrap64 (rd x0 1))), 0)) else (some (0, (⟨#[]⟩ : ByteArray), 0, 0, 2)))) else (none)) else (none)))) else (none))) else ((impl_FrameOk.f k x214000 x214001 x214002).bind fun t222 => (if t222 = true then (some (x214000, x214001, x214002, x6, 0)) else (some (0, (⟨#[]⟩ : ByteArray), 0, 0, 2))))
def impl_GetFrame.f (k : Nat) (l0 : List Int) : Option (Int × ByteArray × Int × Int × Int) := if (l0.length : Int) = 0 then (some (0, (⟨#[]⟩ : ByteArray), 0, 0, 1)) else (if 0 < (l0.length : Int) then (if (wrap64 (rd l0 0)) = 3 then ((impl_FrameOk.f k (wrap64 (rd l0 0)) (⟨#[]⟩ : ByteArray) 0).bind fun t214 => (if t214 = true then (some (wrap64 (rd l0 0), (⟨#[]⟩ : ByteArray), 0, 1, 0)) else (some (0, (⟨#[]⟩ : ByteArray), 0, 0, 2)))) else (if (wrap64 (rd l0 0)) = 5 then (if (l0.length : Int) < 2 then (some (0, (⟨#[]⟩ : ByteArray), 0, 0, 1)) else (if 1 < (l0.length : Int) then ((impl_FrameOk.f k (wrap64 (rd l0 0)) (⟨#[]⟩ : ByteArray) (wrap64 (rd l0 1))).bind fun t216 => (if t216 = true then (some (wrap64 (rd l0 0), (⟨#[]⟩ : ByteArray), wrap64 (rd l0 1), 2, 0)) else (some (0, (⟨#[]⟩ : ByteArray), 0, 0, 2)))) else (none))) else (if (wrap64 (rd l0 0)) = 1 then (impl_GetFrame.j0 k l0 1 ((wrap64 (rd l0 0)) == 1) (wrap64 (rd l0 0)) (⟨#[]⟩ : ByteArray) 0) else (if (wrap64 (rd l0 0)) = 2 then (impl_GetFrame.j0 k l0 1 ((wrap64 (rd l0 0)) == 2) (wrap64 (rd l0 0)) (⟨#[]⟩ : ByteArray) 0) else (if (wrap64 (rd l0 0)) = 4 then (impl_GetFrame.j0 k l0 1 ((wrap64 (rd l0 0)) == 4) (wrap64 (rd l0 0)) (⟨#[]⟩ : ByteArray) 0) else (impl_GetFrame.j0 k l0 1 ((wrap64 (rd l0 0)) == 6) (wrap64 (rd l0 0)) (⟨#[]⟩ : ByteArray) 0)))))) else (none))
theorem impl_GetFrame.mono_l : ∀ k, (∀ y0 y1 y2 y3 y4 y5, LeO (impl_GetFrame.j0 k y0 y1 y2 y3 y4 y5) (impl_GetFrame.j0 (k + 1) y0 y1 y2 y3 y4 y5))
 | 0 => fun _ _ _ _ _ _ r h => by simp [impl_GetFrame.j0] at h
 | k + 1 => by
  have ih0 := impl_GetFrame.mono_l k
  ·
   intro y0 y1 y2 y3 y4 y5
   unfold impl_GetFrame.j0
   repeat' first
   | (with_reducible exact ih0 _ _ _ _ _ _)
   | (with_reducible exact impl_FrameOk.mono _ _ _ _)
   | (with_reducible exact LeO.refl _)
   | (with_reducible exact LeO.none _)
   | (with_reducible refine LeO.ite ?_ ?_)
   | (with_reducible refine LeO.bind ?_ (fun _ => ?_))
   | exact ih0 _ _ _ _ _ _
   | exact impl_FrameOk.mono _ _ _ _
   | exact LeO.none _
   | refine LeO.ite ?_ ?_
   | refine LeO.bind ?_ (fun _ => ?_)
theorem impl_GetFrame.mono : ∀ a0 k, LeO (impl_GetFrame.f k a0) (impl_GetFrame.f (k + 1) a0) := by
 intro a0 k
 have ih0 := impl_GetFrame.mono_l k
 unfold impl_GetFrame.f
 repeat' first
   | (with_reducible exact ih0 _ _ _ _ _ _)
   | (with_reducible exact impl_FrameOk.mono _ _ _ _)
   | (with_reducible exact LeO.refl _)
   | (with_reducible exact LeO.none _)
   | (with_reducible refine LeO.ite ?_ ?_)
   | (with_reducible refine LeO.bind ?_ (fun _ => ?_))
   | exact ih0 _ _ _ _ _ _
   | exact impl_FrameOk.mono _ _ _ _
   | exact LeO.none _
   | refine LeO.ite ?_ ?_
   | refine LeO.bind ?_ (fun _ => ?_)
set_option maxHeartbeats 8000000 in
set_option maxRecDepth 100000 in
theorem impl_GetFrame.calls (k : Nat) (A0 : Option Addr) (c0 : Nat) (l0 : List Int) (r1 : Int) (r2 : ByteArray) (r3 : Int) (r4 : Int) (r5 : Int) (w : World) (hr0 : Kd.C (Kd.int .u8) w A0 l0.length l0) (hc0 : l0.length ≤ c0) (h : impl_GetFrame.f k l0 = some (r1, r2, r3, r4, r5)) :
  Calls Try.prog 117 #[.slice A0 l0.length c0] w fun e w' => e = .returned (.tuple #[.agg #[.int .i64 r1, .string r2, .int .i64 r3], .int .i64 r4, .int .i64 r5]) ∧ Below w.heap.size w w' := by
 have hu91 := Try.underlying91
 have HR0 := Aside0.mk hr0
 have HC0 := Aside0.mk hc0
 clear hr0 hc0
 have HB := Aside0.mk (Below.refl w.heap.size w)
 have H : (if (l0.length : Int) = 0 then (some (0, (⟨#[]⟩ : ByteArray), 0, 0, 1)) else (if 0 < (l0.length : Int) then (if (wrap64 (rd l0 0)) = 3 then ((impl_FrameOk.f k (wrap64 (rd l0 0)) (⟨#[]⟩ : ByteArray) 0).bind fun t214 => (if t214 = true then (some (wrap64 (rd l0 0), (⟨#[]⟩ : ByteArray), 0, 1, 0)) else (some (0, (⟨#[]⟩ : ByteArray), 0, 0, 2)))) else (if (wrap64 (rd l0 0)) = 5 then (if (l0.length : Int) < 2 then (some (0, (⟨#[]⟩ : ByteArray), 0, 0, 1)) else (if 1 < (l0.length : Int) then ((impl_FrameOk.f k (wrap64 (rd l0 0)) (⟨#[]⟩ : ByteArray) (wrap64 (rd l0 1))).bind fun t216 => (if t216 = true then (some (wrap64 (rd l0 0), (⟨#[]⟩ : ByteArray), wrap64 (rd l0 1), 2, 0)) else (some (0, (⟨#[]⟩ : ByteArray), 0, 0, 2)))) else (none))) else (if (wrap64 (rd l0 0)) = 1 then (impl_GetFrame.j0 k l0 1 ((wrap64 (rd l0 0)) == 1) (wrap64 (rd l0 0)) (⟨#[]⟩ : ByteArray) 0) else (if (wrap64 (rd l0 0)) = 2 then (impl_GetFrame.j0 k l0 1 ((wrap64 (rd l0 0)) == 2) (wrap64 (rd l0 0)) (⟨#[]⟩ : ByteArray) 0) else (if (wrap64 (rd l0 0)) = 4 then (impl_GetFrame.j0 k l0 1 ((wrap64 (rd l0 0)) == 4) (wrap64 (rd l0 0)) (⟨#[]⟩ : ByteArray) 0) else (impl_GetFrame.j0 k l0 1 ((wrap64 (rd l0 0)) == 6) (wrap64 (rd l0 0)) (⟨#[]⟩ : ByteArray) 0)))))) else (none))) = some (r1, r2, r3, r4, r5) := h
 clear h
 have HC2 := Aside0.mk H
 clear H
 go_enter Try.func117, Try.ntmps117
 go_upto_if 9 with (first | ((with_reducible refine gate_dst (N := 2) rfl ?_); refine box_event ?hg (N := 2) ?hd (cs := #[.int .i64 0, .string (⟨#[]⟩ : ByteArray), .int .i64 0]) (t := 91) ?hr ?_; (case hd => rfl); (case hg => rfl); (case hr => first | (go_simp; done) | (go_simp; rfl)); intro gb211 hg w3 hbox hb; have BK211 := am_ (hbox); have GW211 := am_ ((gG_ hg (qB HB))); have IGW211 := gI_ GW211; have GE211 := am_ ((gG_ hg (qB HB))); have IGE211 := gI_ GE211; replace HB := am_ (below_step (qB HB) hb); clear hb hbox hg))
 (try simp only [Act.put, List.setIfInBounds_toArray, List.set_cons_zero, List.set_cons_succ])
 have H := HC2.out
 clear HC2
 by_cases c4 : (l0.length : Int) = 0
 ·
  rw [if_pos c4] at H
  have c4b0 : ((l0.length : Int) == 0) = true := beq_iff_eq.mpr c4
  have c4b1 : ((l0.length : Int) != 0) = false := bne_eq_false_iff_eq.mpr c4
  clear c4
  (first | rw [c4b0] | rw [c4b1] | (simp only [i64_w, i32_w]; rw [c4b0]) | skip)
  simp only [Option.some.injEq, Prod.mk.injEq] at H
  obtain ⟨rfl, rfl, rfl, rfl, rfl⟩ := H
  obtain ⟨z5_0, z5_1, z5_2⟩ := cz3 BK211.out
  obtain ⟨f5_0, f5_1, f5_2⟩ := fz3 BK211.out
  go_wp2
  refine bodyPost_ret (results_ctt rfl _ _ gb211 91 #[.int .i64 0, .string (⟨#[]⟩ : ByteArray), .int .i64 0] (0, 0) _ rfl (by (with_reducible repeat (first | refine blk_drewN ?_ _ | refine blk_drew ?_ | refine blk_alloc ?_ _)); refine blk_put (cs := #[.int .i64 0, .string (⟨#[]⟩ : ByteArray), .int .i64 0]) ?_ 2 _ rfl; (with_reducible repeat (first | refine blk_drewN ?_ _ | refine blk_drew ?_ | refine blk_alloc ?_ _)); refine blk_put (cs := #[.int .i64 0, .string (⟨#[]⟩ : ByteArray), .int .i64 0]) ?_ 1 _ rfl; (with_reducible repeat (first | refine blk_drewN ?_ _ | refine blk_drew ?_ | refine blk_alloc ?_ _)); refine blk_put (cs := #[.int .i64 0, .string (⟨#[]⟩ : ByteArray), .int .i64 0]) ?_ 0 _ rfl; (with_reducible repeat (first | refine blk_drewN ?_ _ | refine blk_drew ?_ | refine blk_alloc ?_ _)); exact BK211.out) Try.underlying91 rfl (by kernel_rfl)) rfl ?_
  exact ⟨by first | rfl | (simp [errW_none, errW_some] <;> rfl) | (simp [*, errW_none, errW_some] <;> rfl), qB HB⟩
 ·
  rw [if_neg c4] at H
  have c4b0 : ((l0.length : Int) == 0) = false := beq_eq_false_iff_ne.mpr c4
  have c4b1 : ((l0.length : Int) != 0) = true := bne_iff_ne.mpr c4
  have c4b2 : ¬ (l0 = []) := fun h_ => c4 (by rw [h_]; rfl)
  (first | rw [c4b0] | rw [c4b1] | rw [c4b2] | (simp only [i64_w, i32_w]; rw [c4b0]) | skip)
  by_cases c6 : 0 < (l0.length : Int)
  ·
   rw [if_pos c6] at H
   have c6b0 : decide (0 < (l0.length : Int)) = true := decide_eq_true c6
   have c6b1 : decide (0 < l0.length) = true := decide_eq_true (by omega)
   clear c6
   have HC7 := Aside0.mk H
   clear H
   have p212 : 0 ≤ (0 : Int) := (by omega)
   have q212 : 0 < (l0.length : Int) := od_
   obtain ⟨ad212, e212, hx212_0⟩ := Kd.at_int HR0.out 0 p212 q212
   cases e212
   have qi212 : (0 < l0.length) = True := eq_true (by omega)
   (try rw [show ((0 : Int)).toNat = 0 from rfl] at hx212_0)
   (try rw [Addr.add_zero'] at hx212_0)
   replace hx212_0 := lb_ HB hx212_0
   replace p212 := eq_true p212
   replace q212 := eq_true q212
   go_upto_if 18 with (first | ((with_reducible refine gate_dst (N := 5) rfl ?_); refine box_event ?hg (N := 5) ?hd (cs := #[.int .i64 0, .string (⟨#[]⟩ : ByteArray), .int .i64 0]) (t := 91) ?hr ?_; (case hd => rfl); (case hg => rfl); (case hr => first | (go_simp; done) | (go_simp; rfl)); intro gb213 hg w8 hbox hb; have BK213 := am_ (hbox); have GW213 := am_ ((gG_ hg (qB HB))); have IGW213 := gI_ GW213; have GE213 := am_ ((gG_ hg (qB HB))); have IGE213 := gI_ GE213; replace HB := am_ (below_step (qB HB) hb); have NB211_213 := am_ ((gN_ hg (qK BK211))); have NB213_211 := am_ ((gM_ hg (qK BK211))); replace BK211 := am_ (blk_below (qK BK211) hb); clear hb hbox hg; have hnb9 := NB213_211.out; have hnc9 := NB211_213.out; obtain ⟨z10_0, z10_1, z10_2⟩ := cz3 BK213.out; obtain ⟨f10_0, f10_1, f10_2⟩ := fz3 BK213.out))
   (try simp only [Act.put, List.setIfInBounds_toArray, List.set_cons_zero, List.set_cons_succ])
   have n0_ : Aside0 ((((w8.setCell ⟨gb213, 0, none⟩ (.int .i64 (wrap64 (rd l0 0)))).setCell ⟨gb213, 1, none⟩ (.string (⟨#[]⟩ : ByteArray))).setCell ⟨gb213, 2, none⟩ (.int .i64 0)).heap[gb211]? = some (.cells #[.int .i64 0, .string (⟨#[]⟩ : ByteArray), .int .i64 0] 91 (0, 0))) := ⟨by (with_reducible repeat (first | refine blk_drewN ?_ _ | refine blk_drew ?_ | refine blk_alloc ?_ _)); refine Go.Proofs.YthmfmpmljndjhaaV.blk_far3 ?_ NB211_213.out; (with_reducible repeat (first | refine blk_drewN ?_ _ | refine blk_drew ?_ | refine blk_alloc ?_ _)); exact BK211.out⟩
   have n1_ : Aside0 ((((w8.setCell ⟨gb213, 0, none⟩ (.int .i64 (wrap64 (rd l0 0)))).setCell ⟨gb213, 1, none⟩ (.string (⟨#[]⟩ : ByteArray))).setCell ⟨gb213, 2, none⟩ (.int .i64 0)).heap[gb213]? = some (.cells #[.int .i64 (wrap64 (rd l0 0)), .string (⟨#[]⟩ : ByteArray), .int .i64 0] 91 (0, 0))) := ⟨by (with_reducible repeat (first | refine blk_drewN ?_ _ | refine blk_drew ?_ | refine blk_alloc ?_ _)); refine Go.Proofs.YthmfmpmljndjhaaV.blk_all3 (show _ = some (Go.Obj.cells #[.int .i64 0, .string (⟨#[]⟩ : ByteArray), .int .i64 0] _ (0, 0)) from ?_); (with_reducible repeat (first | refine blk_drewN ?_ _ | refine blk_drew ?_ | refine blk_alloc ?_ _)); exact BK213.out⟩
   have n2_ : Aside0 (Below w.heap.size w (((w8.setCell ⟨gb213, 0, none⟩ (.int .i64 (wrap64 (rd l0 0)))).setCell ⟨gb213, 1, none⟩ (.string (⟨#[]⟩ : ByteArray))).setCell ⟨gb213, 2, none⟩ (.int .i64 0))) := ⟨qB HB⟩
   (try clear BK211)
   (try clear BK213)
   (try clear HB)
   generalize (((w8.setCell ⟨gb213, 0, none⟩ (.int .i64 (wrap64 (rd l0 0)))).setCell ⟨gb213, 1, none⟩ (.string (⟨#[]⟩ : ByteArray))).setCell ⟨gb213, 2, none⟩ (.int .i64 0)) = w11 at n0_ n1_ n2_ ⊢
   have BK211 := n0_
   have BK213 := n1_
   have HB := n2_
   clear n0_ n1_ n2_
   have H := HC7.out
   clear HC7
   by_cases c12 : (wrap64 (rd l0 0)) = 3
   ·
    rw [if_pos c12] at H
    have c12b0 : ((wrap64 (rd l0 0)) == 3) = true := beq_iff_eq.mpr c12
    have c12b1 : ((wrap64 (rd l0 0)) != 3) = false := bne_eq_false_iff_eq.mpr c12
    clear c12
    (first | rw [c12b0] | rw [c12b1] | (simp only [i64_w, i32_w]; rw [c12b0]) | skip)
    obtain ⟨t214, A13, H⟩ := bd_ H
    have HC14 := Aside0.mk H
    clear H
    have hnb15 := NB213_211.out
    have hnc15 := NB211_213.out
    obtain ⟨z16_0, z16_1, z16_2⟩ := cz3 BK213.out
    obtain ⟨f16_0, f16_1, f16_2⟩ := fz3 BK213.out
    go_upto_if 70 with (first | ((with_reducible refine gate_callee (f := 125) rfl ?_); refine goesL_ (some 69) rfl rfl Try.func125 (by kernel_rfl) rfl #[.agg #[.int .i64 (wrap64 (rd l0 0)), .string (⟨#[]⟩ : ByteArray), .int .i64 0]] rfl la_ ?_; (with_reducible refine (impl_FrameOk.calls k (wrap64 (rd l0 0)) (⟨#[]⟩ : ByteArray) 0 t214 _ A13.out).mono ?_); rintro e w17 ⟨rfl, hb⟩; refine ⟨_, rfl, ?_⟩; replace BK211 := am_ (blk_below (qK BK211) hb); replace BK213 := am_ (blk_below (qK BK213) hb); replace HB := am_ (below_step (qB HB) hb); (try clear hb); (try clear hb2); (try clear hk); (try clear hi)))
    (try simp only [Act.put, List.setIfInBounds_toArray, List.set_cons_zero, List.set_cons_succ])
    have H := HC14.out
    clear HC14
    by_cases c18 : t214 = true
    ·
     subst c18
     rw [if_pos rfl] at H
     simp only [Option.some.injEq, Prod.mk.injEq] at H
     obtain ⟨rfl, rfl, rfl, rfl, rfl⟩ := H
     have hnb19 := NB213_211.out
     have hnc19 := NB211_213.out
     obtain ⟨z20_0, z20_1, z20_2⟩ := cz3 BK213.out
     obtain ⟨f20_0, f20_1, f20_2⟩ := fz3 BK213.out
     obtain ⟨z21_0, z21_1, z21_2⟩ := cz3 BK211.out
     obtain ⟨f21_0, f21_1, f21_2⟩ := fz3 BK211.out
     go_wp2
     refine bodyPost_ret (results_ctt rfl _ _ gb211 91 #[.int .i64 (wrap64 (rd l0 0)), .string (⟨#[]⟩ : ByteArray), .int .i64 0] (0, 0) _ rfl (by (with_reducible repeat (first | refine blk_drewN ?_ _ | refine blk_drew ?_ | refine blk_alloc ?_ _)); refine blk_put (cs := #[.int .i64 (wrap64 (rd l0 0)), .string (⟨#[]⟩ : ByteArray), .int .i64 0]) ?_ 2 _ rfl; (with_reducible repeat (first | refine blk_drewN ?_ _ | refine blk_drew ?_ | refine blk_alloc ?_ _)); refine blk_put (cs := #[.int .i64 (wrap64 (rd l0 0)), .string (⟨#[]⟩ : ByteArray), .int .i64 0]) ?_ 1 _ rfl; (with_reducible repeat (first | refine blk_drewN ?_ _ | refine blk_drew ?_ | refine blk_alloc ?_ _)); refine blk_put (cs := #[.int .i64 0, .string (⟨#[]⟩ : ByteArray), .int .i64 0]) ?_ 0 _ rfl; (with_reducible repeat (first | refine blk_drewN ?_ _ | refine blk_drew ?_ | refine blk_alloc ?_ _)); exact BK211.out) Try.underlying91 rfl (by kernel_rfl)) rfl ?_
     exact ⟨by first | rfl | (simp [errW_none, errW_some] <;> rfl) | (simp [*, errW_none, errW_some] <;> rfl), qB HB⟩
    ·
     replace c18 := Bool.eq_false_iff.mpr c18
     subst c18
     rw [if_neg (show ¬ (false = true) by decide)] at H
     simp only [Option.some.injEq, Prod.mk.injEq] at H
     obtain ⟨rfl, rfl, rfl, rfl, rfl⟩ := H
     have hnb22 := NB211_213.out
     have hnc22 := NB213_211.out
     obtain ⟨z23_0, z23_1, z23_2⟩ := cz3 BK211.out
     obtain ⟨f23_0, f23_1, f23_2⟩ := fz3 BK211.out
     go_wp2
     refine bodyPost_ret (results_ctt rfl _ _ gb211 91 #[.int .i64 0, .string (⟨#[]⟩ : ByteArray), .int .i64 0] (0, 0) _ rfl (by (with_reducible repeat (first | refine blk_drewN ?_ _ | refine blk_drew ?_ | refine blk_alloc ?_ _)); refine blk_put (cs := #[.int .i64 0, .string (⟨#[]⟩ : ByteArray), .int .i64 0]) ?_ 2 _ rfl; (with_reducible repeat (first | refine blk_drewN ?_ _ | refine blk_drew ?_ | refine blk_alloc ?_ _)); refine blk_put (cs := #[.int .i64 0, .string (⟨#[]⟩ : ByteArray), .int .i64 0]) ?_ 1 _ rfl; (with_reducible repeat (first | refine blk_drewN ?_ _ | refine blk_drew ?_ | refine blk_alloc ?_ _)); refine blk_put (cs := #[.int .i64 0, .string (⟨#[]⟩ : ByteArray), .int .i64 0]) ?_ 0 _ rfl; (with_reducible repeat (first | refine blk_drewN ?_ _ | refine blk_drew ?_ | refine blk_alloc ?_ _)); exact BK211.out) Try.underlying91 rfl (by kernel_rfl)) rfl ?_
     exact ⟨by first | rfl | (simp [errW_none, errW_some] <;> rfl) | (simp [*, errW_none, errW_some] <;> rfl), qB HB⟩
   ·
    rw [if_neg c12] at H
    have c12b0 : ((wrap64 (rd l0 0)) == 3) = false := beq_eq_false_iff_ne.mpr c12
    have c12b1 : ((wrap64 (rd l0 0)) != 3) = true := bne_iff_ne.mpr c12
    (first | rw [c12b0] | rw [c12b1] | (simp only [i64_w, i32_w]; rw [c12b0]) | skip)
    by_cases c24 : (wrap64 (rd l0 0)) = 5
    ·
     rw [if_pos c24] at H
     have c24b0 : ((wrap64 (rd l0 0)) == 5) = true := beq_iff_eq.mpr c24
     have c24b1 : ((wrap64 (rd l0 0)) != 5) = false := bne_eq_false_iff_eq.mpr c24
     clear c24
     by_cases c25 : (l0.length : Int) < 2
     ·
      rw [if_pos c25] at H
      have c25b0 : decide ((l0.length : Int) < 2) = true := decide_eq_true c25
      have c25b1 : decide (l0.length < 2) = true := decide_eq_true (by omega)
      clear c25
      simp only [Option.some.injEq, Prod.mk.injEq] at H
      obtain ⟨rfl, rfl, rfl, rfl, rfl⟩ := H
      have hnb26 := NB211_213.out
      have hnc26 := NB213_211.out
      obtain ⟨z27_0, z27_1, z27_2⟩ := cz3 BK211.out
      obtain ⟨f27_0, f27_1, f27_2⟩ := fz3 BK211.out
      go_wp2
      refine bodyPost_ret (results_ctt rfl _ _ gb211 91 #[.int .i64 0, .string (⟨#[]⟩ : ByteArray), .int .i64 0] (0, 0) _ rfl (by (with_reducible repeat (first | refine blk_drewN ?_ _ | refine blk_drew ?_ | refine blk_alloc ?_ _)); refine blk_put (cs := #[.int .i64 0, .string (⟨#[]⟩ : ByteArray), .int .i64 0]) ?_ 2 _ rfl; (with_reducible repeat (first | refine blk_drewN ?_ _ | refine blk_drew ?_ | refine blk_alloc ?_ _)); refine blk_put (cs := #[.int .i64 0, .string (⟨#[]⟩ : ByteArray), .int .i64 0]) ?_ 1 _ rfl; (with_reducible repeat (first | refine blk_drewN ?_ _ | refine blk_drew ?_ | refine blk_alloc ?_ _)); refine blk_put (cs := #[.int .i64 0, .string (⟨#[]⟩ : ByteArray), .int .i64 0]) ?_ 0 _ rfl; (with_reducible repeat (first | refine blk_drewN ?_ _ | refine blk_drew ?_ | refine blk_alloc ?_ _)); exact BK211.out) Try.underlying91 rfl (by kernel_rfl)) rfl ?_
      exact ⟨by first | rfl | (simp [errW_none, errW_some] <;> rfl) | (simp [*, errW_none, errW_some] <;> rfl), qB HB⟩
     ·
      rw [if_neg c25] at H
      have c25b0 : decide ((l0.length : Int) < 2) = false := decide_eq_false c25
      have c25b1 : decide (l0.length < 2) = false := decide_eq_false (by omega)
      clear c25
      by_cases c28 : 1 < (l0.length : Int)
      ·
       rw [if_pos c28] at H
       have c28b0 : decide (1 < (l0.length : Int)) = true := decide_eq_true c28
       have c28b1 : decide (1 < l0.length) = true := decide_eq_true (by omega)
       clear c28
       obtain ⟨t216, A29, H⟩ := bd_ H
       have HC30 := Aside0.mk H
       clear H
       have p215 : 0 ≤ (1 : Int) := (by omega)
       have q215 : 1 < (l0.length : Int) := od_
       obtain ⟨ad215, e215, hx215_0⟩ := Kd.at_int HR0.out 1 p215 q215
       obtain rfl : ad212 = ad215 := (by injection e215)
       (try simp only [show (1 : Int).toNat = 1 from rfl, Nat.reduceMul, Nat.reduceEqDiff, Go.Addr.add, ↓reduceIte] at hx215_0)
       have qi215 : (1 < l0.length) = True := eq_true (by omega)
       (try rw [show ((1 : Int)).toNat = 1 from rfl] at hx215_0)
       replace hx215_0 := lb_ HB hx215_0
       replace p215 := eq_true p215
       replace q215 := eq_true q215
       have hnb31 := NB213_211.out
       have hnc31 := NB211_213.out
       obtain ⟨z32_0, z32_1, z32_2⟩ := cz3 BK213.out
       obtain ⟨f32_0, f32_1, f32_2⟩ := fz3 BK213.out
       go_upto_if 70 with (first | ((with_reducible refine gate_callee (f := 125) rfl ?_); refine goesL_ (some 69) rfl rfl Try.func125 (by kernel_rfl) rfl #[.agg #[.int .i64 (wrap64 (rd l0 0)), .string (⟨#[]⟩ : ByteArray), .int .i64 (wrap64 (rd l0 1))]] rfl la_ ?_; (with_reducible refine (impl_FrameOk.calls k (wrap64 (rd l0 0)) (⟨#[]⟩ : ByteArray) (wrap64 (rd l0 1)) t216 _ A29.out).mono ?_); rintro e w33 ⟨rfl, hb⟩; refine ⟨_, rfl, ?_⟩; replace BK211 := am_ (blk_below (g := gb211) (o := .cells #[.int .i64 0, .string (⟨#[]⟩ : ByteArray), .int .i64 0] 91 (0, 0)) (by (with_reducible repeat (first | refine blk_drewN ?_ _ | refine blk_drew ?_ | refine blk_alloc ?_ _)); refine blk_far ?_ NB211_213.out _; (with_reducible repeat (first | refine blk_drewN ?_ _ | refine blk_drew ?_ | refine blk_alloc ?_ _)); exact BK211.out) hb); replace BK213 := am_ (blk_below (g := gb213) (o := .cells #[.int .i64 (wrap64 (rd l0 0)), .string (⟨#[]⟩ : ByteArray), .int .i64 (wrap64 (rd l0 1))] 91 (0, 0)) (by (with_reducible repeat (first | refine blk_drewN ?_ _ | refine blk_drew ?_ | refine blk_alloc ?_ _)); refine blk_put (cs := #[.int .i64 (wrap64 (rd l0 0)), .string (⟨#[]⟩ : ByteArray), .int .i64 0]) ?_ 2 _ rfl; (with_reducible repeat (first | refine blk_drewN ?_ _ | refine blk_drew ?_ | refine blk_alloc ?_ _)); exact BK213.out) hb); replace HB := am_ (below_step (qB HB) hb); (try clear hb); (try clear hb2); (try clear hk); (try clear hi)))
       (try simp only [Act.put, List.setIfInBounds_toArray, List.set_cons_zero, List.set_cons_succ])
       have H := HC30.out
       clear HC30
       by_cases c34 : t216 = true
       ·
        subst c34
        rw [if_pos rfl] at H
        simp only [Option.some.injEq, Prod.mk.injEq] at H
        obtain ⟨rfl, rfl, rfl, rfl, rfl⟩ := H
        have hnb35 := NB213_211.out
        have hnc35 := NB211_213.out
        obtain ⟨z36_0, z36_1, z36_2⟩ := cz3 BK213.out
        obtain ⟨f36_0, f36_1, f36_2⟩ := fz3 BK213.out
        obtain ⟨z37_0, z37_1, z37_2⟩ := cz3 BK211.out
        obtain ⟨f37_0, f37_1, f37_2⟩ := fz3 BK211.out
        go_wp2
        refine bodyPost_ret (results_ctt rfl _ _ gb211 91 #[.int .i64 (wrap64 (rd l0 0)), .string (⟨#[]⟩ : ByteArray), .int .i64 (wrap64 (rd l0 1))] (0, 0) _ rfl (by (with_reducible repeat (first | refine blk_drewN ?_ _ | refine blk_drew ?_ | refine blk_alloc ?_ _)); refine blk_put (cs := #[.int .i64 (wrap64 (rd l0 0)), .string (⟨#[]⟩ : ByteArray), .int .i64 0]) ?_ 2 _ rfl; (with_reducible repeat (first | refine blk_drewN ?_ _ | refine blk_drew ?_ | refine blk_alloc ?_ _)); refine blk_put (cs := #[.int .i64 (wrap64 (rd l0 0)), .string (⟨#[]⟩ : ByteArray), .int .i64 0]) ?_ 1 _ rfl; (with_reducible repeat (first | refine blk_drewN ?_ _ | refine blk_drew ?_ | refine blk_alloc ?_ _)); refine blk_put (cs := #[.int .i64 0, .string (⟨#[]⟩ : ByteArray), .int .i64 0]) ?_ 0 _ rfl; (with_reducible repeat (first | refine blk_drewN ?_ _ | refine blk_drew ?_ | refine blk_alloc ?_ _)); exact BK211.out) Try.underlying91 rfl (by kernel_rfl)) rfl ?_
        exact ⟨by first | rfl | (simp [errW_none, errW_some] <;> rfl) | (simp [*, errW_none, errW_some] <;> rfl), qB HB⟩
       ·
        replace c34 := Bool.eq_false_iff.mpr c34
        subst c34
        rw [if_neg (show ¬ (false = true) by decide)] at H
        simp only [Option.some.injEq, Prod.mk.injEq] at H
        obtain ⟨rfl, rfl, rfl, rfl, rfl⟩ := H
        have hnb38 := NB211_213.out
        have hnc38 := NB213_211.out
        obtain ⟨z39_0, z39_1, z39_2⟩ := cz3 BK211.out
        obtain ⟨f39_0, f39_1, f39_2⟩ := fz3 BK211.out
        go_wp2
        refine bodyPost_ret (results_ctt rfl _ _ gb211 91 #[.int .i64 0, .string (⟨#[]⟩ : ByteArray), .int .i64 0] (0, 0) _ rfl (by (with_reducible repeat (first | refine blk_drewN ?_ _ | refine blk_drew ?_ | refine blk_alloc ?_ _)); refine blk_put (cs := #[.int .i64 0, .string (⟨#[]⟩ : ByteArray), .int .i64 0]) ?_ 2 _ rfl; (with_reducible repeat (first | refine blk_drewN ?_ _ | refine blk_drew ?_ | refine blk_alloc ?_ _)); refine blk_put (cs := #[.int .i64 0, .string (⟨#[]⟩ : ByteArray), .int .i64 0]) ?_ 1 _ rfl; (with_reducible repeat (first | refine blk_drewN ?_ _ | refine blk_drew ?_ | refine blk_alloc ?_ _)); refine blk_put (cs := #[.int .i64 0, .string (⟨#[]⟩ : ByteArray), .int .i64 0]) ?_ 0 _ rfl; (with_reducible repeat (first | refine blk_drewN ?_ _ | refine blk_drew ?_ | refine blk_alloc ?_ _)); exact BK211.out) Try.underlying91 rfl (by kernel_rfl)) rfl ?_
        exact ⟨by first | rfl | (simp [errW_none, errW_some] <;> rfl) | (simp [*, errW_none, errW_some] <;> rfl), qB HB⟩
      ·
       rw [if_neg c28] at H
       exact absurd H (by simp)
    ·
     rw [if_neg c24] at H
     have c24b0 : ((wrap64 (rd l0 0)) == 5) = false := beq_eq_false_iff_ne.mpr c24
     have c24b1 : ((wrap64 (rd l0 0)) != 5) = true := bne_iff_ne.mpr c24
     have HC40 := Aside0.mk H
     clear H
     go_upto_if 31 with (fail)
     go_cut [31] (fun v31 wc => ∃ (kq : Nat) (x31_39 : Bool), v31 = .bool x31_39 ∧ Aside0 (impl_GetFrame.j0 kq l0 1 x31_39 (wrap64 (rd l0 0)) (⟨#[]⟩ : ByteArray) 0 = some (r1, r2, r3, r4, r5)) ∧ Aside0 (kq ≤ k) ∧ Aside0 (wc.heap[gb211]? = some (.cells #[.int .i64 0, .string (⟨#[]⟩ : ByteArray), .int .i64 0] 91 (0, 0))) ∧ Aside0 (wc.heap[gb213]? = some (.cells #[.int .i64 (wrap64 (rd l0 0)), .string (⟨#[]⟩ : ByteArray), .int .i64 0] 91 (0, 0))) ∧ Aside0 (Below w.heap.size w wc))
     case first =>
      have H := HC40.out
      clear HC40
      by_cases c41 : (wrap64 (rd l0 0)) = 1
      ·
       rw [if_pos c41] at H
       have c41b0 : ((wrap64 (rd l0 0)) == 1) = true := beq_iff_eq.mpr c41
       have c41b1 : ((wrap64 (rd l0 0)) != 1) = false := bne_eq_false_iff_eq.mpr c41
       clear c41
       (first | rw [c41b0] | rw [c41b1] | (simp only [i64_w, i32_w]; rw [c41b0]) | skip)
       have H' := Aside0.mk H
       clear H
       go_wp2
       go_meet
       case rel => exact ⟨_, (((wrap64 (rd l0 0)) == 1)), eqq_, H', ⟨by first | omega | exact Nat.le_refl _⟩, ⟨qK BK211⟩, ⟨qK BK213⟩, ⟨qB HB⟩⟩
      ·
       rw [if_neg c41] at H
       have c41b0 : ((wrap64 (rd l0 0)) == 1) = false := beq_eq_false_iff_ne.mpr c41
       have c41b1 : ((wrap64 (rd l0 0)) != 1) = true := bne_iff_ne.mpr c41
       (first | rw [c41b0] | rw [c41b1] | (simp only [i64_w, i32_w]; rw [c41b0]) | skip)
       by_cases c42 : (wrap64 (rd l0 0)) = 2
       ·
        rw [if_pos c42] at H
        have c42b0 : ((wrap64 (rd l0 0)) == 2) = true := beq_iff_eq.mpr c42
        have c42b1 : ((wrap64 (rd l0 0)) != 2) = false := bne_eq_false_iff_eq.mpr c42
        clear c42
        have H' := Aside0.mk H
        clear H
        go_wp2
        go_meet
        case rel => exact ⟨_, (((wrap64 (rd l0 0)) == 2)), eqq_, H', ⟨by first | omega | exact Nat.le_refl _⟩, ⟨qK BK211⟩, ⟨qK BK213⟩, ⟨qB HB⟩⟩
       ·
        rw [if_neg c42] at H
        have c42b0 : ((wrap64 (rd l0 0)) == 2) = false := beq_eq_false_iff_ne.mpr c42
        have c42b1 : ((wrap64 (rd l0 0)) != 2) = true := bne_iff_ne.mpr c42
        by_cases c43 : (wrap64 (rd l0 0)) = 4
        ·
         rw [if_pos c43] at H
         have c43b0 : ((wrap64 (rd l0 0)) == 4) = true := beq_iff_eq.mpr c43
         have c43b1 : ((wrap64 (rd l0 0)) != 4) = false := bne_eq_false_iff_eq.mpr c43
         clear c43
         have H' := Aside0.mk H
         clear H
         go_wp2
         go_meet
         case rel => exact ⟨_, (((wrap64 (rd l0 0)) == 4)), eqq_, H', ⟨by first | omega | exact Nat.le_refl _⟩, ⟨qK BK211⟩, ⟨qK BK213⟩, ⟨qB HB⟩⟩
        ·
         rw [if_neg c43] at H
         have c43b0 : ((wrap64 (rd l0 0)) == 4) = false := beq_eq_false_iff_ne.mpr c43
         have c43b1 : ((wrap64 (rd l0 0)) != 4) = true := bne_iff_ne.mpr c43
         have H' := Aside0.mk H
         clear H
         go_wp2
         go_meet
         case rel => exact ⟨_, (((wrap64 (rd l0 0)) == 6)), eqq_, H', ⟨by first | omega | exact Nat.le_refl _⟩, ⟨qK BK211⟩, ⟨qK BK213⟩, ⟨qB HB⟩⟩
     case rest =>
      clear HC40
      try clear c1
      try clear c2
      try clear p2
      try clear q2
      try clear hx2
      try clear qi2
      try clear c3
      try clear c4
      try clear c4b0
      try clear c4b1
      try clear c4b2
      try clear c6
      try clear c6b0
      try clear c6b1
      try clear p6
      try clear c9
      try clear c11
      try clear c12
      try clear c12b0
      try clear c12b1
      try clear c15
      try clear c18
      try clear c19
      try clear p21
      try clear q21
      try clear hx21
      try clear qi21
      try clear c22
      try clear c24
      try clear c24b0
      try clear c24b1
      try clear c25
      try clear c25b0
      try clear c25b1
      try clear c26
      try clear c28
      try clear c28b0
      try clear c28b1
      try clear c31
      try clear c34
      try clear c35
      try clear c38
      try clear c41
      try clear c41b0
      try clear c41b1
      try clear c42
      try clear c42b0
      try clear c42b1
      try clear c43
      try clear c43b0
      try clear c43b1
      (try clear z10_0 z10_1 z10_2)
      (try clear z16_0 z16_1 z16_2)
      (try clear z20_0 z20_1 z20_2)
      (try clear z21_0 z21_1 z21_2)
      (try clear z23_0 z23_1 z23_2)
      (try clear z27_0 z27_1 z27_2)
      (try clear z32_0 z32_1 z32_2)
      (try clear z36_0 z36_1 z36_2)
      (try clear z37_0 z37_1 z37_2)
      (try clear z39_0 z39_1 z39_2)
      (try clear z5_0 z5_1 z5_2)
      (try clear f10_0 f10_1 f10_2)
      (try clear f16_0 f16_1 f16_2)
      (try clear f20_0 f20_1 f20_2)
      (try clear f21_0 f21_1 f21_2)
      (try clear f23_0 f23_1 f23_2)
      (try clear f27_0 f27_1 f27_2)
      (try clear f32_0 f32_1 f32_2)
      (try clear f36_0 f36_1 f36_2)
      (try clear f37_0 f37_1 f37_2)
      (try clear f39_0 f39_1 f39_2)
      (try clear f5_0 f5_1 f5_2)
      try clear hx212_0
      try clear hx215_0
      try clear p212
      try clear p215
      try clear q212
      try clear q215
      obtain ⟨kq, x31_39, rfl, HA, HJ39, BK211, BK213, HB⟩ := hcut
      cases kq with
      | zero => exact absurd HA.out (by simp [impl_GetFrame.j0])
      | succ kj39 =>
       have H := HA.out
       clear HA
       simp only [impl_GetFrame.j0] at H
       by_cases c44 : x31_39 = true
       ·
        subst c44
        rw [if_pos rfl] at H
        by_cases c45 : (l0.length : Int) < 2
        ·
         rw [if_pos c45] at H
         have c45b0 : decide ((l0.length : Int) < 2) = true := decide_eq_true c45
         have c45b1 : decide (l0.length < 2) = true := decide_eq_true (by omega)
         clear c45
         simp only [Option.some.injEq, Prod.mk.injEq] at H
         obtain ⟨rfl, rfl, rfl, rfl, rfl⟩ := H
         have hnb46 := NB211_213.out
         have hnc46 := NB213_211.out
         obtain ⟨z47_0, z47_1, z47_2⟩ := cz3 BK211.out
         obtain ⟨f47_0, f47_1, f47_2⟩ := fz3 BK211.out
         go_wp2
         refine bodyPost_ret (results_ctt rfl _ _ gb211 91 #[.int .i64 0, .string (⟨#[]⟩ : ByteArray), .int .i64 0] (0, 0) _ rfl (by (with_reducible repeat (first | refine blk_drewN ?_ _ | refine blk_drew ?_ | refine blk_alloc ?_ _)); refine blk_put (cs := #[.int .i64 0, .string (⟨#[]⟩ : ByteArray), .int .i64 0]) ?_ 2 _ rfl; (with_reducible repeat (first | refine blk_drewN ?_ _ | refine blk_drew ?_ | refine blk_alloc ?_ _)); refine blk_put (cs := #[.int .i64 0, .string (⟨#[]⟩ : ByteArray), .int .i64 0]) ?_ 1 _ rfl; (with_reducible repeat (first | refine blk_drewN ?_ _ | refine blk_drew ?_ | refine blk_alloc ?_ _)); refine blk_put (cs := #[.int .i64 0, .string (⟨#[]⟩ : ByteArray), .int .i64 0]) ?_ 0 _ rfl; (with_reducible repeat (first | refine blk_drewN ?_ _ | refine blk_drew ?_ | refine blk_alloc ?_ _)); exact BK211.out) Try.underlying91 rfl (by kernel_rfl)) rfl ?_
         exact ⟨by first | rfl | (simp [errW_none, errW_some] <;> rfl) | (simp [*, errW_none, errW_some] <;> rfl), qB HB⟩
        ·
         rw [if_neg c45] at H
         have c45b0 : decide ((l0.length : Int) < 2) = false := decide_eq_false c45
         have c45b1 : decide (l0.length < 2) = false := decide_eq_false (by omega)
         clear c45
         by_cases c48 : 1 < (l0.length : Int)
         ·
          rw [if_pos c48] at H
          have c48b0 : decide (1 < (l0.length : Int)) = true := decide_eq_true c48
          have c48b1 : decide (1 < l0.length) = true := decide_eq_true (by omega)
          clear c48
          by_cases c49 : (wrap64 (rd l0 1)) > 100
          ·
           rw [if_pos c49] at H
           have c49b0 : decide (100 < (wrap64 (rd l0 1))) = true := decide_eq_true c49
           clear c49
           simp only [Option.some.injEq, Prod.mk.injEq] at H
           obtain ⟨rfl, rfl, rfl, rfl, rfl⟩ := H
           have p217 : 0 ≤ (1 : Int) := (by omega)
           have q217 : 1 < (l0.length : Int) := od_
           obtain ⟨ad217, e217, hx217_0⟩ := Kd.at_int HR0.out 1 p217 q217
           obtain rfl : ad212 = ad217 := (by injection e217)
           (try simp only [show (1 : Int).toNat = 1 from rfl, Nat.reduceMul, Nat.reduceEqDiff, Go.Addr.add, ↓reduceIte] at hx217_0)
           have qi217 : (1 < l0.length) = True := eq_true (by omega)
           (try rw [show ((1 : Int)).toNat = 1 from rfl] at hx217_0)
           replace hx217_0 := lb_ HB hx217_0
           replace p217 := eq_true p217
           replace q217 := eq_true q217
           have hnb50 := NB211_213.out
           have hnc50 := NB213_211.out
           obtain ⟨z51_0, z51_1, z51_2⟩ := cz3 BK211.out
           obtain ⟨f51_0, f51_1, f51_2⟩ := fz3 BK211.out
           go_wp2
           refine bodyPost_ret (results_ctt rfl _ _ gb211 91 #[.int .i64 0, .string (⟨#[]⟩ : ByteArray), .int .i64 0] (0, 0) _ rfl (by (with_reducible repeat (first | refine blk_drewN ?_ _ | refine blk_drew ?_ | refine blk_alloc ?_ _)); refine blk_put (cs := #[.int .i64 0, .string (⟨#[]⟩ : ByteArray), .int .i64 0]) ?_ 2 _ rfl; (with_reducible repeat (first | refine blk_drewN ?_ _ | refine blk_drew ?_ | refine blk_alloc ?_ _)); refine blk_put (cs := #[.int .i64 0, .string (⟨#[]⟩ : ByteArray), .int .i64 0]) ?_ 1 _ rfl; (with_reducible repeat (first | refine blk_drewN ?_ _ | refine blk_drew ?_ | refine blk_alloc ?_ _)); refine blk_put (cs := #[.int .i64 0, .string (⟨#[]⟩ : ByteArray), .int .i64 0]) ?_ 0 _ rfl; (with_reducible repeat (first | refine blk_drewN ?_ _ | refine blk_drew ?_ | refine blk_alloc ?_ _)); exact BK211.out) Try.underlying91 rfl (by kernel_rfl)) rfl ?_
           exact ⟨by first | rfl | (simp [errW_none, errW_some] <;> rfl) | (simp [*, errW_none, errW_some] <;> rfl), qB HB⟩
          ·
           rw [if_neg c49] at H
           have c49b0 : decide (100 < (wrap64 (rd l0 1))) = false := decide_eq_false c49
           clear c49
           by_cases c52 : (l0.length : Int) < (wrap64 (2 + (wrap64 (rd l0 1))))
           ·
            rw [if_pos c52] at H
            have c52b0 : decide ((l0.length : Int) < (wrap64 (2 + (wrap64 (rd l0 1))))) = true := decide_eq_true c52
            clear c52
            simp only [Option.some.injEq, Prod.mk.injEq] at H
            obtain ⟨rfl, rfl, rfl, rfl, rfl⟩ := H
            have p217 : 0 ≤ (1 : Int) := (by omega)
            have q217 : 1 < (l0.length : Int) := od_
            obtain ⟨ad217, e217, hx217_0⟩ := Kd.at_int HR0.out 1 p217 q217
            obtain rfl : ad212 = ad217 := (by injection e217)
            (try simp only [show (1 : Int).toNat = 1 from rfl, Nat.reduceMul, Nat.reduceEqDiff, Go.Addr.add, ↓reduceIte] at hx217_0)
            have qi217 : (1 < l0.length) = True := eq_true (by omega)
            (try rw [show ((1 : Int)).toNat = 1 from rfl] at hx217_0)
            replace hx217_0 := lb_ HB hx217_0
            replace p217 := eq_true p217
            replace q217 := eq_true q217
            have p218 : 0 ≤ (1 : Int) := (by omega)
            have q218 : 1 < (l0.length : Int) := od_
            obtain ⟨ad218, e218, hx218_0⟩ := Kd.at_int HR0.out 1 p218 q218
            obtain rfl : ad212 = ad218 := (by injection e218)
            (try simp only [show (1 : Int).toNat = 1 from rfl, Nat.reduceMul, Nat.reduceEqDiff, Go.Addr.add, ↓reduceIte] at hx218_0)
            have qi218 : (1 < l0.length) = True := eq_true (by omega)
            (try rw [show ((1 : Int)).toNat = 1 from rfl] at hx218_0)
            replace hx218_0 := lb_ HB hx218_0
            replace p218 := eq_true p218
            replace q218 := eq_true q218
            have hnb53 := NB211_213.out
            have hnc53 := NB213_211.out
            obtain ⟨z54_0, z54_1, z54_2⟩ := cz3 BK211.out
            obtain ⟨f54_0, f54_1, f54_2⟩ := fz3 BK211.out
            go_wp2
            refine bodyPost_ret (results_ctt rfl _ _ gb211 91 #[.int .i64 0, .string (⟨#[]⟩ : ByteArray), .int .i64 0] (0, 0) _ rfl (by (with_reducible repeat (first | refine blk_drewN ?_ _ | refine blk_drew ?_ | refine blk_alloc ?_ _)); refine blk_put (cs := #[.int .i64 0, .string (⟨#[]⟩ : ByteArray), .int .i64 0]) ?_ 2 _ rfl; (with_reducible repeat (first | refine blk_drewN ?_ _ | refine blk_drew ?_ | refine blk_alloc ?_ _)); refine blk_put (cs := #[.int .i64 0, .string (⟨#[]⟩ : ByteArray), .int .i64 0]) ?_ 1 _ rfl; (with_reducible repeat (first | refine blk_drewN ?_ _ | refine blk_drew ?_ | refine blk_alloc ?_ _)); refine blk_put (cs := #[.int .i64 0, .string (⟨#[]⟩ : ByteArray), .int .i64 0]) ?_ 0 _ rfl; (with_reducible repeat (first | refine blk_drewN ?_ _ | refine blk_drew ?_ | refine blk_alloc ?_ _)); exact BK211.out) Try.underlying91 rfl (by kernel_rfl)) rfl ?_
            exact ⟨by first | rfl | (simp [errW_none, errW_some] <;> rfl) | (simp [*, errW_none, errW_some] <;> rfl), qB HB⟩
           ·
            rw [if_neg c52] at H
            have c52b0 : decide ((l0.length : Int) < (wrap64 (2 + (wrap64 (rd l0 1))))) = false := decide_eq_false c52
            clear c52
            by_cases c55 : 2 ≤ (wrap64 (2 + (wrap64 (rd l0 1))))
            ·
             rw [if_pos c55] at H
             have c55b0 := eq_true c55
             have c55b1 : decide (2 ≤ (wrap64 (2 + (wrap64 (rd l0 1))))) = true := decide_eq_true c55
             by_cases c56 : (wrap64 (2 + (wrap64 (rd l0 1)))) ≤ (l0.length : Int)
             ·
              rw [if_pos c56] at H
              have c56b0 := eq_true c56
              have c56b1 : decide ((wrap64 (2 + (wrap64 (rd l0 1)))) ≤ (l0.length : Int)) = true := decide_eq_true c56
              obtain ⟨t221, A57, H⟩ := bd_ H
              have HC58 := Aside0.mk H
              clear H
              have p217 : 0 ≤ (1 : Int) := (by omega)
              have q217 : 1 < (l0.length : Int) := od_
              obtain ⟨ad217, e217, hx217_0⟩ := Kd.at_int HR0.out 1 p217 q217
              obtain rfl : ad212 = ad217 := (by injection e217)
              (try simp only [show (1 : Int).toNat = 1 from rfl, Nat.reduceMul, Nat.reduceEqDiff, Go.Addr.add, ↓reduceIte] at hx217_0)
              have qi217 : (1 < l0.length) = True := eq_true (by omega)
              (try rw [show ((1 : Int)).toNat = 1 from rfl] at hx217_0)
              replace hx217_0 := lb_ HB hx217_0
              replace p217 := eq_true p217
              replace q217 := eq_true q217
              have p218 : 0 ≤ (1 : Int) := (by omega)
              have q218 : 1 < (l0.length : Int) := od_
              obtain ⟨ad218, e218, hx218_0⟩ := Kd.at_int HR0.out 1 p218 q218
              obtain rfl : ad212 = ad218 := (by injection e218)
              (try simp only [show (1 : Int).toNat = 1 from rfl, Nat.reduceMul, Nat.reduceEqDiff, Go.Addr.add, ↓reduceIte] at hx218_0)
              have qi218 : (1 < l0.length) = True := eq_true (by omega)
              (try rw [show ((1 : Int)).toNat = 1 from rfl] at hx218_0)
              replace hx218_0 := lb_ HB hx218_0
              replace p218 := eq_true p218
              replace q218 := eq_true q218
              have p219 : 0 ≤ (1 : Int) := (by omega)
              have q219 : 1 < (l0.length : Int) := od_
              obtain ⟨ad219, e219, hx219_0⟩ := Kd.at_int HR0.out 1 p219 q219
              obtain rfl : ad212 = ad219 := (by injection e219)
              (try simp only [show (1 : Int).toNat = 1 from rfl, Nat.reduceMul, Nat.reduceEqDiff, Go.Addr.add, ↓reduceIte] at hx219_0)
              have qi219 : (1 < l0.length) = True := eq_true (by omega)
              (try rw [show ((1 : Int)).toNat = 1 from rfl] at hx219_0)
              replace hx219_0 := lb_ HB hx219_0
              replace p219 := eq_true p219
              replace q219 := eq_true q219
              obtain ⟨i059, hi059, _, hsz59, _⟩ := info_parts info5
              obtain ⟨A59, hcut59, hA59, hC59⟩ := print_mid_of (P := Try.prog) (Value.int .u8) 0 22 5 .i64 .i64 Try.underlying22 hi059 hsz59 (some ad212) c0 l0 2 (wrap64 (2 + (wrap64 (rd l0 1)))) (by omega) (by first | omega | exact od_) od_ HC0.out
              have HR220 := Aside0.mk (Kd.C_of_reads (h1 := fun _ => rfl) (hA59 _ (Kd.reads_of_C HR0.out)))
              have HC220 := Aside0.mk hC59
              clear hA59 hC59 hi059 hsz59
              have hcv60 := Go.Proofs.YthmfmpmljndjhaaV.conv_len (Kd.C_string (P := Try.prog) (A := A59) (c := (c0 - 2)) Try.underlying22 Try.underlying5 Try.underlying9 (Kd.C_below HR220.out HB.out))
              have hnb61 := NB213_211.out
              have hnc61 := NB211_213.out
              obtain ⟨z62_0, z62_1, z62_2⟩ := cz3 BK213.out
              obtain ⟨f62_0, f62_1, f62_2⟩ := fz3 BK213.out
              go_upto_if 70 with (first | ((with_reducible refine gate_callee (f := 125) rfl ?_); refine goesL_ (some 69) rfl rfl Try.func125 (by kernel_rfl) rfl #[.agg #[.int .i64 (wrap64 (rd l0 0)), .string (strOfNums ((l0.take ((wrap64 (2 + (wrap64 (rd l0 1)))) : Int).toNat).drop 2)), .int .i64 0]] rfl la_ ?_; (with_reducible refine (impl_FrameOk.calls kj39 (wrap64 (rd l0 0)) (strOfNums ((l0.take ((wrap64 (2 + (wrap64 (rd l0 1)))) : Int).toNat).drop 2)) 0 t221 _ A57.out).mono ?_); rintro e w63 ⟨rfl, hb⟩; refine ⟨_, rfl, ?_⟩; replace BK211 := am_ (blk_below (g := gb211) (o := .cells #[.int .i64 0, .string (⟨#[]⟩ : ByteArray), .int .i64 0] 91 (0, 0)) (by (with_reducible repeat (first | refine blk_drewN ?_ _ | refine blk_drew ?_ | refine blk_alloc ?_ _)); refine blk_far ?_ NB211_213.out _; (with_reducible repeat (first | refine blk_drewN ?_ _ | refine blk_drew ?_ | refine blk_alloc ?_ _)); exact BK211.out) hb); replace BK213 := am_ (blk_below (g := gb213) (o := .cells #[.int .i64 (wrap64 (rd l0 0)), .string (strOfNums ((l0.take ((wrap64 (2 + (wrap64 (rd l0 1)))) : Int).toNat).drop 2)), .int .i64 0] 91 (0, 0)) (by (with_reducible repeat (first | refine blk_drewN ?_ _ | refine blk_drew ?_ | refine blk_alloc ?_ _)); refine blk_put (cs := #[.int .i64 (wrap64 (rd l0 0)), .string (⟨#[]⟩ : ByteArray), .int .i64 0]) ?_ 1 _ rfl; (with_reducible repeat (first | refine blk_drewN ?_ _ | refine blk_drew ?_ | refine blk_alloc ?_ _)); exact BK213.out) hb); replace HB := am_ (below_step (qB HB) hb); (try clear hb); (try clear hb2); (try clear hk); (try clear hi)))
              (try simp only [Act.put, List.setIfInBounds_toArray, List.set_cons_zero, List.set_cons_succ])
              have H := HC58.out
              clear HC58
              by_cases c64 : t221 = true
              ·
               subst c64
               rw [if_pos rfl] at H
               simp only [Option.some.injEq, Prod.mk.injEq] at H
               obtain ⟨rfl, rfl, rfl, rfl, rfl⟩ := H
               have hnb65 := NB213_211.out
               have hnc65 := NB211_213.out
               obtain ⟨z66_0, z66_1, z66_2⟩ := cz3 BK213.out
               obtain ⟨f66_0, f66_1, f66_2⟩ := fz3 BK213.out
               obtain ⟨z67_0, z67_1, z67_2⟩ := cz3 BK211.out
               obtain ⟨f67_0, f67_1, f67_2⟩ := fz3 BK211.out
               go_wp2
               refine bodyPost_ret (results_ctt rfl _ _ gb211 91 #[.int .i64 (wrap64 (rd l0 0)), .string (strOfNums ((l0.take ((wrap64 (2 + (wrap64 (rd l0 1)))) : Int).toNat).drop 2)), .int .i64 0] (0, 0) _ rfl (by (with_reducible repeat (first | refine blk_drewN ?_ _ | refine blk_drew ?_ | refine blk_alloc ?_ _)); refine blk_put (cs := #[.int .i64 (wrap64 (rd l0 0)), .string (strOfNums ((l0.take ((wrap64 (2 + (wrap64 (rd l0 1)))) : Int).toNat).drop 2)), .int .i64 0]) ?_ 2 _ rfl; (with_reducible repeat (first | refine blk_drewN ?_ _ | refine blk_drew ?_ | refine blk_alloc ?_ _)); refine blk_put (cs := #[.int .i64 (wrap64 (rd l0 0)), .string (⟨#[]⟩ : ByteArray), .int .i64 0]) ?_ 1 _ rfl; (with_reducible repeat (first | refine blk_drewN ?_ _ | refine blk_drew ?_ | refine blk_alloc ?_ _)); refine blk_put (cs := #[.int .i64 0, .string (⟨#[]⟩ : ByteArray), .int .i64 0]) ?_ 0 _ rfl; (with_reducible repeat (first | refine blk_drewN ?_ _ | refine blk_drew ?_ | refine blk_alloc ?_ _)); exact BK211.out) Try.underlying91 rfl (by kernel_rfl)) rfl ?_
               exact ⟨by first | rfl | (simp [errW_none, errW_some] <;> rfl) | (simp [*, errW_none, errW_some] <;> rfl), qB HB⟩
              ·
               replace c64 := Bool.eq_false_iff.mpr c64
               subst c64
               rw [if_neg (show ¬ (false = true) by decide)] at H
               simp only [Option.some.injEq, Prod.mk.injEq] at H
               obtain ⟨rfl, rfl, rfl, rfl, rfl⟩ := H
               have hnb68 := NB211_213.out
               have hnc68 := NB213_211.out
               obtain ⟨z69_0, z69_1, z69_2⟩ := cz3 BK211.out
               obtain ⟨f69_0, f69_1, f69_2⟩ := fz3 BK211.out
               go_wp2
               refine bodyPost_ret (results_ctt rfl _ _ gb211 91 #[.int .i64 0, .string (⟨#[]⟩ : ByteArray), .int .i64 0] (0, 0) _ rfl (by (with_reducible repeat (first | refine blk_drewN ?_ _ | refine blk_drew ?_ | refine blk_alloc ?_ _)); refine blk_put (cs := #[.int .i64 0, .string (⟨#[]⟩ : ByteArray), .int .i64 0]) ?_ 2 _ rfl; (with_reducible repeat (first | refine blk_drewN ?_ _ | refine blk_drew ?_ | refine blk_alloc ?_ _)); refine blk_put (cs := #[.int .i64 0, .string (⟨#[]⟩ : ByteArray), .int .i64 0]) ?_ 1 _ rfl; (with_reducible repeat (first | refine blk_drewN ?_ _ | refine blk_drew ?_ | refine blk_alloc ?_ _)); refine blk_put (cs := #[.int .i64 0, .string (⟨#[]⟩ : ByteArray), .int .i64 0]) ?_ 0 _ rfl; (with_reducible repeat (first | refine blk_drewN ?_ _ | refine blk_drew ?_ | refine blk_alloc ?_ _)); exact BK211.out) Try.underlying91 rfl (by kernel_rfl)) rfl ?_
               exact ⟨by first | rfl | (simp [errW_none, errW_some] <;> rfl) | (simp [*, errW_none, errW_some] <;> rfl), qB HB⟩
             ·
              rw [if_neg c56] at H
              exact absurd H (by simp)
            ·
             rw [if_neg c55] at H
             exact absurd H (by simp)
         ·
          rw [if_neg c48] at H
          exact absurd H (by simp)
       ·
        replace c44 := Bool.eq_false_iff.mpr c44
        subst c44
        rw [if_neg (show ¬ (false = true) by decide)] at H
        obtain ⟨t222, A70, H⟩ := bd_ H
        have HC71 := Aside0.mk H
        clear H
        have hnb72 := NB213_211.out
        have hnc72 := NB211_213.out
        obtain ⟨z73_0, z73_1, z73_2⟩ := cz3 BK213.out
        obtain ⟨f73_0, f73_1, f73_2⟩ := fz3 BK213.out
        go_upto_if 70 with (first | ((with_reducible refine gate_callee (f := 125) rfl ?_); refine goesL_ (some 69) rfl rfl Try.func125 (by kernel_rfl) rfl #[.agg #[.int .i64 (wrap64 (rd l0 0)), .string (⟨#[]⟩ : ByteArray), .int .i64 0]] rfl la_ ?_; (with_reducible refine (impl_FrameOk.calls kj39 (wrap64 (rd l0 0)) (⟨#[]⟩ : ByteArray) 0 t222 _ A70.out).mono ?_); rintro e w74 ⟨rfl, hb⟩; refine ⟨_, rfl, ?_⟩; replace BK211 := am_ (blk_below (qK BK211) hb); replace BK213 := am_ (blk_below (qK BK213) hb); replace HB := am_ (below_step (qB HB) hb); (try clear hb); (try clear hb2); (try clear hk); (try clear hi)))
        (try simp only [Act.put, List.setIfInBounds_toArray, List.set_cons_zero, List.set_cons_succ])
        have H := HC71.out
        clear HC71
        by_cases c75 : t222 = true
        ·
         subst c75
         rw [if_pos rfl] at H
         simp only [Option.some.injEq, Prod.mk.injEq] at H
         obtain ⟨rfl, rfl, rfl, rfl, rfl⟩ := H
         have hnb76 := NB213_211.out
         have hnc76 := NB211_213.out
         obtain ⟨z77_0, z77_1, z77_2⟩ := cz3 BK213.out
         obtain ⟨f77_0, f77_1, f77_2⟩ := fz3 BK213.out
         obtain ⟨z78_0, z78_1, z78_2⟩ := cz3 BK211.out
         obtain ⟨f78_0, f78_1, f78_2⟩ := fz3 BK211.out
         go_wp2
         refine bodyPost_ret (results_ctt rfl _ _ gb211 91 #[.int .i64 (wrap64 (rd l0 0)), .string (⟨#[]⟩ : ByteArray), .int .i64 0] (0, 0) _ rfl (by (with_reducible repeat (first | refine blk_drewN ?_ _ | refine blk_drew ?_ | refine blk_alloc ?_ _)); refine blk_put (cs := #[.int .i64 (wrap64 (rd l0 0)), .string (⟨#[]⟩ : ByteArray), .int .i64 0]) ?_ 2 _ rfl; (with_reducible repeat (first | refine blk_drewN ?_ _ | refine blk_drew ?_ | refine blk_alloc ?_ _)); refine blk_put (cs := #[.int .i64 (wrap64 (rd l0 0)), .string (⟨#[]⟩ : ByteArray), .int .i64 0]) ?_ 1 _ rfl; (with_reducible repeat (first | refine blk_drewN ?_ _ | refine blk_drew ?_ | refine blk_alloc ?_ _)); refine blk_put (cs := #[.int .i64 0, .string (⟨#[]⟩ : ByteArray), .int .i64 0]) ?_ 0 _ rfl; (with_reducible repeat (first | refine blk_drewN ?_ _ | refine blk_drew ?_ | refine blk_alloc ?_ _)); exact BK211.out) Try.underlying91 rfl (by kernel_rfl)) rfl ?_
         exact ⟨by first | rfl | (simp [errW_none, errW_some] <;> rfl) | (simp [*, errW_none, errW_some] <;> rfl), qB HB⟩
        ·
         replace c75 := Bool.eq_false_iff.mpr c75
         subst c75
         rw [if_neg (show ¬ (false = true) by decide)] at H
         simp only [Option.some.injEq, Prod.mk.injEq] at H
         obtain ⟨rfl, rfl, rfl, rfl, rfl⟩ := H
         have hnb79 := NB211_213.out
         have hnc79 := NB213_211.out
         obtain ⟨z80_0, z80_1, z80_2⟩ := cz3 BK211.out
         obtain ⟨f80_0, f80_1, f80_2⟩ := fz3 BK211.out
         go_wp2
         refine bodyPost_ret (results_ctt rfl _ _ gb211 91 #[.int .i64 0, .string (⟨#[]⟩ : ByteArray), .int .i64 0] (0, 0) _ rfl (by (with_reducible repeat (first | refine blk_drewN ?_ _ | refine blk_drew ?_ | refine blk_alloc ?_ _)); refine blk_put (cs := #[.int .i64 0, .string (⟨#[]⟩ : ByteArray), .int .i64 0]) ?_ 2 _ rfl; (with_reducible repeat (first | refine blk_drewN ?_ _ | refine blk_drew ?_ | refine blk_alloc ?_ _)); refine blk_put (cs := #[.int .i64 0, .string (⟨#[]⟩ : ByteArray), .int .i64 0]) ?_ 1 _ rfl; (with_reducible repeat (first | refine blk_drewN ?_ _ | refine blk_drew ?_ | refine blk_alloc ?_ _)); refine blk_put (cs := #[.int .i64 0, .string (⟨#[]⟩ : ByteArray), .int .i64 0]) ?_ 0 _ rfl; (with_reducible repeat (first | refine blk_drewN ?_ _ | refine blk_drew ?_ | refine blk_alloc ?_ _)); exact BK211.out) Try.underlying91 rfl (by kernel_rfl)) rfl ?_
         exact ⟨by first | rfl | (simp [errW_none, errW_some] <;> rfl) | (simp [*, errW_none, errW_some] <;> rfl), qB HB⟩
  ·
   rw [if_neg c6] at H
   exact absurd H (by simp)

/-! ### impl_Eat: function 85 -/
def impl_Eat.f (k : Nat) (a0_0 : Int) (a0_1 : Int) (a0_2 : Int) (a0_3 : Bool) (l0_4 : List Int) (l0_5 : List Int) (a0_6 : Int) (a0_7 : Int) : Option (Int × Int × Int × Bool × List Int × List Int × Int × Int) := (impl_sockCopy.f a0_0 a0_1 a0_2 a0_3 l0_4 l0_5 a0_6 a0_7).bind fun bt225 => ((impl_GetFrame.f k l0_4).bind fun bt238 => (if 0 ≤ bt238.2.2.2.1 then (if bt238.2.2.2.1 ≤ (bt225.2.2.2.2.1.length : Int) then (some (bt225.1, bt225.2.1, bt225.2.2.1, bt225.2.2.2.1, (bt225.2.2.2.2.1.drop (bt238.2.2.2.1 : Int).toNat), bt225.2.2.2.2.2.1, bt225.2.2.2.2.2.2.1, bt225.2.2.2.2.2.2.2)) else (none)) else (none)))
theorem impl_Eat.mono : ∀ a0 a1 a2 a3 a4 a5 a6 a7 k, LeO (impl_Eat.f k a0 a1 a2 a3 a4 a5 a6 a7) (impl_Eat.f (k + 1) a0 a1 a2 a3 a4 a5 a6 a7) := by
 intro a0 a1 a2 a3 a4 a5 a6 a7 k
 unfold impl_Eat.f
 repeat' first
   | (with_reducible exact impl_GetFrame.mono _ _)
   | (with_reducible exact LeO.refl _)
   | (with_reducible exact LeO.none _)
   | (with_reducible refine LeO.ite ?_ ?_)
   | (with_reducible refine LeO.bind ?_ (fun _ => ?_))
   | exact impl_GetFrame.mono _ _
   | exact LeO.none _
   | refine LeO.ite ?_ ?_
   | refine LeO.bind ?_ (fun _ => ?_)
set_option maxHeartbeats 8000000 in
set_option maxRecDepth 100000 in
theorem impl_Eat.calls (k : Nat) (a0_0 : Int) (a0_1 : Int) (a0_2 : Int) (a0_3 : Bool) (A0_4 : Option Addr) (c0_4 : Nat) (l0_4 : List Int) (A0_5 : Option Addr) (c0_5 : Nat) (l0_5 : List Int) (a0_6 : Int) (a0_7 : Int) (r1 : Int) (r2 : Int) (r3 : Int) (r4 : Bool) (r5 : List Int) (r6 : List Int) (r7 : Int) (r8 : Int) (w : World) (hr0_4 : Kd.C (Kd.int .u8) w A0_4 l0_4.length l0_4) (hc0_4 : l0_4.length ≤ c0_4) (hr0_5 : Kd.C (Kd.int .u8) w A0_5 l0_5.length l0_5) (hc0_5 : l0_5.length ≤ c0_5) (h : impl_Eat.f k a0_0 a0_1 a0_2 a0_3 l0_4 l0_5 a0_6 a0_7 = some (r1, r2, r3, r4, r5, r6, r7, r8)) :
  Calls Try.prog 85 #[.agg #[.int .i64 a0_0, .int .i64 a0_1, .int .i64 a0_2, .bool a0_3, .slice A0_4 l0_4.length c0_4, .slice A0_5 l0_5.length c0_5, .int .i64 a0_6, .int .i64 a0_7]] w fun e w' => ∃ v4_ v5_ : Value, e = .returned (.agg #[.int .i64 r1, .int .i64 r2, .int .i64 r3, .bool r4, v4_, v5_, .int .i64 r7, .int .i64 r8]) ∧ Kd.Q (Kd.int .u8) 5 w' w.heap.size (fun k_ => some k_ ≠ (v5_ : Value).ownBlock) v4_ r5 ∧ Kd.R (Kd.int .u8) 5 w' w.heap.size (fun k_ => some k_ ≠ (v4_ : Value).ownBlock) v5_ r6 ∧ Below w.heap.size w w' := by
 have hu50 := Try.underlying50
 have hu91 := Try.underlying91
 have HR0_4 := Aside0.mk hr0_4
 have HC0_4 := Aside0.mk hc0_4
 clear hr0_4 hc0_4
 have HR0_5 := Aside0.mk hr0_5
 have HC0_5 := Aside0.mk hc0_5
 clear hr0_5 hc0_5
 have HB := Aside0.mk (Below.refl w.heap.size w)
 have H : ((impl_sockCopy.f a0_0 a0_1 a0_2 a0_3 l0_4 l0_5 a0_6 a0_7).bind fun bt225 => ((impl_GetFrame.f k l0_4).bind fun bt238 => (if 0 ≤ bt238.2.2.2.1 then (if bt238.2.2.2.1 ≤ (bt225.2.2.2.2.1.length : Int) then (some (bt225.1, bt225.2.1, bt225.2.2.1, bt225.2.2.2.1, (bt225.2.2.2.2.1.drop (bt238.2.2.2.1 : Int).toNat), bt225.2.2.2.2.2.1, bt225.2.2.2.2.2.2.1, bt225.2.2.2.2.2.2.2)) else (none)) else (none)))) = some (r1, r2, r3, r4, r5, r6, r7, r8) := h
 clear h
 obtain ⟨⟨t225, t226, t227, t228, t229, t232, t235, t236⟩, A2, H⟩ := bd_ H
 (try dsimp only at H)
 obtain ⟨⟨t238, t239, t240, t241, t242⟩, A3, H⟩ := bd_ H
 (try dsimp only at H)
 by_cases c4 : 0 ≤ t241
 ·
  rw [if_pos c4] at H
  have c4b0 := eq_true c4
  have c4b1 : decide (0 ≤ t241) = true := decide_eq_true c4
  clear c4
  by_cases c5 : t241 ≤ (t229.length : Int)
  ·
   rw [if_pos c5] at H
   have c5b0 := eq_true c5
   have c5b1 : decide (t241 ≤ (t229.length : Int)) = true := decide_eq_true c5
   clear c5
   obtain ⟨y244, hy244⟩ : ∃ y_ : List Int, y_ = (t229.drop (t241 : Int).toNat) := ⟨_, rfl⟩
   rw [← hy244] at H
   have Ny244 := Aside0.mk hy244
   clear hy244
   simp only [Option.some.injEq, Prod.mk.injEq] at H
   obtain ⟨rfl, rfl, rfl, rfl, rfl, rfl, rfl, rfl⟩ := H
   go_enter Try.func85, Try.ntmps85
   go_wp2_with (first | ((with_reducible refine gate_dst (N := 1) rfl ?_); refine box_event ?hg (N := 1) ?hd (cs := #[.int .i64 a0_0, .int .i64 a0_1, .int .i64 a0_2, .bool a0_3, .slice A0_4 l0_4.length c0_4, .slice A0_5 l0_5.length c0_5, .int .i64 a0_6, .int .i64 a0_7]) (t := 50) ?hr ?_; (case hd => rfl); (case hg => rfl); (case hr => first | (go_simp; done) | (go_simp; rfl) | ((try (obtain ⟨_, _, rfl⟩ := Kd.R_slice HO231.out)); (try (obtain ⟨_, _, rfl⟩ := Kd.R_slice HO234.out)); first | (go_simp; done) | (go_simp; rfl))); intro gb223 hg w6 hbox hb; have BK223 := am_ (hbox); have GW223 := am_ ((gG_ hg (qB HB))); have IGW223 := gI_ GW223; have GE223 := am_ ((gG_ hg (qB HB))); have IGE223 := gI_ GE223; replace HB := am_ (below_step (qB HB) hb); clear hb hbox hg) | ((with_reducible refine gate_dst (N := 2) rfl ?_); refine box_event ?hg (N := 2) ?hd (cs := #[.int .i64 0, .int .i64 0, .int .i64 0, .bool false, .slice none 0 0, .slice none 0 0, .int .i64 0, .int .i64 0]) (t := 50) ?hr ?_; (case hd => rfl); (case hg => rfl); (case hr => first | (go_simp; done) | (go_simp; rfl) | ((try (obtain ⟨_, _, rfl⟩ := Kd.R_slice HO231.out)); (try (obtain ⟨_, _, rfl⟩ := Kd.R_slice HO234.out)); first | (go_simp; done) | (go_simp; rfl))); intro gb224 hg w7 hbox hb; have BK224 := am_ (hbox); have GW224 := am_ ((gG_ hg (qB HB))); have IGW224 := gI_ GW224; have GE224 := am_ ((gG_ hg (qB HB))); have IGE224 := gI_ GE224; replace HB := am_ (below_step (qB HB) hb); have NB223_224 := am_ ((gN_ hg (qK BK223))); have NB224_223 := am_ ((gM_ hg (qK BK223))); replace BK223 := am_ (blk_below (qK BK223) hb); clear hb hbox hg; have hnb8 := NB223_224.out; have hnc8 := NB224_223.out; obtain ⟨z9_0, z9_1, z9_2, z9_3, z9_4, z9_5, z9_6, z9_7⟩ := cz8 BK223.out; obtain ⟨f9_0, f9_1, f9_2, f9_3, f9_4, f9_5, f9_6, f9_7⟩ := fz8 BK223.out) | ((with_reducible refine gate_callee (f := 98) rfl ?_); refine goesL_ (some 8) rfl rfl Try.func98 (by kernel_rfl) rfl #[.agg #[.int .i64 a0_0, .int .i64 a0_1, .int .i64 a0_2, .bool a0_3, .slice A0_4 l0_4.length c0_4, .slice A0_5 l0_5.length c0_5, .int .i64 a0_6, .int .i64 a0_7]] rfl la_ ?_; (with_reducible refine (impl_sockCopy.calls a0_0 a0_1 a0_2 a0_3 _ _ l0_4 _ _ l0_5 a0_6 a0_7 t225 t226 t227 t228 t229 t232 t235 t236 _ ?side1 ?side2 ?side3 ?side4 A2.out).mono ?_); (case side1 => exact qC (Kd.C_below HR0_4.out HB.out)); (case side2 => exact HC0_4.out); (case side3 => exact qC (Kd.C_below HR0_5.out HB.out)); (case side4 => exact HC0_5.out); rintro e w10 ⟨v230, v233, rfl, ho0, ho1, hb⟩; refine ⟨_, rfl, ?_⟩; have HO231 := am_ (Kd.R_lower ho0 (below_size (qB HB))); have HO234 := am_ (Kd.R_lower ho1 (below_size (qB HB))); replace BK223 := am_ (blk_below (qK BK223) hb); replace BK224 := am_ (blk_below (qK BK224) hb); replace HB := am_ (below_step (qB HB) hb); (try clear hb); (try clear hb2); (try clear hk); (try clear hi); (try clear ho0); (try clear ho1)) | ((with_reducible refine gate_dst (N := 3) rfl ?_); refine box_event ?hg (N := 3) ?hd (cs := #[.int .i64 0, .int .i64 0, .int .i64 0, .bool false, .slice none 0 0, .slice none 0 0, .int .i64 0, .int .i64 0]) (t := 50) ?hr ?_; (case hd => rfl); (case hg => rfl); (case hr => first | (go_simp; done) | (go_simp; rfl) | ((try (obtain ⟨_, _, rfl⟩ := Kd.R_slice HO231.out)); (try (obtain ⟨_, _, rfl⟩ := Kd.R_slice HO234.out)); first | (go_simp; done) | (go_simp; rfl))); intro gb237 hg w11 hbox hb; replace HO231 := am_ (Kd.R_below (qR HO231) hb); replace HO234 := am_ (Kd.R_below (qR HO234) hb); have BK237 := am_ (hbox); have GW237 := am_ ((gG_ hg (qB HB))); have IGW237 := gI_ GW237; have GE237 := am_ ((gG_ hg (qB HB))); have IGE237 := gI_ GE237; replace HB := am_ (below_step (qB HB) hb); have NB223_237 := am_ ((gN_ hg (qK BK223))); have NB237_223 := am_ ((gM_ hg (qK BK223))); replace BK223 := am_ (blk_below (qK BK223) hb); have NB224_237 := am_ ((gN_ hg (qK BK224))); have NB237_224 := am_ ((gM_ hg (qK BK224))); replace BK224 := am_ (blk_below (qK BK224) hb); clear hb hbox hg; have hnb12 := NB237_223.out; have hnc12 := NB223_237.out; have hnb13 := NB237_224.out; have hnc13 := NB224_237.out; obtain ⟨z14_0, z14_1, z14_2, z14_3, z14_4, z14_5, z14_6, z14_7⟩ := cz8 BK237.out; obtain ⟨f14_0, f14_1, f14_2, f14_3, f14_4, f14_5, f14_6, f14_7⟩ := fz8 BK237.out; obtain ⟨Ao15, co15, eo15⟩ := Kd.R_slice HO231.out; subst eo15; obtain ⟨Ao16, co16, eo16⟩ := Kd.R_slice HO234.out; subst eo16; obtain ⟨z17_0, z17_1, z17_2, z17_3, z17_4, z17_5, z17_6, z17_7⟩ := cz8 BK223.out; obtain ⟨f17_0, f17_1, f17_2, f17_3, f17_4, f17_5, f17_6, f17_7⟩ := fz8 BK223.out) | ((with_reducible refine gate_callee (f := 117) rfl ?_); refine goesL_ (some 12) rfl rfl Try.func117 (by kernel_rfl) rfl #[.slice A0_4 l0_4.length c0_4] rfl la_ ?_; (with_reducible refine (impl_GetFrame.calls k _ _ l0_4 t238 t239 t240 t241 t242 _ ?side1 ?side2 A3.out).mono ?_); (case side1 => exact Kd.C_below HR0_4.out (qB HB)); (case side2 => exact HC0_4.out); rintro e w18 ⟨rfl, hb⟩; refine ⟨_, rfl, ?_⟩; replace HO231 := am_ (Kd.R_below (by (with_reducible repeat (first | apply Kd.R_alloc | apply Kd.R_drewN | apply Kd.R_drew)); exact (Kd.R_mono (Go.Proofs.YthmfmpmljndjhaaV.R_far8 (g := gb237) (Kd.R_types HO231.out BK237.out (by decide)) (fun _ hk => hk.2)) (fun _ h_ => h_.1))) hb); replace HO234 := am_ (Kd.R_below (by (with_reducible repeat (first | apply Kd.R_alloc | apply Kd.R_drewN | apply Kd.R_drew)); exact (Kd.R_mono (Go.Proofs.YthmfmpmljndjhaaV.R_far8 (g := gb237) (Kd.R_types HO234.out BK237.out (by decide)) (fun _ hk => hk.2)) (fun _ h_ => h_.1))) hb); replace BK223 := am_ (blk_below (g := gb223) (o := .cells #[.int .i64 a0_0, .int .i64 a0_1, .int .i64 a0_2, .bool a0_3, .slice A0_4 l0_4.length c0_4, .slice A0_5 l0_5.length c0_5, .int .i64 a0_6, .int .i64 a0_7] 50 (0, 0)) (by (with_reducible repeat (first | refine blk_drewN ?_ _ | refine blk_drew ?_ | refine blk_alloc ?_ _)); refine Go.Proofs.YthmfmpmljndjhaaV.blk_far8 ?_ NB223_237.out; (with_reducible repeat (first | refine blk_drewN ?_ _ | refine blk_drew ?_ | refine blk_alloc ?_ _)); exact BK223.out) hb); replace BK224 := am_ (blk_below (g := gb224) (o := .cells #[.int .i64 0, .int .i64 0, .int .i64 0, .bool false, .slice none 0 0, .slice none 0 0, .int .i64 0, .int .i64 0] 50 (0, 0)) (by (with_reducible repeat (first | refine blk_drewN ?_ _ | refine blk_drew ?_ | refine blk_alloc ?_ _)); refine Go.Proofs.YthmfmpmljndjhaaV.blk_far8 ?_ NB224_237.out; (with_reducible repeat (first | refine blk_drewN ?_ _ | refine blk_drew ?_ | refine blk_alloc ?_ _)); exact BK224.out) hb); replace BK237 := am_ (blk_below (g := gb237) (o := .cells #[.int .i64 t225, .int .i64 t226, .int .i64 t227, .bool t228, .slice Ao15 t229.length co15, .slice Ao16 t232.length co16, .int .i64 t235, .int .i64 t236] 50 (0, 0)) (by (with_reducible repeat (first | refine blk_drewN ?_ _ | refine blk_drew ?_ | refine blk_alloc ?_ _)); refine Go.Proofs.YthmfmpmljndjhaaV.blk_all8 (show _ = some (Go.Obj.cells #[.int .i64 0, .int .i64 0, .int .i64 0, .bool false, .slice none 0 0, .slice none 0 0, .int .i64 0, .int .i64 0] _ (0, 0)) from ?_); (with_reducible repeat (first | refine blk_drewN ?_ _ | refine blk_drew ?_ | refine blk_alloc ?_ _)); exact BK237.out) hb); replace HB := am_ (below_step (qB HB) hb); (try clear hb); (try clear hb2); (try clear hk); (try clear hi)) | ((with_reducible refine gate_dst (N := 4) rfl ?_); refine box_event ?hg (N := 4) ?hd (cs := #[.int .i64 0, .string (⟨#[]⟩ : ByteArray), .int .i64 0]) (t := 91) ?hr ?_; (case hd => rfl); (case hg => rfl); (case hr => first | (go_simp; done) | (go_simp; rfl) | ((try (obtain ⟨_, _, rfl⟩ := Kd.R_slice HO231.out)); (try (obtain ⟨_, _, rfl⟩ := Kd.R_slice HO234.out)); first | (go_simp; done) | (go_simp; rfl))); intro gb243 hg w19 hbox hb; replace HO231 := am_ (Kd.R_below (qR HO231) hb); replace HO234 := am_ (Kd.R_below (qR HO234) hb); have BK243 := am_ (hbox); have GW243 := am_ ((gG_ hg (qB HB))); have IGW243 := gI_ GW243; have GE243 := am_ ((gG_ hg (qB HB))); have IGE243 := gI_ GE243; replace HB := am_ (below_step (qB HB) hb); have NB223_243 := am_ ((gN_ hg (qK BK223))); have NB243_223 := am_ ((gM_ hg (qK BK223))); replace BK223 := am_ (blk_below (qK BK223) hb); have NB224_243 := am_ ((gN_ hg (qK BK224))); have NB243_224 := am_ ((gM_ hg (qK BK224))); replace BK224 := am_ (blk_below (qK BK224) hb); have NB237_243 := am_ ((gN_ hg (qK BK237))); have NB243_237 := am_ ((gM_ hg (qK BK237))); replace BK237 := am_ (blk_below (qK BK237) hb); clear hb hbox hg; have hnb20 := NB243_223.out; have hnc20 := NB223_243.out; have hnb21 := NB243_224.out; have hnc21 := NB224_243.out; have hnb22 := NB243_237.out; have hnc22 := NB237_243.out; obtain ⟨z23_0, z23_1, z23_2⟩ := cz3 BK243.out; obtain ⟨f23_0, f23_1, f23_2⟩ := fz3 BK243.out) | ((with_reducible refine gate_store (t := 91) (p := 4) rfl ?_); refine store_event (t := 91) (p := 4) (v := ?vo_w24) (w1 := (((w19.setCell ⟨gb243, 0, none⟩ (.int .i64 t238)).setCell ⟨gb243, 1, none⟩ (.string t239)).setCell ⟨gb243, 2, none⟩ (.int .i64 t240))) ?hg ?ho ?hn ?hr ?_; (case ho => rfl); (case hg => rfl); (case hn => rfl); (case hr => first | (go_simp; done) | (go_simp; rfl) | ((try (obtain ⟨_, _, rfl⟩ := Kd.R_slice HO231.out)); (try (obtain ⟨_, _, rfl⟩ := Kd.R_slice HO234.out)); first | (go_simp; done) | (go_simp; rfl))); intro w24 hw; have n0_ : Aside0 (Kd.R (Kd.int .u8) 5 w24 w.heap.size (fun k_ => some k_ ≠ (.slice Ao16 t232.length co16 : Value).ownBlock) (.slice Ao15 t229.length co15) t229) := ⟨(by rw [hw]; exact (by (with_reducible repeat (first | apply Kd.R_alloc | apply Kd.R_drewN | apply Kd.R_drew)); exact Kd.R_mono (Go.Proofs.YthmfmpmljndjhaaV.R_far3 (g := gb243) (Kd.R_types HO231.out BK243.out (by decide)) (fun _ hk => hk.2)) (fun _ hk => hk.1)))⟩; have n1_ : Aside0 (Kd.R (Kd.int .u8) 5 w24 w.heap.size (fun k_ => some k_ ≠ (.slice Ao15 t229.length co15 : Value).ownBlock) (.slice Ao16 t232.length co16) t232) := ⟨(by rw [hw]; exact (by (with_reducible repeat (first | apply Kd.R_alloc | apply Kd.R_drewN | apply Kd.R_drew)); exact Kd.R_mono (Go.Proofs.YthmfmpmljndjhaaV.R_far3 (g := gb243) (Kd.R_types HO234.out BK243.out (by decide)) (fun _ hk => hk.2)) (fun _ hk => hk.1)))⟩; have n2_ : Aside0 (w24.heap[gb223]? = some (.cells #[.int .i64 a0_0, .int .i64 a0_1, .int .i64 a0_2, .bool a0_3, .slice A0_4 l0_4.length c0_4, .slice A0_5 l0_5.length c0_5, .int .i64 a0_6, .int .i64 a0_7] 50 (0, 0))) := ⟨(by rw [hw]; exact (by (with_reducible repeat (first | refine blk_drewN ?_ _ | refine blk_drew ?_ | refine blk_alloc ?_ _)); refine Go.Proofs.YthmfmpmljndjhaaV.blk_far3 ?_ NB223_243.out; (with_reducible repeat (first | refine blk_drewN ?_ _ | refine blk_drew ?_ | refine blk_alloc ?_ _)); exact BK223.out))⟩; have n3_ : Aside0 (w24.heap[gb224]? = some (.cells #[.int .i64 0, .int .i64 0, .int .i64 0, .bool false, .slice none 0 0, .slice none 0 0, .int .i64 0, .int .i64 0] 50 (0, 0))) := ⟨(by rw [hw]; exact (by (with_reducible repeat (first | refine blk_drewN ?_ _ | refine blk_drew ?_ | refine blk_alloc ?_ _)); refine Go.Proofs.YthmfmpmljndjhaaV.blk_far3 ?_ NB224_243.out; (with_reducible repeat (first | refine blk_drewN ?_ _ | refine blk_drew ?_ | refine blk_alloc ?_ _)); exact BK224.out))⟩; have n4_ : Aside0 (w24.heap[gb237]? = some (.cells #[.int .i64 t225, .int .i64 t226, .int .i64 t227, .bool t228, .slice Ao15 t229.length co15, .slice Ao16 t232.length co16, .int .i64 t235, .int .i64 t236] 50 (0, 0))) := ⟨(by rw [hw]; exact (by (with_reducible repeat (first | refine blk_drewN ?_ _ | refine blk_drew ?_ | refine blk_alloc ?_ _)); refine Go.Proofs.YthmfmpmljndjhaaV.blk_far3 ?_ NB237_243.out; (with_reducible repeat (first | refine blk_drewN ?_ _ | refine blk_drew ?_ | refine blk_alloc ?_ _)); exact BK237.out))⟩; have n5_ : Aside0 (w24.heap[gb243]? = some (.cells #[.int .i64 t238, .string t239, .int .i64 t240] 91 (0, 0))) := ⟨(by rw [hw]; exact (by (with_reducible repeat (first | refine blk_drewN ?_ _ | refine blk_drew ?_ | refine blk_alloc ?_ _)); refine Go.Proofs.YthmfmpmljndjhaaV.blk_all3 (show _ = some (Go.Obj.cells #[.int .i64 0, .string (⟨#[]⟩ : ByteArray), .int .i64 0] _ (0, 0)) from ?_); (with_reducible repeat (first | refine blk_drewN ?_ _ | refine blk_drew ?_ | refine blk_alloc ?_ _)); exact BK243.out))⟩; have n6_ : Aside0 (Below w.heap.size w w24) := ⟨(by rw [hw]; exact (qB HB))⟩; clear hw; clear HO231; clear HO234; clear BK223; clear BK224; clear BK237; clear BK243; clear HB; have HO231 := n0_; have HO234 := n1_; have BK223 := n2_; have BK224 := n3_; have BK237 := n4_; have BK243 := n5_; have HB := n6_; clear n0_ n1_ n2_ n3_ n4_ n5_ n6_; obtain ⟨z25_0, z25_1, z25_2, z25_3, z25_4, z25_5, z25_6, z25_7⟩ := cz8 BK237.out; obtain ⟨f25_0, f25_1, f25_2, f25_3, f25_4, f25_5, f25_6, f25_7⟩ := fz8 BK237.out; have q26 : (t241 : Int) ≤ ((t229.length : Int) : Int) := od_; obtain ⟨i026, hi026, _, hsz26, _⟩ := info_parts info5; have hcut26 := cut_from (P := Try.prog) 22 5 .i64 Try.underlying22 hi026 1 hsz26 Ao15 t229.length co15 t241 od_ q26; have hr26 := Kd.Q_drop (k := (t241 : Int).toNat) (Kd.Q_of_R HO231.out) (by omega); obtain ⟨A26, hA26⟩ : ∃ A1, A1 = (if co15 = (t241 : Int).toNat then Ao15 else (Ao15 : Option Addr).map (·.add ((t241 : Int).toNat * 1))) := ⟨_, rfl⟩; obtain ⟨c26, hc26⟩ : ∃ c1, c1 = co15 - (t241 : Int).toNat := ⟨_, rfl⟩; have hy26 : y244.length = t229.length - (t241 : Int).toNat := (by rw [Ny244.out, List.length_drop]); rw [← Ny244.out] at hr26; rw [← hy26, ← hA26, ← hc26] at hcut26; replace hr26 : Kd.Q (Kd.int .u8) 5 w24 w.heap.size (fun k_ => some k_ ≠ (.slice Ao16 t232.length co16 : Value).ownBlock) (.slice A26 y244.length c26) y244 := (by rw [hA26, hc26, hy26]; exact hr26); have HE26 : Aside0 ((Value.slice A26 y244.length c26).ownBlock = (.slice Ao15 t229.length co15 : Value).ownBlock) := ⟨by rw [hA26]; split <;> (cases (Ao15 : Option Addr) <;> first | rfl | (simp only [Option.map_some, Option.map_none, Value.ownBlock, add_block]; done) | (simp [Value.ownBlock, add_block]; done))⟩; clear hy26 hi026 hsz26 HO231 hA26 hc26; have HO246 := Aside0.mk hr26; clear hr26; replace q26 := eq_true q26; have n_ := Aside0.mk (Kd.R_mono (ok' := fun k_ => some k_ ≠ (.slice A26 y244.length c26 : Value).ownBlock) HO234.out (fun k_ hk => (by rw [HE26.out]; exact hk))); clear HO234; have HO234 := n_; clear n_; obtain ⟨z27_0, z27_1, z27_2, z27_3, z27_4, z27_5, z27_6, z27_7⟩ := cz8 BK224.out; obtain ⟨f27_0, f27_1, f27_2, f27_3, f27_4, f27_5, f27_6, f27_7⟩ := fz8 BK224.out))
   refine bodyPost_ret (results_cell_row rfl _ _ gb224 50 #[.int .i64 t225, .int .i64 t226, .int .i64 t227, .bool t228, .slice A26 y244.length c26, .slice Ao16 t232.length co16, .int .i64 t235, .int .i64 t236] (0, 0) _ rfl (by (with_reducible repeat (first | refine blk_drewN ?_ _ | refine blk_drew ?_ | refine blk_alloc ?_ _)); refine blk_put (cs := #[.int .i64 t225, .int .i64 t226, .int .i64 t227, .bool t228, .slice A26 y244.length c26, .slice Ao16 t232.length co16, .int .i64 t235, .int .i64 0]) ?_ 7 _ rfl; (with_reducible repeat (first | refine blk_drewN ?_ _ | refine blk_drew ?_ | refine blk_alloc ?_ _)); refine blk_put (cs := #[.int .i64 t225, .int .i64 t226, .int .i64 t227, .bool t228, .slice A26 y244.length c26, .slice Ao16 t232.length co16, .int .i64 0, .int .i64 0]) ?_ 6 _ rfl; (with_reducible repeat (first | refine blk_drewN ?_ _ | refine blk_drew ?_ | refine blk_alloc ?_ _)); refine blk_put (cs := #[.int .i64 t225, .int .i64 t226, .int .i64 t227, .bool t228, .slice A26 y244.length c26, .slice none 0 0, .int .i64 0, .int .i64 0]) ?_ 5 _ rfl; (with_reducible repeat (first | refine blk_drewN ?_ _ | refine blk_drew ?_ | refine blk_alloc ?_ _)); refine blk_put (cs := #[.int .i64 t225, .int .i64 t226, .int .i64 t227, .bool t228, .slice none 0 0, .slice none 0 0, .int .i64 0, .int .i64 0]) ?_ 4 _ rfl; (with_reducible repeat (first | refine blk_drewN ?_ _ | refine blk_drew ?_ | refine blk_alloc ?_ _)); refine blk_put (cs := #[.int .i64 t225, .int .i64 t226, .int .i64 t227, .bool false, .slice none 0 0, .slice none 0 0, .int .i64 0, .int .i64 0]) ?_ 3 _ rfl; (with_reducible repeat (first | refine blk_drewN ?_ _ | refine blk_drew ?_ | refine blk_alloc ?_ _)); refine blk_put (cs := #[.int .i64 t225, .int .i64 t226, .int .i64 0, .bool false, .slice none 0 0, .slice none 0 0, .int .i64 0, .int .i64 0]) ?_ 2 _ rfl; (with_reducible repeat (first | refine blk_drewN ?_ _ | refine blk_drew ?_ | refine blk_alloc ?_ _)); refine blk_put (cs := #[.int .i64 t225, .int .i64 0, .int .i64 0, .bool false, .slice none 0 0, .slice none 0 0, .int .i64 0, .int .i64 0]) ?_ 1 _ rfl; (with_reducible repeat (first | refine blk_drewN ?_ _ | refine blk_drew ?_ | refine blk_alloc ?_ _)); refine blk_put (cs := #[.int .i64 0, .int .i64 0, .int .i64 0, .bool false, .slice none 0 0, .slice none 0 0, .int .i64 0, .int .i64 0]) ?_ 0 _ rfl; (with_reducible repeat (first | refine blk_drewN ?_ _ | refine blk_drew ?_ | refine blk_alloc ?_ _)); refine blk_far ?_ NB224_237.out _; (with_reducible repeat (first | refine blk_drewN ?_ _ | refine blk_drew ?_ | refine blk_alloc ?_ _)); exact BK224.out) Try.underlying50 rfl (by kernel_rfl)) rfl ?_
   exact ⟨_, _, by first | rfl | (simp [errW_none, errW_some] <;> rfl) | (simp [*, errW_none, errW_some] <;> rfl), by (with_reducible repeat (first | apply Kd.Q_alloc | apply Kd.Q_drewN | apply Kd.Q_drew)); exact Kd.Q_mono (Kd.Q_far (p := ⟨gb224, 7, none⟩) (Kd.Q_far (p := ⟨gb224, 6, none⟩) (Kd.Q_far (p := ⟨gb224, 5, none⟩) (Kd.Q_far (p := ⟨gb224, 4, none⟩) (Kd.Q_far (p := ⟨gb224, 3, none⟩) (Kd.Q_far (p := ⟨gb224, 2, none⟩) (Kd.Q_far (p := ⟨gb224, 1, none⟩) (Kd.Q_far (p := ⟨gb224, 0, none⟩) (Kd.Q_far (p := ⟨gb237, 4, none⟩) (Kd.Q_types (Kd.Q_types HO246.out BK237.out (by decide)) BK224.out (by decide)) (fun _ hk => hk.1.2) (.slice A26 y244.length c26)) (fun _ hk => hk.2) (.int .i64 t225)) (fun _ hk => hk.2) (.int .i64 t226)) (fun _ hk => hk.2) (.int .i64 t227)) (fun _ hk => hk.2) (.bool t228)) (fun _ hk => hk.2) (.slice A26 y244.length c26)) (fun _ hk => hk.2) (.slice Ao16 t232.length co16)) (fun _ hk => hk.2) (.int .i64 t235)) (fun _ hk => hk.2) (.int .i64 t236)) (fun _ hk => hk.1.1), by (with_reducible repeat (first | apply Kd.R_alloc | apply Kd.R_drewN | apply Kd.R_drew)); exact Kd.R_mono (Go.Proofs.YthmfmpmljndjhaaV.R_far8 (g := gb224) (Kd.R_far (p := ⟨gb237, 4, none⟩) (Kd.R_types (Kd.R_types HO234.out BK237.out (by decide)) BK224.out (by decide)) (fun _ hk => hk.1.2) (.slice A26 y244.length c26)) (fun _ hk => hk.2)) (fun _ hk => hk.1.1), qB HB⟩
  ·
   rw [if_neg c5] at H
   exact absurd H (by simp)
 ·
  rw [if_neg c4] at H
  exact absurd H (by simp)

end Go.Proofs.Ythmfmpmljndjhaa.PFnExactEat
