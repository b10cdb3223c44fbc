-- Written by a program of this session (myprint.py, over the kit's print): contracts of FnExactPutCtl
import Derived.Test.YtahfemlfdpbkkaaPFnExactPutCtlx0
import Derived.Test.YtahfemlfdpbkkaaPFnExactPutCtlx7
import Derived.Test.YtahfemlfdpbkkaaPFnExactPutCtlx8
import Derived.Test.YtahfemlfdpbkkaaPFnExactPutCtlx9
namespace Go.Proofs.Ytahfemlfdpbkkaa.PFnExactPutCtl
open Go.RowKit Go.Proofs.YtahfemlfdpbkkaaW.PrintWords Go.Proofs.YtahfemlfdpbkkaaW.PrintLast Go.Proofs.YtahfemlfdpbkkaaW.PrintMore Go.Proofs.YtahfemlfdpbkkaaV
attribute [local go_sem] max2_int min2_int max_two min_two max_three min_three max_four min_four   -- for this text's walks alone
set_option linter.unusedVariables false
set_option linter.unusedSimpArgs false

/-! ### spec_PutCtl: function 61 -/
mutual
def spec_PutCtl.j0 : Nat → Int → Int → Int → Int → Int → Int → Bool → Int → List (S48) → Option (List Int)
 | 0, _, _, _, _, _, _, _, _, _ => none
 | k + 1, x3, x315000, x315001, x315002, x315003, x315004, x315005, x315006, x315007 => (spec_PutWord.f (([(x315000) % 256, (x315001) % 256] : List Int)) x315002).bind fun t322 => ((some (([(x315003) % 256, (x315004) % 256, (x3) % 256] : List Int) : List Int)).bind fun y325 => (if t322.length + y325.length < 140737488355328 then ((spec_PutWord.f (t322 ++ y325) x315006).bind fun t331 => ((some (([((x315007.length : Int)) % 256] : List Int) : List Int)).bind fun y334 => (if t331.length + y334.length < 140737488355328 then (spec_PutCtl.l0 k (t331 ++ y334) 0 x315000 x315001 x315002 x315003 x315004 x315005 x315006 x315007) else (none)))) else (none)))
def spec_PutCtl.l0 : Nat → List Int → Int → Int → Int → Int → Int → Int → Bool → Int → List (S48) → Option (List Int)
 | 0, _, _, _, _, _, _, _, _, _, _ => none
 | k + 1, x4, x5, x315000, x315001, x315002, x315003, x315004, x315005, x315006, x315007 => if x5 < (x315007.length : Int) then (if 0 ≤ x5 then ((spec_PutItem.f k ((rd_T48 x315007 x5).f0) ((rd_T48 x315007 x5).f1.f0) ((rd_T48 x315007 x5).f1.f1) ((rd_T48 x315007 x5).f1.f2) ((rd_T48 x315007 x5).f1.f3) ((rd_T48 x315007 x5).f1.f4) ((rd_T48 x315007 x5).f1.f5) ((rd_T48 x315007 x5).f1.f6) ((rd_T48 x315007 x5).f1.f7) ((rd_T48 x315007 x5).f2.f0) ((rd_T48 x315007 x5).f2.f1) ((rd_T48 x315007 x5).f2.f2) ((rd_T48 x315007 x5).f2.f3) ((rd_T48 x315007 x5).f2.f4) ((rd_T48 x315007 x5).f2.f5) ((rd_T48 x315007 x5).f2.f6)).bind fun t341 => ((some (([((t341.length : Int)) % 256] : List Int) : List Int)).bind fun y344 => (if x4.length + y344.length < 140737488355328 then ((some (x4 ++ y344 : List Int)).bind fun y347 => (if y347.length + t341.length < 140737488355328 then (spec_PutCtl.l0 k (y347 ++ t341) (wrap64 (x5 + 1)) x315000 x315001 x315002 x315003 x315004 x315005 x315006 x315007) else (none))) else (none)))) else (none)) else ((spec_Sum.f k x4).bind fun t353 => ((spec_PutWord.f x4 t353).bind fun t354 => (some t354)))
end
def spec_PutCtl.f (k : Nat) (a0_0 : Int) (a0_1 : Int) (a0_2 : Int) (a0_3 : Int) (a0_4 : Int) (a0_5 : Bool) (a0_6 : Int) (l0_7 : List (S48)) : Option (List Int) := (spec_CtlOk.f k a0_0 a0_1 a0_2 a0_3 a0_4 a0_5 a0_6 l0_7).bind fun t315 => (if t315 = true then (if a0_5 = true then (spec_PutCtl.j0 k 1 a0_0 a0_1 a0_2 a0_3 a0_4 a0_5 a0_6 l0_7) else (spec_PutCtl.j0 k 0 a0_0 a0_1 a0_2 a0_3 a0_4 a0_5 a0_6 l0_7)) else (some (([] : List Int))))
theorem spec_PutCtl.mono_l : ∀ k, (∀ y0 y1 y2 y3 y4 y5 y6 y7 y8, LeO (spec_PutCtl.j0 k y0 y1 y2 y3 y4 y5 y6 y7 y8) (spec_PutCtl.j0 (k + 1) y0 y1 y2 y3 y4 y5 y6 y7 y8)) ∧ (∀ y0 y1 y2 y3 y4 y5 y6 y7 y8 y9, LeO (spec_PutCtl.l0 k y0 y1 y2 y3 y4 y5 y6 y7 y8 y9) (spec_PutCtl.l0 (k + 1) y0 y1 y2 y3 y4 y5 y6 y7 y8 y9))
 | 0 => ⟨fun _ _ _ _ _ _ _ _ _ r h => by simp [spec_PutCtl.j0] at h, fun _ _ _ _ _ _ _ _ _ _ r h => by simp [spec_PutCtl.l0] at h⟩
 | k + 1 => by
  obtain ⟨ih0, ih1⟩ := spec_PutCtl.mono_l k
  refine ⟨?_, ?_⟩
  ·
   intro y0 y1 y2 y3 y4 y5 y6 y7 y8
   unfold spec_PutCtl.j0
   repeat' first
   | (with_reducible exact ih0 _ _ _ _ _ _ _ _ _)
   | (with_reducible exact ih1 _ _ _ _ _ _ _ _ _ _)
   | (with_reducible exact spec_CtlOk.mono _ _ _ _ _ _ _ _ _)
   | (with_reducible exact spec_PutItem.mono _ _ _ _ _ _ _ _ _ _ _ _ _ _ _ _ _)
   | (with_reducible exact spec_Sum.mono _ _)
   | (with_reducible exact LeO.refl _)
   | (with_reducible exact LeO.none _)
   | (with_reducible refine LeO.ite ?_ ?_)
   | (with_reducible refine LeO.bind ?_ (fun _ => ?_))
   | exact ih0 _ _ _ _ _ _ _ _ _
   | exact ih1 _ _ _ _ _ _ _ _ _ _
   | exact spec_CtlOk.mono _ _ _ _ _ _ _ _ _
   | exact spec_PutItem.mono _ _ _ _ _ _ _ _ _ _ _ _ _ _ _ _ _
   | exact spec_Sum.mono _ _
   | exact LeO.none _
   | refine LeO.ite ?_ ?_
   | refine LeO.bind ?_ (fun _ => ?_)
  ·
   intro y0 y1 y2 y3 y4 y5 y6 y7 y8 y9
   unfold spec_PutCtl.l0
   repeat' first
   | (with_reducible exact ih0 _ _ _ _ _ _ _ _ _)
   | (with_reducible exact ih1 _ _ _ _ _ _ _ _ _ _)
   | (with_reducible exact spec_CtlOk.mono _ _ _ _ _ _ _ _ _)
   | (with_reducible exact spec_PutItem.mono _ _ _ _ _ _ _ _ _ _ _ _ _ _ _ _ _)
   | (with_reducible exact spec_Sum.mono _ _)
   | (with_reducible exact LeO.refl _)
   | (with_reducible exact LeO.none _)
   | (with_reducible refine LeO.ite ?_ ?_)
   | (with_reducible refine LeO.bind ?_ (fun _ => ?_))
   | exact ih0 _ _ _ _ _ _ _ _ _
   | exact ih1 _ _ _ _ _ _ _ _ _ _
   | exact spec_CtlOk.mono _ _ _ _ _ _ _ _ _
   | exact spec_PutItem.mono _ _ _ _ _ _ _ _ _ _ _ _ _ _ _ _ _
   | exact spec_Sum.mono _ _
   | exact LeO.none _
   | refine LeO.ite ?_ ?_
   | refine LeO.bind ?_ (fun _ => ?_)
theorem spec_PutCtl.mono : ∀ a0 a1 a2 a3 a4 a5 a6 a7 k, LeO (spec_PutCtl.f k a0 a1 a2 a3 a4 a5 a6 a7) (spec_PutCtl.f (k + 1) a0 a1 a2 a3 a4 a5 a6 a7) := by
 intro a0 a1 a2 a3 a4 a5 a6 a7 k
 obtain ⟨ih0, ih1⟩ := spec_PutCtl.mono_l k
 unfold spec_PutCtl.f
 repeat' first
   | (with_reducible exact ih0 _ _ _ _ _ _ _ _ _)
   | (with_reducible exact ih1 _ _ _ _ _ _ _ _ _ _)
   | (with_reducible exact spec_CtlOk.mono _ _ _ _ _ _ _ _ _)
   | (with_reducible exact spec_PutItem.mono _ _ _ _ _ _ _ _ _ _ _ _ _ _ _ _ _)
   | (with_reducible exact spec_Sum.mono _ _)
   | (with_reducible exact LeO.refl _)
   | (with_reducible exact LeO.none _)
   | (with_reducible refine LeO.ite ?_ ?_)
   | (with_reducible refine LeO.bind ?_ (fun _ => ?_))
   | exact ih0 _ _ _ _ _ _ _ _ _
   | exact ih1 _ _ _ _ _ _ _ _ _ _
   | exact spec_CtlOk.mono _ _ _ _ _ _ _ _ _
   | exact spec_PutItem.mono _ _ _ _ _ _ _ _ _ _ _ _ _ _ _ _ _
   | exact spec_Sum.mono _ _
   | exact LeO.none _
   | refine LeO.ite ?_ ?_
   | refine LeO.bind ?_ (fun _ => ?_)
def spec_PutCtl.T7 : Bool × List (List Nat × List Nat) := (true, [([], []), ([], []), ([1], [1]), ([2], [2]), ([], []), ([4], [4]), ([5], [5]), ([], []), ([7], [7]), ([3, 6, 8], [3, 6, 8]), ([0, 9], [0, 9]), ([], []), ([11], [11]), ([10, 12, 10], [10, 12]), ([], []), ([14], [14]), ([15], [15]), ([16], [16]), ([17], [17]), ([13, 18, 13], [13, 18]), ([19, 19, 0, 1, 2, 3, 4, 5, 6, 7, 8, 9, 10, 11, 12, 13, 14, 15, 16, 17, 18, 19], [0, 19])])
def spec_PutCtl.B7 : List Nat := [0, 0, 2, 6, 0, 16, 48, 0, 128, 510, 1023, 0, 2048, 8191, 0, 16384, 49152, 114688, 245760, 524287, 1048575]
theorem spec_PutCtl.tab7 : rtab .any (opsOf Try.f61 7) = spec_PutCtl.T7 := by kernel_rfl
theorem spec_PutCtl.bits7 : waitsOk spec_PutCtl.T7.2 spec_PutCtl.B7 = true := by kernel_rfl
set_option maxHeartbeats 8000000 in
set_option maxRecDepth 100000 in
theorem spec_PutCtl.calls (k : Nat) (a0_0 : Int) (a0_1 : Int) (a0_2 : Int) (a0_3 : Int) (a0_4 : Int) (a0_5 : Bool) (a0_6 : Int) (A0_7 : Option Addr) (c0_7 : Nat) (l0_7 : List (S48)) (r : List Int) (w : World) (hr0_7 : Kd.C k48 w A0_7 l0_7.length l0_7) (hc0_7 : l0_7.length ≤ c0_7) (h : spec_PutCtl.f k a0_0 a0_1 a0_2 a0_3 a0_4 a0_5 a0_6 l0_7 = some r) :
  Calls Try.prog 61 #[.agg #[.int .i64 a0_0, .int .i64 a0_1, .int .i64 a0_2, .int .i64 a0_3, .int .i64 a0_4, .bool a0_5, .int .i64 a0_6, .slice A0_7 l0_7.length c0_7]] w fun e w' => ∃ v0_ : Value, e = .returned (v0_) ∧ Kd.R (Kd.int .u8) 5 w' w.heap.size (fun _ => True) v0_ r ∧ Below w.heap.size w w' := by
 have hu86 := Try.underlying86
 have hu48 := Try.underlying48
 have HR0_7 := Aside0.mk hr0_7
 have HC0_7 := Aside0.mk hc0_7
 clear hr0_7 hc0_7
 have HB := Aside0.mk (Below.refl w.heap.size w)
 have H : ((spec_CtlOk.f k a0_0 a0_1 a0_2 a0_3 a0_4 a0_5 a0_6 l0_7).bind fun t315 => (if t315 = true then (if a0_5 = true then (spec_PutCtl.j0 k 1 a0_0 a0_1 a0_2 a0_3 a0_4 a0_5 a0_6 l0_7) else (spec_PutCtl.j0 k 0 a0_0 a0_1 a0_2 a0_3 a0_4 a0_5 a0_6 l0_7)) else (some (([] : List Int))))) = some r := h
 clear h
 obtain ⟨t315, A2, H⟩ := bd_ H
 have HC3 := Aside0.mk H
 clear H
 go_enter Try.func61, Try.ntmps61
 go_upto_if 9 with (first | ((with_reducible refine gate_dst (N := 1) rfl ?_); refine box_event ?hg (N := 1) ?hd (cs := #[.int .i64 a0_0, .int .i64 a0_1, .int .i64 a0_2, .int .i64 a0_3, .int .i64 a0_4, .bool a0_5, .int .i64 a0_6, .slice A0_7 l0_7.length c0_7]) (t := 86) ?hr ?_; (case hd => rfl); (case hg => rfl); (case hr => first | (go_simp; done) | (go_simp; rfl)); intro gb314 hg w4 hbox hb; have BK314 := am_ (hbox); have GW314 := am_ ((gG_ hg (qB HB))); have IGW314 := gI_ GW314; have GE314 := am_ ((gG_ hg (qB HB))); have IGE314 := gI_ GE314; replace HB := am_ (below_step (qB HB) hb); clear hb hbox hg; obtain ⟨z5_0, z5_1, z5_2, z5_3, z5_4, z5_5, z5_6, z5_7⟩ := cz8 BK314.out; obtain ⟨f5_0, f5_1, f5_2, f5_3, f5_4, f5_5, f5_6, f5_7⟩ := fz8 BK314.out) | ((with_reducible refine gate_callee (f := 47) rfl ?_); refine goesL_ (some 8) rfl rfl Try.func47 (by kernel_rfl) rfl #[.agg #[.int .i64 a0_0, .int .i64 a0_1, .int .i64 a0_2, .int .i64 a0_3, .int .i64 a0_4, .bool a0_5, .int .i64 a0_6, .slice A0_7 l0_7.length c0_7]] rfl la_ ?_; (with_reducible refine (spec_CtlOk.calls k a0_0 a0_1 a0_2 a0_3 a0_4 a0_5 a0_6 _ _ l0_7 t315 _ ?side1 ?side2 A2.out).mono ?_); (case side1 => exact qC (Kd.C_below HR0_7.out HB.out)); (case side2 => exact HC0_7.out); rintro e w6 ⟨rfl, hb⟩; refine ⟨_, rfl, ?_⟩; replace BK314 := am_ (blk_below (qK BK314) hb); replace HB := am_ (below_step (qB HB) hb); (try clear hb); (try clear hb2); (try clear hk); (try clear hi)))
 (try simp only [Act.put, List.setIfInBounds_toArray, List.set_cons_zero, List.set_cons_succ])
 have H := HC3.out
 clear HC3
 by_cases c7 : t315 = true
 ·
  subst c7
  rw [if_pos rfl] at H
  have HC8 := Aside0.mk H
  clear H
  obtain ⟨z9_0, z9_1, z9_2, z9_3, z9_4, z9_5, z9_6, z9_7⟩ := cz8 BK314.out
  obtain ⟨f9_0, f9_1, f9_2, f9_3, f9_4, f9_5, f9_6, f9_7⟩ := fz8 BK314.out
  go_upto_if 12 with (fail)
  go_cut [3] (fun v3 wc => ∃ (kq : Nat) (x3_7 : Int), v3 = .int .i64 x3_7 ∧ Aside0 (spec_PutCtl.j0 kq x3_7 a0_0 a0_1 a0_2 a0_3 a0_4 a0_5 a0_6 l0_7 = some r) ∧ Aside0 (kq ≤ k) ∧ Aside0 (wc.heap[gb314]? = some (.cells #[.int .i64 a0_0, .int .i64 a0_1, .int .i64 a0_2, .int .i64 a0_3, .int .i64 a0_4, .bool a0_5, .int .i64 a0_6, (.slice A0_7 l0_7.length c0_7)] 86 (0, 0))) ∧ Aside0 (Below w.heap.size w wc))
  case first =>
   have H := HC8.out
   clear HC8
   by_cases c10 : a0_5 = true
   ·
    subst c10
    rw [if_pos rfl] at H
    have H' := Aside0.mk H
    clear H
    go_wp2
    go_meet
    case rel => exact ⟨_, (1), eqq_, H', ⟨by first | omega | exact Nat.le_refl _⟩, ⟨qK BK314⟩, ⟨qB HB⟩⟩
   ·
    replace c10 := Bool.eq_false_iff.mpr c10
    subst c10
    rw [if_neg (show ¬ (false = true) by decide)] at H
    have H' := Aside0.mk H
    clear H
    go_wp2
    go_meet
    case rel => exact ⟨_, (0), eqq_, H', ⟨by first | omega | exact Nat.le_refl _⟩, ⟨qK BK314⟩, ⟨qB HB⟩⟩
  case rest =>
   clear HC8
   try clear c1
   try clear p2
   try clear c4
   try clear c6
   try clear c7
   try clear c10
   (try clear z5_0 z5_1 z5_2 z5_3 z5_4 z5_5 z5_6 z5_7)
   (try clear z9_0 z9_1 z9_2 z9_3 z9_4 z9_5 z9_6 z9_7)
   (try clear f5_0 f5_1 f5_2 f5_3 f5_4 f5_5 f5_6 f5_7)
   (try clear f9_0 f9_1 f9_2 f9_3 f9_4 f9_5 f9_6 f9_7)
   obtain ⟨kq, x3_7, rfl, HA, HJ7, BK314, HB⟩ := hcut
   cases kq with
   | zero => exact absurd HA.out (by simp [spec_PutCtl.j0])
   | succ kj7 =>
    have H := HA.out
    clear HA
    simp only [spec_PutCtl.j0] at H
    obtain ⟨y319, hy319⟩ : ∃ y_ : List Int, y_ = (([(a0_0) % 256, (a0_1) % 256] : List Int)) := ⟨_, rfl⟩
    rw [← hy319] at H
    have Ny319 := Aside0.mk hy319
    clear hy319
    obtain ⟨t322, A11, H⟩ := bd_ H
    obtain ⟨y325, hy325⟩ : ∃ y_ : List Int, y_ = (([(a0_3) % 256, (a0_4) % 256, (x3_7) % 256] : List Int)) := ⟨_, rfl⟩
    replace H := mk_ H hy325
    (try dsimp only at H)
    have Ny325 := Aside0.mk hy325
    clear hy325
    by_cases c12 : t322.length + y325.length < 140737488355328
    ·
     rw [if_pos c12] at H
     have LMc12 := Aside0.mk c12
     clear c12
     obtain ⟨y328, hy328⟩ : ∃ y_ : List Int, y_ = (t322 ++ y325) := ⟨_, rfl⟩
     replace H : ((spec_PutWord.f y328 a0_6).bind fun t331 => ((some (([((l0_7.length : Int)) % 256] : List Int) : List Int)).bind fun y334 => (if t331.length + y334.length < 140737488355328 then (spec_PutCtl.l0 kj7 (t331 ++ y334) 0 a0_0 a0_1 a0_2 a0_3 a0_4 a0_5 a0_6 l0_7) else (none)))) = some r := by first | (rw [hy328]; with_reducible exact H) | (have H2_ := (Option.bind_some _ _).symm.trans H; rw [hy328]; with_reducible exact H2_) | (have H2_ := (Option.bind_some _ _).symm.trans H; with_reducible exact H2_) | with_reducible exact H | (rw [hy328]; exact H) | exact H
     have Ny328 := Aside0.mk hy328
     clear hy328
     obtain ⟨t331, A13, H⟩ := bd_ H
     obtain ⟨y334, hy334⟩ : ∃ y_ : List Int, y_ = (([((l0_7.length : Int)) % 256] : List Int)) := ⟨_, rfl⟩
     replace H := mk_ H hy334
     (try dsimp only at H)
     have Ny334 := Aside0.mk hy334
     clear hy334
     by_cases c14 : t331.length + y334.length < 140737488355328
     ·
      rw [if_pos c14] at H
      have LMc14 := Aside0.mk c14
      clear c14
      obtain ⟨y337, hy337⟩ : ∃ y_ : List Int, y_ = (t331 ++ y334) := ⟨_, rfl⟩
      replace H : (spec_PutCtl.l0 kj7 y337 0 a0_0 a0_1 a0_2 a0_3 a0_4 a0_5 a0_6 l0_7) = some r := by first | (rw [hy337]; with_reducible exact H) | (have H2_ := (Option.bind_some _ _).symm.trans H; rw [hy337]; with_reducible exact H2_) | (have H2_ := (Option.bind_some _ _).symm.trans H; with_reducible exact H2_) | with_reducible exact H | (rw [hy337]; exact H) | exact H
      have Ny337 := Aside0.mk hy337
      clear hy337
      have H' := Aside0.mk H
      clear H
      obtain ⟨z15_0, z15_1, z15_2, z15_3, z15_4, z15_5, z15_6, z15_7⟩ := cz8 BK314.out
      obtain ⟨f15_0, f15_1, f15_2, f15_3, f15_4, f15_5, f15_6, f15_7⟩ := fz8 BK314.out
      try go_wp2_with (first | ((with_reducible refine gate_dst (N := 19) rfl ?_); refine Kd.R_lit (Kd.int .u8) _ 5 ?hg (N := 19) ?hd (xs := ([(a0_0) % 256, (a0_1) % 256] : List Int)) (inner := [.int .u8 ((a0_0) % 256), .int .u8 ((a0_1) % 256)]) (ok := fun _ => True) (okp := fun _ => True) ?hr ?hp (fun _ hk => hk) trivial (Below.refl _ _) (Nat.le_refl _) (by simp) ?_; (case hd => rfl); (case hg => rfl); (case hr => first | (go_simp; done) | (go_simp; rfl)); (case hp => exact (Reps.one (show Kd.M (Kd.int .u8) _ _ _ ((a0_0) % 256) [.int .u8 ((a0_0) % 256)] from rfl) (Reps.one (show Kd.M (Kd.int .u8) _ _ _ ((a0_1) % 256) [.int .u8 ((a0_1) % 256)] from rfl) (Reps.none _ _)))); intro v320 w16 ho17 hb hg_ hnew_; clear hg_ hnew_; (first | rw [← Ny319.out] at ho17 | (simp only [Int.reduceToNat] at ho17; rw [← Ny319.out] at ho17)); have HO321 := am_ (Kd.R_lower ho17 (below_size (qB HB))); replace BK314 := am_ (blk_below (qK BK314) hb); replace HB := am_ (below_step (qB HB) hb); clear hb ho17; obtain ⟨z18_0, z18_1, z18_2, z18_3, z18_4, z18_5, z18_6, z18_7⟩ := cz8 BK314.out; obtain ⟨f18_0, f18_1, f18_2, f18_3, f18_4, f18_5, f18_6, f18_7⟩ := fz8 BK314.out; obtain ⟨Ao19, co19, eo19⟩ := Kd.R_slice HO321.out; subst eo19) | ((with_reducible refine gate_callee (f := 75) rfl ?_); refine goesL_ (some 22) rfl rfl Try.func75 (by kernel_rfl) rfl #[.slice Ao19 y319.length co19, .int .i64 a0_2] rfl la_ ?_; (with_reducible refine (spec_PutWord.calls _ _ y319 a0_2 t322 _ ?side1 ?side2 A11.out).mono ?_); (case side1 => exact qC ((Kd.R_reads' HO321.out).2.2)); (case side2 => exact (Kd.R_reads' HO321.out).2.1); rintro e w20 ⟨v323, rfl, ho0, hb⟩; refine ⟨_, rfl, ?_⟩; have HO324 := am_ (Kd.R_lower (Kd.R_new' ho0 (Kd.R_lt (qR HO321))) (below_size (qB HB))); replace HO321 := am_ (eR HO321 ho0 hb); replace BK314 := am_ (blk_below (qK BK314) hb); replace HB := am_ (below_step (qB HB) hb); (try clear hb); (try clear hb2); (try clear hk); (try clear hi); (try clear ho0); obtain ⟨Ao21, co21, eo21⟩ := Kd.R_slice HO324.out; subst eo21))
      replace HO321 := am_ (Kd.R_drew HO321.out)
      replace HO324 := am_ (Kd.R_drew HO324.out)
      replace BK314 := am_ (blk_drew BK314.out)
      replace HB := am_ (below_drew1 HB.out)
      refine start_ (n := 21) (S := fun w' => w'.cell? ⟨gb314, 0, none⟩ = some (.int .i64 a0_0) ∧ w'.cell? ⟨gb314, 1, none⟩ = some (.int .i64 a0_1) ∧ w'.cell? ⟨gb314, 2, none⟩ = some (.int .i64 a0_2) ∧ w'.cell? ⟨gb314, 3, none⟩ = some (.int .i64 a0_3) ∧ w'.cell? ⟨gb314, 4, none⟩ = some (.int .i64 a0_4) ∧ w'.cell? ⟨gb314, 5, none⟩ = some (.bool a0_5) ∧ w'.cell? ⟨gb314, 6, none⟩ = some (.int .i64 a0_6) ∧ w'.cell? ⟨gb314, 7, none⟩ = some (.slice A0_7 l0_7.length c0_7)) (ds := []) #[oo,oo,oo,oo,oo,oo,oo,oo,oo,oo,oo,oo,oo,oo,oo,oo,oo,oo,oo,oo,oo] (by kernel_rfl) rfl rfl (cz8 BK314.out) (fun hHeld => ?_); refine with_tabW spec_PutCtl.tab7 spec_PutCtl.bits7 (fun HT_ HW_ => ?_)
      generalize w20.drew = w22 at HO321 HO324 BK314 HB hHeld ⊢
      refine pure_ (i := 0) (N := some 23) (v := ?_) (a' := ?_) #[ii,oo,oo,oo,oo,oo,oo,oo,oo,oo,oo,oo,oo,oo,oo,oo,oo,oo,oo,oo,oo] rfl rfl (any_of HT_.out (by kernel_rfl)) (fun _ _ _ h => h) (Or.inl ⟨by rfl, ?_⟩) ?_ ?_
      rotate_left
      ·
       intro w'
       go_simp
       with_reducible rfl
      rotate_left
      ·
       exact ap_
      refine pure_ (i := 1) (N := some 24) (v := ?_) (a' := ?_) #[ii,ii,oo,oo,oo,oo,oo,oo,oo,oo,oo,oo,oo,oo,oo,oo,oo,oo,oo,oo,oo] rfl rfl (any_of HT_.out (by kernel_rfl)) (fun _ _ _ h => h) (Or.inl ⟨by rfl, ?_⟩) ?_ ?_
      rotate_left
      ·
       intro w'
       go_simp
       with_reducible rfl
      rotate_left
      ·
       exact ap_
      refine pure_ (i := 4) (N := some 27) (v := ?_) (a' := ?_) #[ii,ii,oo,oo,ii,oo,oo,oo,oo,oo,oo,oo,oo,oo,oo,oo,oo,oo,oo,oo,oo] rfl rfl (any_of HT_.out (by kernel_rfl)) (fun _ _ _ h => h) (Or.inl ⟨by rfl, ?_⟩) ?_ ?_
      rotate_left
      ·
       intro w'
       go_simp
       with_reducible rfl
      rotate_left
      ·
       exact ap_
      refine pure_ (i := 7) (N := some 30) (v := ?_) (a' := ?_) #[ii,ii,oo,oo,ii,oo,oo,ii,oo,oo,oo,oo,oo,oo,oo,oo,oo,oo,oo,oo,oo] rfl rfl (any_of HT_.out (by kernel_rfl)) (fun _ _ _ h => h) (Or.inl ⟨by rfl, ?_⟩) ?_ ?_
      rotate_left
      ·
       intro w'
       go_simp
       with_reducible rfl
      rotate_left
      ·
       exact ap_
      refine pure_ (i := 8) (N := some 31) (v := ?_) (a' := ?_) #[ii,ii,oo,oo,ii,oo,oo,ii,ii,oo,oo,oo,oo,oo,oo,oo,oo,oo,oo,oo,oo] rfl rfl (any_of HT_.out (by kernel_rfl)) (fun _ _ _ h => h) (Or.inl ⟨by rfl, ?_⟩) ?_ ?_
      rotate_left
      ·
       intro w'
       go_simp
       with_reducible rfl
      rotate_left
      ·
       exact ap_
      refine pure_ (i := 11) (N := some 34) (v := ?_) (a' := ?_) #[ii,ii,oo,oo,ii,oo,oo,ii,ii,oo,oo,ii,oo,oo,oo,oo,oo,oo,oo,oo,oo] rfl rfl (any_of HT_.out (by kernel_rfl)) (fun _ _ _ h => h) (Or.inl ⟨by rfl, ?_⟩) ?_ ?_
      rotate_left
      ·
       intro w'
       go_simp
       with_reducible rfl
      rotate_left
      ·
       exact ap_
      refine pure_ (i := 14) (N := some 37) (v := ?_) (a' := ?_) #[ii,ii,oo,oo,ii,oo,oo,ii,ii,oo,oo,ii,oo,oo,ii,oo,oo,oo,oo,oo,oo] rfl rfl (any_of HT_.out (by kernel_rfl)) (fun _ _ _ h => h) (Or.inl ⟨by rfl, ?_⟩) ?_ ?_
      rotate_left
      ·
       intro w'
       go_simp
       with_reducible rfl
      rotate_left
      ·
       exact ap_
      refine take_ (i := 2) (N := some 25) (v := ?_) (a' := ?_) #[ii,ii,ii,oo,ii,oo,oo,ii,ii,oo,oo,ii,oo,oo,ii,oo,oo,oo,oo,oo,oo] rfl rfl (take_ofW HT_.out HW_.out (by kernel_rfl)) (fun _ _ _ h => h) (Or.inl ⟨by rfl, ?_⟩) hHeld ?_ ?_
      rotate_left
      ·
       rintro w' ⟨s0, s1, s2, s3, s4, s5, s6, s7⟩
       go_simp
       with_reducible rfl
      rotate_left
      ·
       exact ap_
      refine pure_ (i := 3) (N := some 26) (v := ?_) (a' := ?_) #[ii,ii,ii,ii,ii,oo,oo,ii,ii,oo,oo,ii,oo,oo,ii,oo,oo,oo,oo,oo,oo] rfl rfl (any_of HT_.out (by kernel_rfl)) (fun _ _ _ h => h) (Or.inl ⟨by rfl, ?_⟩) ?_ ?_
      rotate_left
      ·
       intro w'
       go_simp
       with_reducible rfl
      rotate_left
      ·
       exact ap_
      refine take_ (i := 5) (N := some 28) (v := ?_) (a' := ?_) #[ii,ii,ii,ii,ii,ii,oo,ii,ii,oo,oo,ii,oo,oo,ii,oo,oo,oo,oo,oo,oo] rfl rfl (take_ofW HT_.out HW_.out (by kernel_rfl)) (fun _ _ _ h => h) (Or.inl ⟨by rfl, ?_⟩) hHeld ?_ ?_
      rotate_left
      ·
       rintro w' ⟨s0, s1, s2, s3, s4, s5, s6, s7⟩
       go_simp
       with_reducible rfl
      rotate_left
      ·
       exact ap_
      refine pure_ (i := 6) (N := some 29) (v := ?_) (a' := ?_) #[ii,ii,ii,ii,ii,ii,ii,ii,ii,oo,oo,ii,oo,oo,ii,oo,oo,oo,oo,oo,oo] rfl rfl (any_of HT_.out (by kernel_rfl)) (fun _ _ _ h => h) (Or.inl ⟨by rfl, ?_⟩) ?_ ?_
      rotate_left
      ·
       intro w'
       go_simp
       with_reducible rfl
      rotate_left
      ·
       exact ap_
      refine take_ (i := 12) (N := some 35) (v := ?_) (a' := ?_) #[ii,ii,ii,ii,ii,ii,ii,ii,ii,oo,oo,ii,ii,oo,ii,oo,oo,oo,oo,oo,oo] rfl rfl (take_ofW HT_.out HW_.out (by kernel_rfl)) (fun _ _ _ h => h) (Or.inl ⟨by rfl, ?_⟩) hHeld ?_ ?_
      rotate_left
      ·
       rintro w' ⟨s0, s1, s2, s3, s4, s5, s6, s7⟩
       go_simp
       with_reducible rfl
      rotate_left
      ·
       exact ap_
      refine take_ (i := 15) (N := some 38) (v := ?_) (a' := ?_) #[ii,ii,ii,ii,ii,ii,ii,ii,ii,oo,oo,ii,ii,oo,ii,ii,oo,oo,oo,oo,oo] rfl rfl (take_ofW HT_.out HW_.out (by kernel_rfl)) (fun _ _ _ h => h) (Or.inl ⟨by rfl, ?_⟩) hHeld ?_ ?_
      rotate_left
      ·
       rintro w' ⟨s0, s1, s2, s3, s4, s5, s6, s7⟩
       go_simp
       with_reducible rfl
      rotate_left
      ·
       exact ap_
      refine pure_ (i := 16) (N := some 39) (v := ?_) (a' := ?_) #[ii,ii,ii,ii,ii,ii,ii,ii,ii,oo,oo,ii,ii,oo,ii,ii,ii,oo,oo,oo,oo] rfl rfl (any_of HT_.out (by kernel_rfl)) (fun _ _ _ h => h) (Or.inl ⟨by rfl, ?_⟩) ?_ ?_
      rotate_left
      ·
       intro w'
       go_simp
       with_reducible rfl
      rotate_left
      ·
       exact ap_
      refine pure_ (i := 17) (N := some 40) (v := ?_) (a' := ?_) #[ii,ii,ii,ii,ii,ii,ii,ii,ii,oo,oo,ii,ii,oo,ii,ii,ii,ii,oo,oo,oo] rfl rfl (any_of HT_.out (by kernel_rfl)) (fun _ _ _ h => h) (Or.inl ⟨by rfl, ?_⟩) ?_ ?_
      rotate_left
      ·
       intro w'
       go_simp
       with_reducible rfl
      rotate_left
      ·
       exact ap_
      refine join_ (σ := Value × Value × Value × Value) 2 #[ii,ii,ii,ii,ii,ii,ii,ii,ii,ii,ii,ii,ii,ii,ii,ii,ii,ii,ii,oo,oo] (fun s_ => [(32, s_.1), (33, s_.2.1), (36, s_.2.2.1), (41, s_.2.2.2)]) (fun s_ w' => (w'.cell? ⟨gb314, 0, none⟩ = some (.int .i64 a0_0) ∧ w'.cell? ⟨gb314, 1, none⟩ = some (.int .i64 a0_1) ∧ w'.cell? ⟨gb314, 2, none⟩ = some (.int .i64 a0_2) ∧ w'.cell? ⟨gb314, 3, none⟩ = some (.int .i64 a0_3) ∧ w'.cell? ⟨gb314, 4, none⟩ = some (.int .i64 a0_4) ∧ w'.cell? ⟨gb314, 5, none⟩ = some (.bool a0_5) ∧ w'.cell? ⟨gb314, 6, none⟩ = some (.int .i64 a0_6) ∧ w'.cell? ⟨gb314, 7, none⟩ = some (.slice A0_7 l0_7.length c0_7)) ∧ (Kd.R (Kd.int .u8) 5 w' w.heap.size (fun k_ => some k_ ≠ (s_.1 : Value).ownBlock ∧ some k_ ≠ (s_.2.1 : Value).ownBlock ∧ some k_ ≠ (s_.2.2.1 : Value).ownBlock ∧ some k_ ≠ (s_.2.2.2 : Value).ownBlock) (.slice Ao19 y319.length co19) y319) ∧ (Kd.R (Kd.int .u8) 5 w' w.heap.size (fun k_ => some k_ ≠ (.slice Ao19 y319.length co19 : Value).ownBlock ∧ some k_ ≠ (s_.2.1 : Value).ownBlock ∧ some k_ ≠ (s_.2.2.1 : Value).ownBlock ∧ some k_ ≠ (s_.2.2.2 : Value).ownBlock) s_.1 y325) ∧ (Kd.R (Kd.int .u8) 5 w' w.heap.size (fun k_ => some k_ ≠ (.slice Ao19 y319.length co19 : Value).ownBlock ∧ some k_ ≠ (s_.1 : Value).ownBlock ∧ some k_ ≠ (s_.2.2.1 : Value).ownBlock ∧ some k_ ≠ (s_.2.2.2 : Value).ownBlock) s_.2.1 y328) ∧ (Kd.R (Kd.int .u8) 5 w' w.heap.size (fun k_ => some k_ ≠ (.slice Ao19 y319.length co19 : Value).ownBlock ∧ some k_ ≠ (s_.1 : Value).ownBlock ∧ some k_ ≠ (s_.2.1 : Value).ownBlock ∧ some k_ ≠ (s_.2.2.2 : Value).ownBlock) s_.2.2.1 t331) ∧ (Kd.R (Kd.int .u8) 5 w' w.heap.size (fun k_ => some k_ ≠ (.slice Ao19 y319.length co19 : Value).ownBlock ∧ some k_ ≠ (s_.1 : Value).ownBlock ∧ some k_ ≠ (s_.2.1 : Value).ownBlock ∧ some k_ ≠ (s_.2.2.1 : Value).ownBlock) s_.2.2.2 y334) ∧ (w'.heap[gb314]? = some (.cells #[.int .i64 a0_0, .int .i64 a0_1, .int .i64 a0_2, .int .i64 a0_3, .int .i64 a0_4, .bool a0_5, .int .i64 a0_6, .slice A0_7 l0_7.length c0_7] 86 (0, 0))) ∧ (Below w.heap.size w w')) ?_ ?_
      rotate_left
      ·
       intro hCont
       refine two_ (i := 9) (j := 18) (Ni := some 32) (Nj := some 41) #[ii,ii,ii,ii,ii,ii,ii,ii,ii,ii,oo,ii,ii,oo,ii,ii,ii,ii,oo,oo,oo] #[ii,ii,ii,ii,ii,ii,ii,ii,ii,oo,oo,ii,ii,oo,ii,ii,ii,ii,ii,oo,oo] rfl rfl rfl rfl (two_of HT_.out (by kernel_rfl)) (by decide) (by decide) (fun K hK => ?_) (fun K hK => ?_)
       ·
        skip
        refine Kd.R_lit_step (Kd.int .u8) _ 5 ?hg (N := 32) ?hd (xs := ([(a0_3) % 256, (a0_4) % 256, (x3_7) % 256] : List Int)) (inner := [.int .u8 ((a0_3) % 256), .int .u8 ((a0_4) % 256), .int .u8 ((x3_7) % 256)]) (ok := fun _ => True) (okp := fun _ => True) ?hr ?hp (fun _ hk => hk) trivial (Below.refl _ _) (Nat.le_refl _) (by simp) ?_; (case hd => rfl); (case hg => rfl); (case hr => first | (go_simp; done) | (go_simp; rfl)); (case hp => exact (Reps.one (show Kd.M (Kd.int .u8) _ _ _ ((a0_3) % 256) [.int .u8 ((a0_3) % 256)] from rfl) (Reps.one (show Kd.M (Kd.int .u8) _ _ _ ((a0_4) % 256) [.int .u8 ((a0_4) % 256)] from rfl) (Reps.one (show Kd.M (Kd.int .u8) _ _ _ ((x3_7) % 256) [.int .u8 ((x3_7) % 256)] from rfl) (Reps.none _ _)))))
        intro v326 w23 ho24 hb hg_ hnew_
        clear hg_ hnew_
        (first | rw [← Ny325.out] at ho24 | (simp only [Int.reduceToNat] at ho24; rw [← Ny325.out] at ho24))
        have HO327 := am_ (Kd.R_lower (Kd.R_new' (Kd.R_new' ho24 (Kd.R_lt (qR HO321))) (Kd.R_lt (qR HO324))) (below_size (qB HB)))
        replace HO321 := am_ (eR HO321 ho24 hb)
        replace HO324 := am_ (eR HO324 ho24 hb)
        replace BK314 := am_ (blk_below (qK BK314) hb)
        replace HB := am_ (below_step (qB HB) hb)
        clear hb ho24
        obtain ⟨Ao26, co26, eo26⟩ := Kd.R_slice HO327.out
        (first | subst eo26 | (injection eo26 with f1_ f2_ f3_; have f4_ := f1_.symm; have f5_ := f3_.symm; clear f1_ f2_ f3_; subst f4_; subst f5_))
        refine hK.out _ _ (cz8 BK314.out) (fun hHeld => ?_)
        clear hK K
        refine norm_ (a' := ?_) ?_ ?_
        rotate_left
        ·
         show Act.put _ (some 32) _ = _
         exact ap_
        refine two_ (i := 10) (j := 18) (Ni := some 33) (Nj := some 41) #[ii,ii,ii,ii,ii,ii,ii,ii,ii,ii,ii,ii,ii,oo,ii,ii,ii,ii,oo,oo,oo] #[ii,ii,ii,ii,ii,ii,ii,ii,ii,ii,oo,ii,ii,oo,ii,ii,ii,ii,ii,oo,oo] rfl rfl rfl rfl (two_of HT_.out (by kernel_rfl)) (by decide) (by decide) (fun K hK => ?_) (fun K hK => ?_)
        ·
         skip
         refine Kd.R_append_rows_step (Kd.int .u8) (w0 := w) w.heap.size (by rfl) (.tmp 23) (.tmp 32) 22 5 (.int .u8 0) 1 rfl Try.underlying22 info5 rfl (by decide) (by omega) (.slice Ao21 t322.length co21) t322 y325 _ _ _ (fun k_ => some k_ ≠ (.slice Ao19 y319.length co19 : Value).ownBlock ∧ some k_ ≠ (.slice Ao26 y325.length co26 : Value).ownBlock) (fun _ => False) rfl rfl ?aO ?aR (fun _ _ h => h) (fun _ h => h.elim) ?aF ?aB ?aS ?aL ?_
         (case aR => exact qC ((Kd.R_reads' HO327.out).2.2))
         (case aB => exact (qB HB))
         (case aF => exact (fun k_ hk => ⟨Kd.fresh' (Kd.R_lt (qR HO321)) k_ hk, Kd.fresh' (Kd.R_lt (qR HO327)) k_ hk⟩))
         (case aO => exact (tR (Kd.R_mono HO324.out (fun _ hk => ⟨hk.1.2, hk.2⟩))))
         (case aS => exact (below_size (qB HB)))
         (case aL => have := LMc12.out; omega)
         intro v329 w25 ho hb hg hat
         rw [← Ny328.out] at ho
         replace BK314 := am_ (blk_grown (qK BK314) hg (Kd.R_ne HO324.out BK314.out (by decide)))
         replace HO321 := am_ (Kd.R_after (ok := (fun k_ => some k_ ≠ (.slice Ao26 y325.length co26 : Value).ownBlock)) (tR (Kd.R_mono HO321.out (fun _ hk => ⟨hk.2, hk.1.2⟩))) hg hat)
         replace HO327 := am_ (Kd.R_after (ok := (fun k_ => some k_ ≠ (.slice Ao19 y319.length co19 : Value).ownBlock)) (tR (Kd.R_mono HO327.out (fun _ hk => ⟨hk.1.2, hk.2⟩))) hg hat)
         replace HB := am_ (hb)
         have HO330 := am_ (ho)
         clear HO324
         clear ho hb hg hat
         obtain ⟨Ao27, co27, eo27⟩ := Kd.R_slice HO330.out
         (first | subst eo27 | (injection eo27 with f1_ f2_ f3_; have f4_ := f1_.symm; have f5_ := f3_.symm; clear f1_ f2_ f3_; subst f4_; subst f5_))
         refine hK.out _ _ (cz8 BK314.out) (fun hHeld => ?_)
         clear hK K
         refine norm_ (a' := ?_) ?_ ?_
         rotate_left
         ·
          show Act.put _ (some 33) _ = _
          exact ap_
         refine two_ (i := 13) (j := 18) (Ni := some 36) (Nj := some 41) #[ii,ii,ii,ii,ii,ii,ii,ii,ii,ii,ii,ii,ii,ii,ii,ii,ii,ii,oo,oo,oo] #[ii,ii,ii,ii,ii,ii,ii,ii,ii,ii,ii,ii,ii,oo,ii,ii,ii,ii,ii,oo,oo] rfl rfl rfl rfl (two_of HT_.out (by kernel_rfl)) (by decide) (by decide) (fun K hK => ?_) (fun K hK => ?_)
         ·
          skip
          refine goes_ Try.func75 (by kernel_rfl) rfl #[.slice Ao27 y328.length co27, .int .i64 a0_6] (by rfl) rfl rfl la_ ?_
          with_reducible refine (spec_PutWord.calls _ _ y328 a0_6 t331 _ ?side1 ?side2 A13.out).mono ?_
          (case side1 => exact qC ((Kd.R_reads' HO330.out).2.2))
          (case side2 => exact (Kd.R_reads' HO330.out).2.1)
          rintro e w28 ⟨v332, rfl, ho0, hb⟩
          refine ⟨_, rfl, ?_⟩
          have HO333 := am_ (Kd.R_lower (Kd.R_new' (Kd.R_new' (Kd.R_new' ho0 (Kd.R_lt (qR HO321))) (Kd.R_lt (qR HO327))) (Kd.R_lt (qR HO330))) (below_size (qB HB)))
          replace HO321 := am_ (eR HO321 ho0 hb)
          replace HO327 := am_ (eR HO327 ho0 hb)
          replace HO330 := am_ (eR HO330 ho0 hb)
          replace BK314 := am_ (blk_below (qK BK314) hb)
          replace HB := am_ (below_step (qB HB) hb)
          (try clear hb ho0)
          refine hK.out _ _ (cz8 BK314.out) (fun hHeld => ?_)
          clear hK K
          refine norm_ (a' := ?_) ?_ ?_
          rotate_left
          ·
           show Act.put _ (some 36) _ = _
           exact ap_
          refine one_ (i := 18) (N := some 41) #[ii,ii,ii,ii,ii,ii,ii,ii,ii,ii,ii,ii,ii,ii,ii,ii,ii,ii,ii,oo,oo] rfl rfl (one_of HT_.out (by kernel_rfl)) (by decide) (fun K hK => ?_)
          refine Kd.R_lit_step (Kd.int .u8) _ 5 ?hg (N := 41) ?hd (xs := ([((l0_7.length : Int)) % 256] : List Int)) (inner := [.int .u8 (((l0_7.length : Int)) % 256)]) (ok := fun _ => True) (okp := fun _ => True) ?hr ?hp (fun _ hk => hk) trivial (Below.refl _ _) (Nat.le_refl _) (by simp) ?_; (case hd => rfl); (case hg => rfl); (case hr => first | (go_simp; done) | (go_simp; rfl)); (case hp => exact (Reps.one (show Kd.M (Kd.int .u8) _ _ _ (((l0_7.length : Int)) % 256) [.int .u8 (((l0_7.length : Int)) % 256)] from rfl) (Reps.none _ _)))
          intro v335 w29 ho30 hb hg_ hnew_
          clear hg_ hnew_
          (first | rw [← Ny334.out] at ho30 | (simp only [Int.reduceToNat] at ho30; rw [← Ny334.out] at ho30))
          have HO336 := am_ (Kd.R_lower (Kd.R_new' (Kd.R_new' (Kd.R_new' (Kd.R_new' ho30 (Kd.R_lt (qR HO321))) (Kd.R_lt (qR HO327))) (Kd.R_lt (qR HO330))) (Kd.R_lt (qR HO333))) (below_size (qB HB)))
          replace HO321 := am_ (eR HO321 ho30 hb)
          replace HO327 := am_ (eR HO327 ho30 hb)
          replace HO330 := am_ (eR HO330 ho30 hb)
          replace HO333 := am_ (eR HO333 ho30 hb)
          replace BK314 := am_ (blk_below (qK BK314) hb)
          replace HB := am_ (below_step (qB HB) hb)
          clear hb ho30
          refine hK.out _ _ (cz8 BK314.out) (fun hHeld => ?_)
          clear hK K
          refine norm_ (a' := ?_) ?_ ?_
          rotate_left
          ·
           show Act.put _ (some 41) _ = _
           exact ap_
          exact norm_ (by simp only [putAll, Act.put, List.setIfInBounds_toArray, List.set_cons_zero, List.set_cons_succ]) (hCont (.slice Ao26 y325.length co26, .slice Ao27 y328.length co27, v332, v335) _ ⟨hHeld, (tR (Kd.R_mono HO321.out (fun _ hk => ⟨hk.1.1.1, ⟨hk.1.1.2, ⟨hk.1.2, hk.2⟩⟩⟩))), (tR (Kd.R_mono HO327.out (fun _ hk => ⟨hk.1.1.1, ⟨hk.1.1.2, ⟨hk.1.2, hk.2⟩⟩⟩))), (tR (Kd.R_mono HO330.out (fun _ hk => ⟨hk.1.1.1, ⟨hk.1.1.2, ⟨hk.1.2, hk.2⟩⟩⟩))), (tR (Kd.R_mono HO333.out (fun _ hk => ⟨hk.1.1.1.2, ⟨hk.1.1.2, ⟨hk.1.2, hk.2⟩⟩⟩))), (tR (Kd.R_mono HO336.out (fun _ hk => ⟨hk.1.1.1.2, ⟨hk.1.1.2, ⟨hk.1.2, hk.2⟩⟩⟩))), (qK BK314), (qB HB)⟩)
         ·
          skip
          refine Kd.R_lit_step (Kd.int .u8) _ 5 ?hg (N := 41) ?hd (xs := ([((l0_7.length : Int)) % 256] : List Int)) (inner := [.int .u8 (((l0_7.length : Int)) % 256)]) (ok := fun _ => True) (okp := fun _ => True) ?hr ?hp (fun _ hk => hk) trivial (Below.refl _ _) (Nat.le_refl _) (by simp) ?_; (case hd => rfl); (case hg => rfl); (case hr => first | (go_simp; done) | (go_simp; rfl)); (case hp => exact (Reps.one (show Kd.M (Kd.int .u8) _ _ _ (((l0_7.length : Int)) % 256) [.int .u8 (((l0_7.length : Int)) % 256)] from rfl) (Reps.none _ _)))
          intro v335 w27 ho28 hb hg_ hnew_
          clear hg_ hnew_
          (first | rw [← Ny334.out] at ho28 | (simp only [Int.reduceToNat] at ho28; rw [← Ny334.out] at ho28))
          have HO336 := am_ (Kd.R_lower (Kd.R_new' (Kd.R_new' (Kd.R_new' ho28 (Kd.R_lt (qR HO321))) (Kd.R_lt (qR HO327))) (Kd.R_lt (qR HO330))) (below_size (qB HB)))
          replace HO321 := am_ (eR HO321 ho28 hb)
          replace HO327 := am_ (eR HO327 ho28 hb)
          replace HO330 := am_ (eR HO330 ho28 hb)
          replace BK314 := am_ (blk_below (qK BK314) hb)
          replace HB := am_ (below_step (qB HB) hb)
          clear hb ho28
          obtain ⟨Ao29, co29, eo29⟩ := Kd.R_slice HO330.out
          (first | subst eo29 | (injection eo29 with f1_ f2_ f3_; have f4_ := f1_.symm; have f5_ := f3_.symm; clear f1_ f2_ f3_; subst f4_; subst f5_))
          refine hK.out _ _ (cz8 BK314.out) (fun hHeld => ?_)
          clear hK K
          refine norm_ (a' := ?_) ?_ ?_
          rotate_left
          ·
           show Act.put _ (some 41) _ = _
           exact ap_
          refine one_ (i := 13) (N := some 36) #[ii,ii,ii,ii,ii,ii,ii,ii,ii,ii,ii,ii,ii,ii,ii,ii,ii,ii,ii,oo,oo] rfl rfl (one_of HT_.out (by kernel_rfl)) (by decide) (fun K hK => ?_)
          refine goes_ Try.func75 (by kernel_rfl) rfl #[.slice Ao29 y328.length co29, .int .i64 a0_6] (by rfl) rfl rfl la_ ?_
          with_reducible refine (spec_PutWord.calls _ _ y328 a0_6 t331 _ ?side1 ?side2 A13.out).mono ?_
          (case side1 => exact qC ((Kd.R_reads' HO330.out).2.2))
          (case side2 => exact (Kd.R_reads' HO330.out).2.1)
          rintro e w30 ⟨v332, rfl, ho0, hb⟩
          refine ⟨_, rfl, ?_⟩
          have HO333 := am_ (Kd.R_lower (Kd.R_new' (Kd.R_new' (Kd.R_new' (Kd.R_new' ho0 (Kd.R_lt (qR HO321))) (Kd.R_lt (qR HO327))) (Kd.R_lt (qR HO330))) (Kd.R_lt (qR HO336))) (below_size (qB HB)))
          replace HO321 := am_ (eR HO321 ho0 hb)
          replace HO327 := am_ (eR HO327 ho0 hb)
          replace HO330 := am_ (eR HO330 ho0 hb)
          replace HO336 := am_ (eR HO336 ho0 hb)
          replace BK314 := am_ (blk_below (qK BK314) hb)
          replace HB := am_ (below_step (qB HB) hb)
          (try clear hb ho0)
          refine hK.out _ _ (cz8 BK314.out) (fun hHeld => ?_)
          clear hK K
          refine norm_ (a' := ?_) ?_ ?_
          rotate_left
          ·
           show Act.put _ (some 36) _ = _
           exact ap_
          exact norm_ (by simp only [putAll, Act.put, List.setIfInBounds_toArray, List.set_cons_zero, List.set_cons_succ]) (hCont (.slice Ao26 y325.length co26, .slice Ao29 y328.length co29, v332, v335) _ ⟨hHeld, (tR (Kd.R_mono HO321.out (fun _ hk => ⟨hk.1.1.1, ⟨hk.1.1.2, ⟨hk.2, hk.1.2⟩⟩⟩))), (tR (Kd.R_mono HO327.out (fun _ hk => ⟨hk.1.1.1, ⟨hk.1.1.2, ⟨hk.2, hk.1.2⟩⟩⟩))), (tR (Kd.R_mono HO330.out (fun _ hk => ⟨hk.1.1.1, ⟨hk.1.1.2, ⟨hk.2, hk.1.2⟩⟩⟩))), (tR (Kd.R_mono HO333.out (fun _ hk => ⟨hk.1.1.1.2, ⟨hk.1.1.2, ⟨hk.1.2, hk.2⟩⟩⟩))), (tR (Kd.R_mono HO336.out (fun _ hk => ⟨hk.1.1.1.2, ⟨hk.1.1.2, ⟨hk.1.2, hk.2⟩⟩⟩))), (qK BK314), (qB HB)⟩)
        ·
         skip
         refine Kd.R_lit_step (Kd.int .u8) _ 5 ?hg (N := 41) ?hd (xs := ([((l0_7.length : Int)) % 256] : List Int)) (inner := [.int .u8 (((l0_7.length : Int)) % 256)]) (ok := fun _ => True) (okp := fun _ => True) ?hr ?hp (fun _ hk => hk) trivial (Below.refl _ _) (Nat.le_refl _) (by simp) ?_; (case hd => rfl); (case hg => rfl); (case hr => first | (go_simp; done) | (go_simp; rfl)); (case hp => exact (Reps.one (show Kd.M (Kd.int .u8) _ _ _ (((l0_7.length : Int)) % 256) [.int .u8 (((l0_7.length : Int)) % 256)] from rfl) (Reps.none _ _)))
         intro v335 w25 ho26 hb hg_ hnew_
         clear hg_ hnew_
         (first | rw [← Ny334.out] at ho26 | (simp only [Int.reduceToNat] at ho26; rw [← Ny334.out] at ho26))
         have HO336 := am_ (Kd.R_lower (Kd.R_new' (Kd.R_new' (Kd.R_new' ho26 (Kd.R_lt (qR HO321))) (Kd.R_lt (qR HO324))) (Kd.R_lt (qR HO327))) (below_size (qB HB)))
         replace HO321 := am_ (eR HO321 ho26 hb)
         replace HO324 := am_ (eR HO324 ho26 hb)
         replace HO327 := am_ (eR HO327 ho26 hb)
         replace BK314 := am_ (blk_below (qK BK314) hb)
         replace HB := am_ (below_step (qB HB) hb)
         clear hb ho26
         obtain ⟨Ao28, co28, eo28⟩ := Kd.R_slice HO327.out
         (first | subst eo28 | (injection eo28 with f1_ f2_ f3_; have f4_ := f1_.symm; have f5_ := f3_.symm; clear f1_ f2_ f3_; subst f4_; subst f5_))
         refine hK.out _ _ (cz8 BK314.out) (fun hHeld => ?_)
         clear hK K
         refine norm_ (a' := ?_) ?_ ?_
         rotate_left
         ·
          show Act.put _ (some 41) _ = _
          exact ap_
         refine one_ (i := 10) (N := some 33) #[ii,ii,ii,ii,ii,ii,ii,ii,ii,ii,ii,ii,ii,oo,ii,ii,ii,ii,ii,oo,oo] rfl rfl (one_of HT_.out (by kernel_rfl)) (by decide) (fun K hK => ?_)
         refine Kd.R_append_rows_step (Kd.int .u8) (w0 := w) w.heap.size (by rfl) (.tmp 23) (.tmp 32) 22 5 (.int .u8 0) 1 rfl Try.underlying22 info5 rfl (by decide) (by omega) (.slice Ao21 t322.length co21) t322 y325 _ _ _ (fun k_ => some k_ ≠ (.slice Ao19 y319.length co19 : Value).ownBlock ∧ some k_ ≠ (.slice Ao28 y325.length co28 : Value).ownBlock ∧ some k_ ≠ (v335 : Value).ownBlock) (fun _ => False) rfl rfl ?aO ?aR (fun _ _ h => h) (fun _ h => h.elim) ?aF ?aB ?aS ?aL ?_
         (case aR => exact qC ((Kd.R_reads' HO327.out).2.2))
         (case aB => exact (qB HB))
         (case aF => exact (fun k_ hk => ⟨Kd.fresh' (Kd.R_lt (qR HO321)) k_ hk, Kd.fresh' (Kd.R_lt (qR HO327)) k_ hk, Kd.fresh' (Kd.R_lt (qR HO336)) k_ hk⟩))
         (case aO => exact (tR (Kd.R_mono HO324.out (fun _ hk => ⟨hk.1.1.2, ⟨hk.1.2, hk.2⟩⟩))))
         (case aS => exact (below_size (qB HB)))
         (case aL => have := LMc12.out; omega)
         intro v329 w27 ho hb hg hat
         rw [← Ny328.out] at ho
         replace BK314 := am_ (blk_grown (qK BK314) hg (Kd.R_ne HO324.out BK314.out (by decide)))
         replace HO321 := am_ (Kd.R_after (ok := (fun k_ => some k_ ≠ (.slice Ao28 y325.length co28 : Value).ownBlock ∧ some k_ ≠ (v335 : Value).ownBlock)) (tR (Kd.R_mono HO321.out (fun _ hk => ⟨⟨hk.1.2, hk.2⟩, hk.1.1.2⟩))) hg hat)
         replace HO327 := am_ (Kd.R_after (ok := (fun k_ => some k_ ≠ (.slice Ao19 y319.length co19 : Value).ownBlock ∧ some k_ ≠ (v335 : Value).ownBlock)) (tR (Kd.R_mono HO327.out (fun _ hk => ⟨⟨hk.1.1.2, hk.2⟩, hk.1.2⟩))) hg hat)
         replace HO336 := am_ (Kd.R_after (ok := (fun k_ => some k_ ≠ (.slice Ao19 y319.length co19 : Value).ownBlock ∧ some k_ ≠ (.slice Ao28 y325.length co28 : Value).ownBlock)) (tR (Kd.R_mono HO336.out (fun _ hk => ⟨⟨hk.1.1.2, hk.2⟩, hk.1.2⟩))) hg hat)
         replace HB := am_ (hb)
         have HO330 := am_ (ho)
         clear HO324
         clear ho hb hg hat
         obtain ⟨Ao29, co29, eo29⟩ := Kd.R_slice HO330.out
         (first | subst eo29 | (injection eo29 with f1_ f2_ f3_; have f4_ := f1_.symm; have f5_ := f3_.symm; clear f1_ f2_ f3_; subst f4_; subst f5_))
         refine hK.out _ _ (cz8 BK314.out) (fun hHeld => ?_)
         clear hK K
         refine norm_ (a' := ?_) ?_ ?_
         rotate_left
         ·
          show Act.put _ (some 33) _ = _
          exact ap_
         refine one_ (i := 13) (N := some 36) #[ii,ii,ii,ii,ii,ii,ii,ii,ii,ii,ii,ii,ii,ii,ii,ii,ii,ii,ii,oo,oo] rfl rfl (one_of HT_.out (by kernel_rfl)) (by decide) (fun K hK => ?_)
         refine goes_ Try.func75 (by kernel_rfl) rfl #[.slice Ao29 y328.length co29, .int .i64 a0_6] (by rfl) rfl rfl la_ ?_
         with_reducible refine (spec_PutWord.calls _ _ y328 a0_6 t331 _ ?side1 ?side2 A13.out).mono ?_
         (case side1 => exact qC ((Kd.R_reads' HO330.out).2.2))
         (case side2 => exact (Kd.R_reads' HO330.out).2.1)
         rintro e w30 ⟨v332, rfl, ho0, hb⟩
         refine ⟨_, rfl, ?_⟩
         have HO333 := am_ (Kd.R_lower (Kd.R_new' (Kd.R_new' (Kd.R_new' (Kd.R_new' ho0 (Kd.R_lt (qR HO321))) (Kd.R_lt (qR HO327))) (Kd.R_lt (qR HO336))) (Kd.R_lt (qR HO330))) (below_size (qB HB)))
         replace HO321 := am_ (eR HO321 ho0 hb)
         replace HO327 := am_ (eR HO327 ho0 hb)
         replace HO336 := am_ (eR HO336 ho0 hb)
         replace HO330 := am_ (eR HO330 ho0 hb)
         replace BK314 := am_ (blk_below (qK BK314) hb)
         replace HB := am_ (below_step (qB HB) hb)
         (try clear hb ho0)
         refine hK.out _ _ (cz8 BK314.out) (fun hHeld => ?_)
         clear hK K
         refine norm_ (a' := ?_) ?_ ?_
         rotate_left
         ·
          show Act.put _ (some 36) _ = _
          exact ap_
         exact norm_ (by simp only [putAll, Act.put, List.setIfInBounds_toArray, List.set_cons_zero, List.set_cons_succ]) (hCont (.slice Ao28 y325.length co28, .slice Ao29 y328.length co29, v332, v335) _ ⟨hHeld, (tR (Kd.R_mono HO321.out (fun _ hk => ⟨hk.1.1.1, ⟨hk.1.2, ⟨hk.2, hk.1.1.2⟩⟩⟩))), (tR (Kd.R_mono HO327.out (fun _ hk => ⟨hk.1.1.1, ⟨hk.1.2, ⟨hk.2, hk.1.1.2⟩⟩⟩))), (tR (Kd.R_mono HO330.out (fun _ hk => ⟨hk.1.1, ⟨hk.1.2.1, ⟨hk.2, hk.1.2.2⟩⟩⟩))), (tR (Kd.R_mono HO333.out (fun _ hk => ⟨hk.1.1.1.2, ⟨hk.1.1.2, ⟨hk.2, hk.1.2⟩⟩⟩))), (tR (Kd.R_mono HO336.out (fun _ hk => ⟨hk.1.1.1, ⟨hk.1.1.2, ⟨hk.1.2, hk.2⟩⟩⟩))), (qK BK314), (qB HB)⟩)
       ·
        skip
        refine Kd.R_lit_step (Kd.int .u8) _ 5 ?hg (N := 41) ?hd (xs := ([((l0_7.length : Int)) % 256] : List Int)) (inner := [.int .u8 (((l0_7.length : Int)) % 256)]) (ok := fun _ => True) (okp := fun _ => True) ?hr ?hp (fun _ hk => hk) trivial (Below.refl _ _) (Nat.le_refl _) (by simp) ?_; (case hd => rfl); (case hg => rfl); (case hr => first | (go_simp; done) | (go_simp; rfl)); (case hp => exact (Reps.one (show Kd.M (Kd.int .u8) _ _ _ (((l0_7.length : Int)) % 256) [.int .u8 (((l0_7.length : Int)) % 256)] from rfl) (Reps.none _ _)))
        intro v335 w23 ho24 hb hg_ hnew_
        clear hg_ hnew_
        (first | rw [← Ny334.out] at ho24 | (simp only [Int.reduceToNat] at ho24; rw [← Ny334.out] at ho24))
        have HO336 := am_ (Kd.R_lower (Kd.R_new' (Kd.R_new' ho24 (Kd.R_lt (qR HO321))) (Kd.R_lt (qR HO324))) (below_size (qB HB)))
        replace HO321 := am_ (eR HO321 ho24 hb)
        replace HO324 := am_ (eR HO324 ho24 hb)
        replace BK314 := am_ (blk_below (qK BK314) hb)
        replace HB := am_ (below_step (qB HB) hb)
        clear hb ho24
        refine hK.out _ _ (cz8 BK314.out) (fun hHeld => ?_)
        clear hK K
        refine norm_ (a' := ?_) ?_ ?_
        rotate_left
        ·
         show Act.put _ (some 41) _ = _
         exact ap_
        refine one_ (i := 9) (N := some 32) #[ii,ii,ii,ii,ii,ii,ii,ii,ii,ii,oo,ii,ii,oo,ii,ii,ii,ii,ii,oo,oo] rfl rfl (one_of HT_.out (by kernel_rfl)) (by decide) (fun K hK => ?_)
        refine Kd.R_lit_step (Kd.int .u8) _ 5 ?hg (N := 32) ?hd (xs := ([(a0_3) % 256, (a0_4) % 256, (x3_7) % 256] : List Int)) (inner := [.int .u8 ((a0_3) % 256), .int .u8 ((a0_4) % 256), .int .u8 ((x3_7) % 256)]) (ok := fun _ => True) (okp := fun _ => True) ?hr ?hp (fun _ hk => hk) trivial (Below.refl _ _) (Nat.le_refl _) (by simp) ?_; (case hd => rfl); (case hg => rfl); (case hr => first | (go_simp; done) | (go_simp; rfl)); (case hp => exact (Reps.one (show Kd.M (Kd.int .u8) _ _ _ ((a0_3) % 256) [.int .u8 ((a0_3) % 256)] from rfl) (Reps.one (show Kd.M (Kd.int .u8) _ _ _ ((a0_4) % 256) [.int .u8 ((a0_4) % 256)] from rfl) (Reps.one (show Kd.M (Kd.int .u8) _ _ _ ((x3_7) % 256) [.int .u8 ((x3_7) % 256)] from rfl) (Reps.none _ _)))))
        intro v326 w25 ho26 hb hg_ hnew_
        clear hg_ hnew_
        (first | rw [← Ny325.out] at ho26 | (simp only [Int.reduceToNat] at ho26; rw [← Ny325.out] at ho26))
        have HO327 := am_ (Kd.R_lower (Kd.R_new' (Kd.R_new' (Kd.R_new' ho26 (Kd.R_lt (qR HO321))) (Kd.R_lt (qR HO324))) (Kd.R_lt (qR HO336))) (below_size (qB HB)))
        replace HO321 := am_ (eR HO321 ho26 hb)
        replace HO324 := am_ (eR HO324 ho26 hb)
        replace HO336 := am_ (eR HO336 ho26 hb)
        replace BK314 := am_ (blk_below (qK BK314) hb)
        replace HB := am_ (below_step (qB HB) hb)
        clear hb ho26
        obtain ⟨Ao28, co28, eo28⟩ := Kd.R_slice HO327.out
        (first | subst eo28 | (injection eo28 with f1_ f2_ f3_; have f4_ := f1_.symm; have f5_ := f3_.symm; clear f1_ f2_ f3_; subst f4_; subst f5_))
        refine hK.out _ _ (cz8 BK314.out) (fun hHeld => ?_)
        clear hK K
        refine norm_ (a' := ?_) ?_ ?_
        rotate_left
        ·
         show Act.put _ (some 32) _ = _
         exact ap_
        refine one_ (i := 10) (N := some 33) #[ii,ii,ii,ii,ii,ii,ii,ii,ii,ii,ii,ii,ii,oo,ii,ii,ii,ii,ii,oo,oo] rfl rfl (one_of HT_.out (by kernel_rfl)) (by decide) (fun K hK => ?_)
        refine Kd.R_append_rows_step (Kd.int .u8) (w0 := w) w.heap.size (by rfl) (.tmp 23) (.tmp 32) 22 5 (.int .u8 0) 1 rfl Try.underlying22 info5 rfl (by decide) (by omega) (.slice Ao21 t322.length co21) t322 y325 _ _ _ (fun k_ => some k_ ≠ (.slice Ao19 y319.length co19 : Value).ownBlock ∧ some k_ ≠ (v335 : Value).ownBlock ∧ some k_ ≠ (.slice Ao28 y325.length co28 : Value).ownBlock) (fun _ => False) rfl rfl ?aO ?aR (fun _ _ h => h) (fun _ h => h.elim) ?aF ?aB ?aS ?aL ?_
        (case aR => exact qC ((Kd.R_reads' HO327.out).2.2))
        (case aB => exact (qB HB))
        (case aF => exact (fun k_ hk => ⟨Kd.fresh' (Kd.R_lt (qR HO321)) k_ hk, Kd.fresh' (Kd.R_lt (qR HO336)) k_ hk, Kd.fresh' (Kd.R_lt (qR HO327)) k_ hk⟩))
        (case aO => exact (tR (Kd.R_mono HO324.out (fun _ hk => ⟨hk.1.1.2, ⟨hk.1.2, hk.2⟩⟩))))
        (case aS => exact (below_size (qB HB)))
        (case aL => have := LMc12.out; omega)
        intro v329 w27 ho hb hg hat
        rw [← Ny328.out] at ho
        replace BK314 := am_ (blk_grown (qK BK314) hg (Kd.R_ne HO324.out BK314.out (by decide)))
        replace HO321 := am_ (Kd.R_after (ok := (fun k_ => some k_ ≠ (v335 : Value).ownBlock ∧ some k_ ≠ (.slice Ao28 y325.length co28 : Value).ownBlock)) (tR (Kd.R_mono HO321.out (fun _ hk => ⟨⟨hk.1.2, hk.2⟩, hk.1.1.2⟩))) hg hat)
        replace HO336 := am_ (Kd.R_after (ok := (fun k_ => some k_ ≠ (.slice Ao19 y319.length co19 : Value).ownBlock ∧ some k_ ≠ (.slice Ao28 y325.length co28 : Value).ownBlock)) (tR (Kd.R_mono HO336.out (fun _ hk => ⟨⟨hk.1.1.2, hk.2⟩, hk.1.2⟩))) hg hat)
        replace HO327 := am_ (Kd.R_after (ok := (fun k_ => some k_ ≠ (.slice Ao19 y319.length co19 : Value).ownBlock ∧ some k_ ≠ (v335 : Value).ownBlock)) (tR (Kd.R_mono HO327.out (fun _ hk => ⟨⟨hk.1.1.2, hk.2⟩, hk.1.2⟩))) hg hat)
        replace HB := am_ (hb)
        have HO330 := am_ (ho)
        clear HO324
        clear ho hb hg hat
        obtain ⟨Ao29, co29, eo29⟩ := Kd.R_slice HO330.out
        (first | subst eo29 | (injection eo29 with f1_ f2_ f3_; have f4_ := f1_.symm; have f5_ := f3_.symm; clear f1_ f2_ f3_; subst f4_; subst f5_))
        refine hK.out _ _ (cz8 BK314.out) (fun hHeld => ?_)
        clear hK K
        refine norm_ (a' := ?_) ?_ ?_
        rotate_left
        ·
         show Act.put _ (some 33) _ = _
         exact ap_
        refine one_ (i := 13) (N := some 36) #[ii,ii,ii,ii,ii,ii,ii,ii,ii,ii,ii,ii,ii,ii,ii,ii,ii,ii,ii,oo,oo] rfl rfl (one_of HT_.out (by kernel_rfl)) (by decide) (fun K hK => ?_)
        refine goes_ Try.func75 (by kernel_rfl) rfl #[.slice Ao29 y328.length co29, .int .i64 a0_6] (by rfl) rfl rfl la_ ?_
        with_reducible refine (spec_PutWord.calls _ _ y328 a0_6 t331 _ ?side1 ?side2 A13.out).mono ?_
        (case side1 => exact qC ((Kd.R_reads' HO330.out).2.2))
        (case side2 => exact (Kd.R_reads' HO330.out).2.1)
        rintro e w30 ⟨v332, rfl, ho0, hb⟩
        refine ⟨_, rfl, ?_⟩
        have HO333 := am_ (Kd.R_lower (Kd.R_new' (Kd.R_new' (Kd.R_new' (Kd.R_new' ho0 (Kd.R_lt (qR HO321))) (Kd.R_lt (qR HO336))) (Kd.R_lt (qR HO327))) (Kd.R_lt (qR HO330))) (below_size (qB HB)))
        replace HO321 := am_ (eR HO321 ho0 hb)
        replace HO336 := am_ (eR HO336 ho0 hb)
        replace HO327 := am_ (eR HO327 ho0 hb)
        replace HO330 := am_ (eR HO330 ho0 hb)
        replace BK314 := am_ (blk_below (qK BK314) hb)
        replace HB := am_ (below_step (qB HB) hb)
        (try clear hb ho0)
        refine hK.out _ _ (cz8 BK314.out) (fun hHeld => ?_)
        clear hK K
        refine norm_ (a' := ?_) ?_ ?_
        rotate_left
        ·
         show Act.put _ (some 36) _ = _
         exact ap_
        exact norm_ (by simp only [putAll, Act.put, List.setIfInBounds_toArray, List.set_cons_zero, List.set_cons_succ]) (hCont (.slice Ao28 y325.length co28, .slice Ao29 y328.length co29, v332, v335) _ ⟨hHeld, (tR (Kd.R_mono HO321.out (fun _ hk => ⟨hk.1.1.2, ⟨hk.1.2, ⟨hk.2, hk.1.1.1⟩⟩⟩))), (tR (Kd.R_mono HO327.out (fun _ hk => ⟨hk.1.1.1, ⟨hk.1.2, ⟨hk.2, hk.1.1.2⟩⟩⟩))), (tR (Kd.R_mono HO330.out (fun _ hk => ⟨hk.1.1, ⟨hk.1.2.2, ⟨hk.2, hk.1.2.1⟩⟩⟩))), (tR (Kd.R_mono HO333.out (fun _ hk => ⟨hk.1.1.1.2, ⟨hk.1.2, ⟨hk.2, hk.1.1.2⟩⟩⟩))), (tR (Kd.R_mono HO336.out (fun _ hk => ⟨hk.1.1.1, ⟨hk.1.1.2, ⟨hk.1.2, hk.2⟩⟩⟩))), (qK BK314), (qB HB)⟩)
      rintro ⟨v326, v329, v332, v335⟩ w31 ⟨hS_, h0_, h1_, h2_, h3_, h4_, h5_, h6_⟩
      have n0_ : Aside0 (Kd.R (Kd.int .u8) 5 w31 w.heap.size (fun k_ => some k_ ≠ (v326 : Value).ownBlock ∧ some k_ ≠ (v329 : Value).ownBlock ∧ some k_ ≠ (v332 : Value).ownBlock ∧ some k_ ≠ (v335 : Value).ownBlock) (.slice Ao19 y319.length co19) y319) := ⟨h0_⟩
      have n1_ : Aside0 (Kd.R (Kd.int .u8) 5 w31 w.heap.size (fun k_ => some k_ ≠ (.slice Ao19 y319.length co19 : Value).ownBlock ∧ some k_ ≠ (v329 : Value).ownBlock ∧ some k_ ≠ (v332 : Value).ownBlock ∧ some k_ ≠ (v335 : Value).ownBlock) v326 y325) := ⟨h1_⟩
      have n2_ : Aside0 (Kd.R (Kd.int .u8) 5 w31 w.heap.size (fun k_ => some k_ ≠ (.slice Ao19 y319.length co19 : Value).ownBlock ∧ some k_ ≠ (v326 : Value).ownBlock ∧ some k_ ≠ (v332 : Value).ownBlock ∧ some k_ ≠ (v335 : Value).ownBlock) v329 y328) := ⟨h2_⟩
      have n3_ : Aside0 (Kd.R (Kd.int .u8) 5 w31 w.heap.size (fun k_ => some k_ ≠ (.slice Ao19 y319.length co19 : Value).ownBlock ∧ some k_ ≠ (v326 : Value).ownBlock ∧ some k_ ≠ (v329 : Value).ownBlock ∧ some k_ ≠ (v335 : Value).ownBlock) v332 t331) := ⟨h3_⟩
      have n4_ : Aside0 (Kd.R (Kd.int .u8) 5 w31 w.heap.size (fun k_ => some k_ ≠ (.slice Ao19 y319.length co19 : Value).ownBlock ∧ some k_ ≠ (v326 : Value).ownBlock ∧ some k_ ≠ (v329 : Value).ownBlock ∧ some k_ ≠ (v332 : Value).ownBlock) v335 y334) := ⟨h4_⟩
      have n5_ : Aside0 (w31.heap[gb314]? = some (.cells #[.int .i64 a0_0, .int .i64 a0_1, .int .i64 a0_2, .int .i64 a0_3, .int .i64 a0_4, .bool a0_5, .int .i64 a0_6, .slice A0_7 l0_7.length c0_7] 86 (0, 0))) := ⟨h5_⟩
      have n6_ : Aside0 (Below w.heap.size w w31) := ⟨h6_⟩
      clear HO321
      clear HO324
      clear BK314
      clear HB
      clear h0_ h1_ h2_ h3_ h4_ h5_ h6_
      have HO321 := n0_
      have HO327 := n1_
      have HO330 := n2_
      have HO333 := n3_
      have HO336 := n4_
      have BK314 := n5_
      have HB := n6_
      clear n0_ n1_ n2_ n3_ n4_ n5_ n6_
      have hHeld : w31.cell? ⟨gb314, 0, none⟩ = some (.int .i64 a0_0) ∧ w31.cell? ⟨gb314, 1, none⟩ = some (.int .i64 a0_1) ∧ w31.cell? ⟨gb314, 2, none⟩ = some (.int .i64 a0_2) ∧ w31.cell? ⟨gb314, 3, none⟩ = some (.int .i64 a0_3) ∧ w31.cell? ⟨gb314, 4, none⟩ = some (.int .i64 a0_4) ∧ w31.cell? ⟨gb314, 5, none⟩ = some (.bool a0_5) ∧ w31.cell? ⟨gb314, 6, none⟩ = some (.int .i64 a0_6) ∧ w31.cell? ⟨gb314, 7, none⟩ = some (.slice A0_7 l0_7.length c0_7) := hS_
      obtain ⟨Ao33, co33, eo33⟩ := Kd.R_slice HO336.out
      (first | subst eo33 | (injection eo33 with f1_ f2_ f3_; have f4_ := f1_.symm; have f5_ := f3_.symm; clear f1_ f2_ f3_; subst f4_; subst f5_))
      refine norm_ (a' := ?_) ?_ ?_
      rotate_left
      ·
       simp only [putAll, Act.put, List.setIfInBounds_toArray, List.set_cons_zero, List.set_cons_succ]
       rfl
      refine one_ (i := 19) (N := some 42) #[ii,ii,ii,ii,ii,ii,ii,ii,ii,ii,ii,ii,ii,ii,ii,ii,ii,ii,ii,ii,oo] rfl rfl (one_of HT_.out (by kernel_rfl)) (by decide) (fun K hK => ?_)
      refine Kd.R_append_rows_step (Kd.int .u8) (w0 := w) w.heap.size (by rfl) (.tmp 36) (.tmp 41) 22 5 (.int .u8 0) 1 rfl Try.underlying22 info5 rfl (by decide) (by omega) v332 t331 y334 _ _ _ (fun k_ => some k_ ≠ (.slice Ao19 y319.length co19 : Value).ownBlock ∧ some k_ ≠ (v326 : Value).ownBlock ∧ some k_ ≠ (v329 : Value).ownBlock ∧ some k_ ≠ (.slice Ao33 y334.length co33 : Value).ownBlock) (fun _ => False) rfl rfl ?aO ?aR (fun _ _ h => h) (fun _ h => h.elim) ?aF ?aB ?aS ?aL ?_
      (case aR => exact qC ((Kd.R_reads' HO336.out).2.2))
      (case aB => exact (qB HB))
      (case aF => exact (fun k_ hk => ⟨Kd.fresh' (Kd.R_lt (qR HO321)) k_ hk, Kd.fresh' (Kd.R_lt (qR HO327)) k_ hk, Kd.fresh' (Kd.R_lt (qR HO330)) k_ hk, Kd.fresh' (Kd.R_lt (qR HO336)) k_ hk⟩))
      (case aO => exact (qR HO333))
      (case aS => exact (below_size (qB HB)))
      (case aL => have := LMc14.out; omega)
      intro v338 w32 ho hb hg hat
      rw [← Ny337.out] at ho
      replace BK314 := am_ (blk_grown (qK BK314) hg (Kd.R_ne HO333.out BK314.out (by decide)))
      replace HO321 := am_ (Kd.R_after (ok := (fun k_ => some k_ ≠ (v326 : Value).ownBlock ∧ some k_ ≠ (v329 : Value).ownBlock ∧ some k_ ≠ (.slice Ao33 y334.length co33 : Value).ownBlock)) (tR (Kd.R_mono HO321.out (fun _ hk => ⟨⟨hk.1, ⟨hk.2.1, hk.2.2.2⟩⟩, hk.2.2.1⟩))) hg hat)
      replace HO327 := am_ (Kd.R_after (ok := (fun k_ => some k_ ≠ (.slice Ao19 y319.length co19 : Value).ownBlock ∧ some k_ ≠ (v329 : Value).ownBlock ∧ some k_ ≠ (.slice Ao33 y334.length co33 : Value).ownBlock)) (tR (Kd.R_mono HO327.out (fun _ hk => ⟨⟨hk.1, ⟨hk.2.1, hk.2.2.2⟩⟩, hk.2.2.1⟩))) hg hat)
      replace HO330 := am_ (Kd.R_after (ok := (fun k_ => some k_ ≠ (.slice Ao19 y319.length co19 : Value).ownBlock ∧ some k_ ≠ (v326 : Value).ownBlock ∧ some k_ ≠ (.slice Ao33 y334.length co33 : Value).ownBlock)) (tR (Kd.R_mono HO330.out (fun _ hk => ⟨⟨hk.1, ⟨hk.2.1, hk.2.2.2⟩⟩, hk.2.2.1⟩))) hg hat)
      replace HO336 := am_ (Kd.R_after (ok := (fun k_ => some k_ ≠ (.slice Ao19 y319.length co19 : Value).ownBlock ∧ some k_ ≠ (v326 : Value).ownBlock ∧ some k_ ≠ (v329 : Value).ownBlock)) (tR (Kd.R_mono HO336.out (fun _ hk => ⟨⟨hk.1, ⟨hk.2.1, hk.2.2.1⟩⟩, hk.2.2.2⟩))) hg hat)
      replace HB := am_ (hb)
      have HO339 := am_ (ho)
      clear HO333
      clear ho hb hg hat
      refine hK.out _ _ (cz8 BK314.out) (fun hHeld => ?_)
      clear hK K
      refine norm_ (a' := ?_) ?_ ?_
      rotate_left
      ·
       show Act.put _ (some 42) _ = _
       exact ap_
      refine pure_ (i := 20) (N := some 4) (v := ?_) (a' := ?_) #[ii,ii,ii,ii,ii,ii,ii,ii,ii,ii,ii,ii,ii,ii,ii,ii,ii,ii,ii,ii,ii] rfl rfl (any_of HT_.out (by kernel_rfl)) (fun _ _ _ h => h) (Or.inl ⟨by rfl, ?_⟩) ?_ ?_
      rotate_left
      ·
       intro w'
       go_simp
       with_reducible rfl
      rotate_left
      ·
       exact ap_
      refine done_ (done_of HT_.out (by kernel_rfl)) ?_
      try go_wp2
      go_loopg [4, 5] kj7 (fun kq v4 v5 w' => ∃ (x4_2 : List Int) (x5_2 : Int), v5 = .int .i64 x5_2 ∧ Aside0 (spec_PutCtl.l0 kq x4_2 x5_2 a0_0 a0_1 a0_2 a0_3 a0_4 a0_5 a0_6 l0_7 = some r) ∧ Aside0 (kq ≤ kj7) ∧ Aside0 (Kd.R (Kd.int .u8) 5 w' w.heap.size (fun _ => True) v4 x4_2) ∧ Aside0 (w'.heap[gb314]? = some (.cells #[.int .i64 a0_0, .int .i64 a0_1, .int .i64 a0_2, .int .i64 a0_3, .int .i64 a0_4, .bool a0_5, .int .i64 a0_6, (.slice A0_7 l0_7.length c0_7)] 86 (0, 0))) ∧ Aside0 (Below w.heap.size w w'))
      case atStart => exact ⟨(y337), (0), eqq_, H', ⟨Nat.le_refl _⟩, ⟨by (with_reducible repeat (first | apply Kd.R_alloc | apply Kd.R_drewN | apply Kd.R_drew)); exact Kd.R_mono HO339.out (fun _ hk => trivial)⟩, ⟨qK BK314⟩, ⟨qB HB⟩⟩
      case round =>
       clear H'
       try clear c1
       try clear p2
       try clear c7
       try clear c12
       try clear c14
       obtain ⟨x4_2, x5_2, rfl, HA, HK2, HO_4, BK314, HB⟩ := hrel
       cases gk with
       | zero => exact absurd HA.out (by simp [spec_PutCtl.l0])
       | succ k2 =>
        have H := HA.out
        clear HA
        simp only [spec_PutCtl.l0] at H
        by_cases c34 : x5_2 < (l0_7.length : Int)
        ·
         rw [if_pos c34] at H
         have c34b0 : decide (x5_2 < (l0_7.length : Int)) = true := decide_eq_true c34
         clear c34
         by_cases c35 : 0 ≤ x5_2
         ·
          rw [if_pos c35] at H
          have c35b0 : decide (0 ≤ x5_2) = true := decide_eq_true c35
          clear c35
          obtain ⟨t341, A36, H⟩ := bd_ H
          obtain ⟨y344, hy344⟩ : ∃ y_ : List Int, y_ = (([((t341.length : Int)) % 256] : List Int)) := ⟨_, rfl⟩
          replace H := mk_ H hy344
          (try dsimp only at H)
          have Ny344 := Aside0.mk hy344
          clear hy344
          by_cases c37 : x4_2.length + y344.length < 140737488355328
          ·
           rw [if_pos c37] at H
           have LMc37 := Aside0.mk c37
           clear c37
           obtain ⟨y347, hy347⟩ : ∃ y_ : List Int, y_ = (x4_2 ++ y344) := ⟨_, rfl⟩
           replace H := mk_ H hy347
           (try dsimp only at H)
           have Ny347 := Aside0.mk hy347
           clear hy347
           by_cases c38 : y347.length + t341.length < 140737488355328
           ·
            rw [if_pos c38] at H
            have LMc38 := Aside0.mk c38
            clear c38
            obtain ⟨y350, hy350⟩ : ∃ y_ : List Int, y_ = (y347 ++ t341) := ⟨_, rfl⟩
            replace H : (spec_PutCtl.l0 k2 y350 (wrap64 (x5_2 + 1)) a0_0 a0_1 a0_2 a0_3 a0_4 a0_5 a0_6 l0_7) = some r := by first | (rw [hy350]; with_reducible exact H) | (have H2_ := (Option.bind_some _ _).symm.trans H; rw [hy350]; with_reducible exact H2_) | (have H2_ := (Option.bind_some _ _).symm.trans H; with_reducible exact H2_) | with_reducible exact H | (rw [hy350]; exact H) | exact H
            have Ny350 := Aside0.mk hy350
            clear hy350
            have H' := Aside0.mk H
            clear H
            obtain ⟨z39_0, z39_1, z39_2, z39_3, z39_4, z39_5, z39_6, z39_7⟩ := cz8 BK314.out
            obtain ⟨f39_0, f39_1, f39_2, f39_3, f39_4, f39_5, f39_6, f39_7⟩ := fz8 BK314.out
            have p340 : 0 ≤ (x5_2 : Int) := od_
            have q340 : x5_2 < (l0_7.length : Int) := od_
            obtain ⟨ad340, e340, hx340_0, hx340_1, hx340_2, hx340_3, hx340_4, hx340_5, hx340_6, hx340_7, hx340_8, hx340_9, hx340_10, hx340_11, hx340_12, hx340_13, hx340_14, hx340_15⟩ := at_T48 HR0_7.out x5_2 p340 q340
            cases e340
            replace hx340_0 := lb_ HB hx340_0
            replace hx340_1 := lb_ HB hx340_1
            replace hx340_2 := lb_ HB hx340_2
            replace hx340_3 := lb_ HB hx340_3
            replace hx340_4 := lb_ HB hx340_4
            replace hx340_5 := lb_ HB hx340_5
            replace hx340_6 := lb_ HB hx340_6
            replace hx340_7 := lb_ HB hx340_7
            replace hx340_8 := lb_ HB hx340_8
            replace hx340_9 := lb_ HB hx340_9
            replace hx340_10 := lb_ HB hx340_10
            replace hx340_11 := lb_ HB hx340_11
            replace hx340_12 := lb_ HB hx340_12
            replace hx340_13 := lb_ HB hx340_13
            replace hx340_14 := lb_ HB hx340_14
            replace hx340_15 := lb_ HB hx340_15
            replace p340 := eq_true p340
            replace q340 := eq_true q340
            go_wp2_with (first | ((with_reducible refine gate_callee (f := 25) rfl ?_); refine goesL_ (some 55) rfl rfl Try.func25 (by kernel_rfl) rfl #[.agg #[.int .i64 ((rd_T48 l0_7 x5_2).f0), .int .i64 ((rd_T48 l0_7 x5_2).f1.f0), .string ((rd_T48 l0_7 x5_2).f1.f1), .int .i64 ((rd_T48 l0_7 x5_2).f1.f2), .int .i64 ((rd_T48 l0_7 x5_2).f1.f3), .int .i64 ((rd_T48 l0_7 x5_2).f1.f4), .string ((rd_T48 l0_7 x5_2).f1.f5), .int .i64 ((rd_T48 l0_7 x5_2).f1.f6), .int .i64 ((rd_T48 l0_7 x5_2).f1.f7), .int .i64 ((rd_T48 l0_7 x5_2).f2.f0), .string ((rd_T48 l0_7 x5_2).f2.f1), .int .i64 ((rd_T48 l0_7 x5_2).f2.f2), .int .i64 ((rd_T48 l0_7 x5_2).f2.f3), .int .i64 ((rd_T48 l0_7 x5_2).f2.f4), .int .i64 ((rd_T48 l0_7 x5_2).f2.f5), .int .i64 ((rd_T48 l0_7 x5_2).f2.f6)]] rfl la_ ?_; (with_reducible refine (spec_PutItem.calls k2 ((rd_T48 l0_7 x5_2).f0) ((rd_T48 l0_7 x5_2).f1.f0) ((rd_T48 l0_7 x5_2).f1.f1) ((rd_T48 l0_7 x5_2).f1.f2) ((rd_T48 l0_7 x5_2).f1.f3) ((rd_T48 l0_7 x5_2).f1.f4) ((rd_T48 l0_7 x5_2).f1.f5) ((rd_T48 l0_7 x5_2).f1.f6) ((rd_T48 l0_7 x5_2).f1.f7) ((rd_T48 l0_7 x5_2).f2.f0) ((rd_T48 l0_7 x5_2).f2.f1) ((rd_T48 l0_7 x5_2).f2.f2) ((rd_T48 l0_7 x5_2).f2.f3) ((rd_T48 l0_7 x5_2).f2.f4) ((rd_T48 l0_7 x5_2).f2.f5) ((rd_T48 l0_7 x5_2).f2.f6) t341 _ A36.out).mono ?_); rintro e w40 ⟨v342, rfl, ho0, hb⟩; refine ⟨_, rfl, ?_⟩; have HO343 := am_ (Kd.R_lower (Kd.R_new' ho0 (Kd.R_lt (qR HO_4))) (below_size (qB HB))); replace HO_4 := am_ (eR HO_4 ho0 hb); replace BK314 := am_ (blk_below (qK BK314) hb); replace HB := am_ (below_step (qB HB) hb); (try clear hb); (try clear hb2); (try clear hk); (try clear hi); (try clear ho0); obtain ⟨Ao41, co41, eo41⟩ := Kd.R_slice HO343.out; subst eo41) | ((with_reducible refine gate_dst (N := 60) rfl ?_); refine Kd.R_lit (Kd.int .u8) _ 5 ?hg (N := 60) ?hd (xs := ([((t341.length : Int)) % 256] : List Int)) (inner := [.int .u8 (((t341.length : Int)) % 256)]) (ok := fun _ => True) (okp := fun _ => True) ?hr ?hp (fun _ hk => hk) trivial (Below.refl _ _) (Nat.le_refl _) (by simp) ?_; (case hd => rfl); (case hg => rfl); (case hr => first | (go_simp; done) | (go_simp; rfl)); (case hp => exact (Reps.one (show Kd.M (Kd.int .u8) _ _ _ (((t341.length : Int)) % 256) [.int .u8 (((t341.length : Int)) % 256)] from rfl) (Reps.none _ _))); intro v345 w42 ho43 hb hg_ hnew_; clear hg_ hnew_; (first | rw [← Ny344.out] at ho43 | (simp only [Int.reduceToNat] at ho43; rw [← Ny344.out] at ho43)); have HO346 := am_ (Kd.R_lower (Kd.R_new' (Kd.R_new' ho43 (Kd.R_lt (qR HO_4))) (Kd.R_lt (qR HO343))) (below_size (qB HB))); replace HO_4 := am_ (eR HO_4 ho43 hb); replace HO343 := am_ (eR HO343 ho43 hb); replace BK314 := am_ (blk_below (qK BK314) hb); replace HB := am_ (below_step (qB HB) hb); clear hb ho43; obtain ⟨Ao45, co45, eo45⟩ := Kd.R_slice HO346.out; subst eo45) | ((with_reducible refine gate_builtin (b := .append) (xs := #[.tmp 56, .tmp 60]) rfl ?_); at_builtin; refine Kd.R_append_rows (Kd.int .u8) (w0 := w) w.heap.size rfl (.tmp 56) (.tmp 60) 22 5 (.int .u8 0) 1 rfl Try.underlying22 info5 rfl (by decide) (by omega) u4 x4_2 y344 _ _ _ (fun k_ => some k_ ≠ (.slice Ao41 t341.length co41 : Value).ownBlock ∧ some k_ ≠ (.slice Ao45 y344.length co45 : Value).ownBlock) (fun _ => False) rfl rfl ?aO ?aR (fun _ _ h => h) (fun _ h => h.elim) ?aF ?aB ?aS ?aL ?_; (case aR => exact qC ((Kd.R_reads' HO346.out).2.2)); (case aB => exact (qB HB)); (case aF => exact (fun k_ hk => ⟨Kd.fresh' (Kd.R_lt (qR HO343)) k_ hk, Kd.fresh' (Kd.R_lt (qR HO346)) k_ hk⟩)); (case aO => exact (tR (Kd.R_mono HO_4.out (fun _ hk => ⟨hk.1.2, hk.2⟩)))); (case aS => exact (below_size (qB HB))); (case aL => have := LMc37.out; omega); intro v348 w44 ho hb hg hat; rw [← Ny347.out] at ho; replace BK314 := am_ (blk_grown (qK BK314) hg (Kd.R_ne HO_4.out BK314.out (by decide))); replace HO343 := am_ (Kd.R_after (ok := (fun k_ => some k_ ≠ (.slice Ao45 y344.length co45 : Value).ownBlock)) (tR (Kd.R_mono HO343.out (fun _ hk => ⟨hk.2, hk.1.2⟩))) hg hat); replace HO346 := am_ (Kd.R_after (ok := (fun k_ => some k_ ≠ (.slice Ao41 t341.length co41 : Value).ownBlock)) (tR (Kd.R_mono HO346.out (fun _ hk => ⟨hk.2, hk.1.2⟩))) hg hat); replace HB := am_ (hb); have HO349 := am_ (ho); clear HO_4; clear ho hb hg hat) | ((with_reducible refine gate_builtin (b := .append) (xs := #[.tmp 61, .tmp 62]) rfl ?_); at_builtin; refine Kd.R_append_rows (Kd.int .u8) (w0 := w) w.heap.size rfl (.tmp 61) (.tmp 62) 22 5 (.int .u8 0) 1 rfl Try.underlying22 info5 rfl (by decide) (by omega) v348 y347 t341 _ _ _ (fun k_ => some k_ ≠ (.slice Ao41 t341.length co41 : Value).ownBlock ∧ some k_ ≠ (.slice Ao45 y344.length co45 : Value).ownBlock) (fun _ => False) rfl rfl ?aO ?aR (fun _ _ h => h) (fun _ h => h.elim) ?aF ?aB ?aS ?aL ?_; (case aR => exact qC ((Kd.R_reads' HO343.out).2.2)); (case aB => exact (qB HB)); (case aF => exact (fun k_ hk => ⟨Kd.fresh' (Kd.R_lt (qR HO343)) k_ hk, Kd.fresh' (Kd.R_lt (qR HO346)) k_ hk⟩)); (case aO => exact (qR HO349)); (case aS => exact (below_size (qB HB))); (case aL => have := LMc38.out; omega); intro v351 w46 ho hb hg hat; rw [← Ny350.out] at ho; replace BK314 := am_ (blk_grown (qK BK314) hg (Kd.R_ne HO349.out BK314.out (by decide))); replace HO343 := am_ (Kd.R_after (ok := (fun k_ => some k_ ≠ (.slice Ao45 y344.length co45 : Value).ownBlock)) (qR HO343) hg hat); replace HO346 := am_ (Kd.R_after (ok := (fun k_ => some k_ ≠ (.slice Ao41 t341.length co41 : Value).ownBlock)) (qR HO346) hg hat); replace HB := am_ (hb); have HO352 := am_ (ho); clear HO349; clear ho hb hg hat))
            go_roundg k2
            case measure => have := HJ7.out; have := HK2.out; omega
            case rel => exact ⟨(y350), (wrap64 (x5_2 + 1)), eqq_, H', ⟨by have := HJ7.out; have := HK2.out; omega⟩, ⟨by (with_reducible repeat (first | apply Kd.R_alloc | apply Kd.R_drewN | apply Kd.R_drew)); exact Kd.R_mono HO352.out (fun _ hk => trivial)⟩, ⟨qK BK314⟩, ⟨qB HB⟩⟩
           ·
            rw [if_neg c38] at H
            exact absurd H (by simp)
          ·
           rw [if_neg c37] at H
           exact absurd H (by simp)
         ·
          rw [if_neg c35] at H
          exact absurd H (by simp)
        ·
         rw [if_neg c34] at H
         have c34b0 : decide (x5_2 < (l0_7.length : Int)) = false := decide_eq_false c34
         clear c34
         obtain ⟨t353, A47, H⟩ := bd_ H
         obtain ⟨t354, A48, H⟩ := bd_ H
         obtain rfl := Option.some.inj H
         obtain ⟨z49_0, z49_1, z49_2, z49_3, z49_4, z49_5, z49_6, z49_7⟩ := cz8 BK314.out
         obtain ⟨f49_0, f49_1, f49_2, f49_3, f49_4, f49_5, f49_6, f49_7⟩ := fz8 BK314.out
         obtain ⟨Ao50, co50, eo50⟩ := Kd.R_slice HO_4.out
         subst eo50
         go_wp2_with (first | ((with_reducible refine gate_callee (f := 137) rfl ?_); refine goesL_ (some 66) rfl rfl Try.func137 (by kernel_rfl) rfl #[.slice Ao50 x4_2.length co50] rfl la_ ?_; (with_reducible refine (spec_Sum.calls k2 _ _ x4_2 t353 _ ?side1 ?side2 A47.out).mono ?_); (case side1 => exact qC ((Kd.R_reads' HO_4.out).2.2)); (case side2 => exact (Kd.R_reads' HO_4.out).2.1); rintro e w' ⟨rfl, ⟨nd, rfl⟩⟩; refine ⟨_, rfl, ?_⟩) | ((with_reducible refine gate_callee (f := 75) rfl ?_); refine goesL_ (some 67) rfl rfl Try.func75 (by kernel_rfl) rfl #[.slice Ao50 x4_2.length co50, .int .i64 t353] rfl la_ ?_; (with_reducible refine (spec_PutWord.calls _ _ x4_2 t353 t354 _ ?side1 ?side2 A48.out).mono ?_); (case side1 => exact qC ((Kd.R_reads' HO_4.out).2.2)); (case side2 => exact (Kd.R_reads' HO_4.out).2.1); rintro e w51 ⟨v355, rfl, ho0, hb⟩; refine ⟨_, rfl, ?_⟩; have HO356 := am_ (Kd.R_lower (Kd.R_new' ho0 (Kd.R_lt (qR HO_4))) (below_size (qB HB))); replace HO_4 := am_ (eR HO_4 ho0 hb); replace BK314 := am_ (blk_below (qK BK314) hb); replace HB := am_ (below_step (qB HB) hb); (try clear hb); (try clear hb2); (try clear hk); (try clear hi); (try clear ho0)))
         go_ret
         exact ⟨_, by first | rfl | (simp [errW_none, errW_some] <;> rfl) | (simp [*, errW_none, errW_some] <;> rfl), by (with_reducible repeat (first | apply Kd.R_alloc | apply Kd.R_drewN | apply Kd.R_drew)); exact Kd.R_mono HO356.out (fun _ hk => trivial), qB HB⟩
     ·
      rw [if_neg c14] at H
      exact absurd H (by simp)
    ·
     rw [if_neg c12] at H
     exact absurd H (by simp)
 ·
  replace c7 := Bool.eq_false_iff.mpr c7
  subst c7
  rw [if_neg (show ¬ (false = true) by decide)] at H
  obtain ⟨y316, hy316⟩ : ∃ y_ : List Int, y_ = (([] : List Int)) := ⟨_, rfl⟩
  rw [← hy316] at H
  have Ny316 := Aside0.mk hy316
  clear hy316
  obtain rfl := Option.some.inj H
  go_wp2_with (first | ((with_reducible refine gate_dst (N := 10) rfl ?_); refine Kd.R_lit (Kd.int .u8) _ 5 ?hg (N := 10) ?hd (xs := ([] : List Int)) (inner := []) (ok := fun _ => True) (okp := fun _ => True) ?hr ?hp (fun _ hk => hk) trivial (Below.refl _ _) (Nat.le_refl _) (by simp) ?_; (case hd => rfl); (case hg => rfl); (case hr => first | (go_simp; done) | (go_simp; rfl)); (case hp => exact (Reps.none _ _)); intro v317 w52 ho53 hb hg_ hnew_; clear hg_ hnew_; (first | rw [← Ny316.out] at ho53 | (simp only [Int.reduceToNat] at ho53; rw [← Ny316.out] at ho53)); have HO318 := am_ (Kd.R_lower ho53 (below_size (qB HB))); replace BK314 := am_ (blk_below (qK BK314) hb); replace HB := am_ (below_step (qB HB) hb); clear hb ho53))
  go_ret
  exact ⟨_, by first | rfl | (simp [errW_none, errW_some] <;> rfl) | (simp [*, errW_none, errW_some] <;> rfl), qR HO318, qB HB⟩

end Go.Proofs.Ytahfemlfdpbkkaa.PFnExactPutCtl
